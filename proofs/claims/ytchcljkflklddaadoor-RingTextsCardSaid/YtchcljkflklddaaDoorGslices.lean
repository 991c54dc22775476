/- WRITTEN BY PROGRAM (dec.py): for each Go function the clean formula F, the call's contract C, and the proof S that F gives C. -/
import Derived.Test.YtchcljkflklddaaDoorRows
import Derived.Test.YtchcljkflklddaaDoorGF
namespace Go.Proofs.YtchcljkflklddaaDoor
open Go
set_option linter.unusedVariables false
set_option maxRecDepth 100000
set_option maxHeartbeats 4000000
noncomputable section

/-! ### slices.Concat[[]string,string] (function 99) -/
def c99_0 := cb_ Tryd.f99
def c99_3 := cr_ c99_0
def c99_6 := cr_ c99_3
def c99_7 := cl_ c99_6
def c99_10 := cr_ c99_7
def c99_11 := cl_ c99_10
def c99_12 := cl_ c99_11
def c99_15 := cr_ c99_12
def c99_16 := cl_ c99_15
def c99_17 := cl_ c99_16
def c99_18 := cr_ c99_16
def c99_19 := cr_ c99_15
def c99_20 := cl_ c99_19
def c99_21 := cl_ c99_20
def c99_22 := cl_ c99_21
def r99_22 := co_ c99_22
def c99_24 := cr_ c99_21
def c99_27 := cr_ c99_24
def c99_30 := cr_ c99_27
def c99_31 := cl_ c99_30
def r99_31 := co_ c99_31
def c99_33 := cr_ c99_30
def c99_34 := cr_ c99_19
def r99_34 := co_ c99_34
def c99_36 := cr_ c99_6
def c99_37 := cl_ c99_36
def r99_37 := co_ c99_37
def c99_39 := cr_ c99_36
def c99_40 := cl_ c99_39
def c99_43 := cr_ c99_40
def c99_44 := cl_ c99_43
def c99_45 := cl_ c99_44
def c99_48 := cr_ c99_45
def c99_49 := cl_ c99_48
def c99_50 := cl_ c99_49
def c99_51 := cr_ c99_49
def c99_52 := cr_ c99_48
def c99_53 := cl_ c99_52
def c99_54 := cl_ c99_53
def c99_55 := cl_ c99_54
def r99_55 := co_ c99_55
def c99_57 := cr_ c99_54
def r99_57 := co_ c99_57
def c99_59 := cr_ c99_52
def r99_59 := co_ c99_59
def c99_61 := cr_ c99_39
def c99_64 := cr_ c99_61

theorem S_slices_Concat_string_string {slices : Slc} {w : World} {R : Slc → World → Prop} (h : F_slices_Concat_string_string slices R w) : C_slices_Concat_string_string slices w R := by
 unfold F_slices_Concat_string_string at h
 unfold C_slices_Concat_string_string
 refine Calls.mono (calls_of_wpE (args := [sv_ slices]) (R := fun v w' => ∃ (r0 : Slc), v = sv_ r0 ∧ R r0 w') Tryd.func99 (c := c99_0) (by kernel_rfl) 36 (by kernel_rfl) (by kernel_rfl) [(0, sv_ slices)] (by kernel_rfl) ?_) ?_
 · refine Zp c99_3 P1 [(0, sv_ slices)] ?_
   refine Zp c99_6 P1 [(0, sv_ slices), (3, .int .i64 0)] ?_
   refine Zs c99_7 c99_36 ?_
   refine Zp c99_10 P3 [(0, sv_ slices), (3, .int .i64 0), (9, sv_ slices), (10, .int .i64 ((slices.len : Nat) : Int)), (11, .int .i64 0)] ?_
   refine Zb 0 c99_11 ?_
   obtain ⟨I, μ, h0, hr⟩ := h
   refine wpE_loop (x := c99_12) (by kernel_rfl) (fun m l w => ∃ (size : Int) (t11 : Int), l = [(0, sv_ slices), (3, Value.int .i64 size), (9, sv_ slices), (10, Value.int .i64 ((slices.len : Nat) : Int)), (11, Value.int .i64 t11)] ∧ I size t11 w ∧ μ size t11 w = m) (l' := [(0, sv_ slices), (3, Value.int .i64 0), (9, sv_ slices), (10, Value.int .i64 ((slices.len : Nat) : Int)), (11, Value.int .i64 0)]) (Sub.mk (by kernel_rfl)) ⟨0, 0, rfl, h0, rfl⟩ ?_
   rintro _ _ w1 ⟨size, t11, rfl, hI, rfl⟩
   obtain ⟨again_, again__h, h⟩ : ∃ again_ : Int → Int → World → Prop, (∀ size' t11' w', again_ size' t11' w' → I size' t11' w' ∧ μ size' t11' w' < μ size t11 w1) ∧ F_slices_Concat_string_string_L0 slices R again_ size t11 w1 := ⟨_, fun _ _ _ h => h, hr size t11 w1 hI⟩
   clear h0 hI
   unfold F_slices_Concat_string_string_L0 at h
   refine Zp c99_15 P1 [(0, sv_ slices), (3, .int .i64 size), (9, sv_ slices), (10, .int .i64 ((slices.len : Nat) : Int)), (11, .int .i64 t11), (12, .bool (decide (t11 < ((slices.len : Nat) : Int))))] ?_
   refine Zs c99_16 c99_19 ?_
   refine Zc 12 (decide (t11 < ((slices.len : Nat) : Int))) c99_17 c99_18 (fun hb => ?_) (fun hb => ?_)
   · replace h := h.1 hb
     refine wpE_skip (by kernel_rfl) ?_
     change WpE _ _ c99_19 _ _ _
     refine Zs c99_20 c99_34 ?_
     refine Zb 1 c99_21 ?_
     refine Zt r99_22 c99_24 ?_
     refine Zn [] 0 [(0, [], sv_ slices), (3, [], .int .i64 size), (9, [], sv_ slices), (10, [], .int .i64 ((slices.len : Nat) : Int)), (11, [], .int .i64 t11)] ?_
     obtain ⟨hp_7, h⟩ := h
     refine Zv (fun pp => [(0, [], sv_ slices), (3, [], .int .i64 size), (9, [], .slice pp slices.len slices.cap), (10, [], .int .i64 ((slices.len : Nat) : Int)), (11, [], .int .i64 t11)]) hp_7 ?_
     obtain ⟨h0, h1, h⟩ := h
     refine Zi 162 82 9 11 (pblk slices.ptr) (poff slices.ptr) slices.len slices.cap t11 13 0 h0 h1 ?_
     refine Zn [] 1 [(0, [], sv_ slices), (3, [], .int .i64 size), (9, [], .slice (some ⟨(pblk slices.ptr), (poff slices.ptr), none⟩) slices.len slices.cap), (10, [], .int .i64 ((slices.len : Nat) : Int)), (11, [], .int .i64 t11), (13, [], .pointer (some ⟨(pblk slices.ptr), (poff slices.ptr) + t11.toNat, none⟩))] ?_
     obtain ⟨s, hc, h⟩ := h
     refine Zl 82 13 (pblk slices.ptr) ((poff slices.ptr) + t11.toNat) 82 14 hc ?_
     refine Zn P1 3 [(0, [], sv_ slices), (3, [], .int .i64 size), (5, [], sv_ s), (9, [], .slice (some ⟨(pblk slices.ptr), (poff slices.ptr), none⟩) slices.len slices.cap), (10, [], .int .i64 ((slices.len : Nat) : Int)), (11, [], .int .i64 t11)] ?_
     refine Zv (fun pp => [(0, [], sv_ slices), (3, [], .int .i64 size), (5, [], sv_ s), (9, [], .slice pp slices.len slices.cap), (10, [], .int .i64 ((slices.len : Nat) : Int)), (11, [], .int .i64 t11)]) hp_7.symm ?_
     refine Ze [(0, sv_ slices), (3, .int .i64 size), (5, sv_ s), (9, sv_ slices), (10, .int .i64 ((slices.len : Nat) : Int)), (11, .int .i64 t11)] ?_
     change WpE _ _ c99_24 _ _ _
     refine Zp c99_27 (Pl 5) [(0, sv_ slices), (3, .int .i64 (IntKind.i64.wrap (size + ((s.len : Nat) : Int)))), (9, sv_ slices), (10, .int .i64 ((slices.len : Nat) : Int)), (11, .int .i64 t11)] ?_
     refine Zp c99_30 P2 [(0, sv_ slices), (3, .int .i64 (IntKind.i64.wrap (size + ((s.len : Nat) : Int)))), (9, sv_ slices), (10, .int .i64 ((slices.len : Nat) : Int)), (11, .int .i64 t11), (20, .bool (decide ((IntKind.i64.wrap (size + ((s.len : Nat) : Int))) < 0)))] ?_
     refine Zc 20 (decide ((IntKind.i64.wrap (size + ((s.len : Nat) : Int))) < 0)) c99_31 c99_33 (fun hb => ?_) (fun hb => ?_)
     · replace h := h.1 hb
       refine Zr r99_31 ?_
       refine Zn P1 1 [(0, [], sv_ slices), (3, [], .int .i64 (IntKind.i64.wrap (size + ((s.len : Nat) : Int)))), (9, [], sv_ slices), (10, [], .int .i64 ((slices.len : Nat) : Int)), (11, [], .int .i64 t11), (21, [], .iface 9 (.string (ByteArray.mk #[108, 101, 110, 32, 111, 117, 116, 32, 111, 102, 32, 114, 97, 110, 103, 101])))] ?_
       exact h.elim
     · replace h := h.2 hb
       refine wpE_skip (by kernel_rfl) ?_
       change WpE _ _ c99_34 _ _ _
       refine Zr r99_34 ?_
       refine Zf P2 [(0, sv_ slices), (3, .int .i64 (IntKind.i64.wrap (size + ((s.len : Nat) : Int)))), (9, sv_ slices), (10, .int .i64 ((slices.len : Nat) : Int)), (11, .int .i64 (IntKind.i64.wrap (t11 + 1)))] ?_
       have hb_ := again__h _ _ _ h
       exact ⟨_, hb_.2, [(0, sv_ slices), (3, Value.int .i64 (IntKind.i64.wrap (size + ((s.len : Nat) : Int)))), (9, sv_ slices), (10, Value.int .i64 ((slices.len : Nat) : Int)), (11, Value.int .i64 (IntKind.i64.wrap (t11 + 1)))], Sub.mk (by kernel_rfl), (IntKind.i64.wrap (size + ((s.len : Nat) : Int))), (IntKind.i64.wrap (t11 + 1)), rfl, hb_.1, rfl⟩
   · replace h := h.2 hb
     refine wpE_exit (id := 0) (by kernel_rfl) ?_
     change WpE _ _ c99_36 _ _ _
     refine Zt r99_37 c99_39 ?_
     refine Zn P1 1 [(0, [], sv_ slices), (23, [], .int .i64 size)] ?_
     refine Zm 105 #[.slice none 0 0, .int .i64 size] (some 24) (Calls.mono h ?_)
     rintro _ w2 ⟨v24, rfl, h⟩
     refine ⟨_, rfl, ?_⟩
     refine Zf P1 [(0, sv_ slices), (6, sv_ v24)] ?_
     change WpE _ _ c99_39 _ _ _
     refine Zs c99_40 c99_61 ?_
     refine Zp c99_43 P3 [(6, sv_ v24), (25, sv_ slices), (26, .int .i64 ((slices.len : Nat) : Int)), (27, .int .i64 0)] ?_
     refine Zb 2 c99_44 ?_
     obtain ⟨I, μ, h0, hr⟩ := h
     refine wpE_loop (x := c99_45) (by kernel_rfl) (fun m l w => ∃ (newslice : Slc) (t27 : Int), l = [(6, sv_ newslice), (25, sv_ slices), (26, Value.int .i64 ((slices.len : Nat) : Int)), (27, Value.int .i64 t27)] ∧ I newslice t27 w ∧ μ newslice t27 w = m) (l' := [(6, sv_ v24), (25, sv_ slices), (26, Value.int .i64 ((slices.len : Nat) : Int)), (27, Value.int .i64 0)]) (Sub.mk (by kernel_rfl)) ⟨v24, 0, rfl, h0, rfl⟩ ?_
     rintro _ _ w3 ⟨newslice, t27, rfl, hI, rfl⟩
     obtain ⟨again_1, again_1_h, h⟩ : ∃ again_1 : Slc → Int → World → Prop, (∀ newslice' t27' w', again_1 newslice' t27' w' → I newslice' t27' w' ∧ μ newslice' t27' w' < μ newslice t27 w3) ∧ F_slices_Concat_string_string_L1 slices R again_1 newslice t27 w3 := ⟨_, fun _ _ _ h => h, hr newslice t27 w3 hI⟩
     clear h0 hI
     unfold F_slices_Concat_string_string_L1 at h
     refine Zp c99_48 P1 [(6, sv_ newslice), (25, sv_ slices), (26, .int .i64 ((slices.len : Nat) : Int)), (27, .int .i64 t27), (28, .bool (decide (t27 < ((slices.len : Nat) : Int))))] ?_
     refine Zs c99_49 c99_52 ?_
     refine Zc 28 (decide (t27 < ((slices.len : Nat) : Int))) c99_50 c99_51 (fun hb => ?_) (fun hb => ?_)
     · replace h := h.1 hb
       refine wpE_skip (by kernel_rfl) ?_
       change WpE _ _ c99_52 _ _ _
       refine Zs c99_53 c99_59 ?_
       refine Zb 3 c99_54 ?_
       refine Zt r99_55 c99_57 ?_
       refine Zn [] 0 [(6, [], sv_ newslice), (25, [], sv_ slices), (26, [], .int .i64 ((slices.len : Nat) : Int)), (27, [], .int .i64 t27)] ?_
       obtain ⟨hp_15, h⟩ := h
       refine Zv (fun pp => [(6, [], sv_ newslice), (25, [], .slice pp slices.len slices.cap), (26, [], .int .i64 ((slices.len : Nat) : Int)), (27, [], .int .i64 t27)]) hp_15 ?_
       obtain ⟨h0, h1, h⟩ := h
       refine Zi 162 82 25 27 (pblk slices.ptr) (poff slices.ptr) slices.len slices.cap t27 29 0 h0 h1 ?_
       refine Zn [] 1 [(6, [], sv_ newslice), (25, [], .slice (some ⟨(pblk slices.ptr), (poff slices.ptr), none⟩) slices.len slices.cap), (26, [], .int .i64 ((slices.len : Nat) : Int)), (27, [], .int .i64 t27), (29, [], .pointer (some ⟨(pblk slices.ptr), (poff slices.ptr) + t27.toNat, none⟩))] ?_
       obtain ⟨s1, hc, h⟩ := h
       refine Zl 82 29 (pblk slices.ptr) ((poff slices.ptr) + t27.toNat) 82 30 hc ?_
       refine Zn P1 3 [(6, [], sv_ newslice), (8, [], sv_ s1), (25, [], .slice (some ⟨(pblk slices.ptr), (poff slices.ptr), none⟩) slices.len slices.cap), (26, [], .int .i64 ((slices.len : Nat) : Int)), (27, [], .int .i64 t27)] ?_
       refine Zv (fun pp => [(6, [], sv_ newslice), (8, [], sv_ s1), (25, [], .slice pp slices.len slices.cap), (26, [], .int .i64 ((slices.len : Nat) : Int)), (27, [], .int .i64 t27)]) hp_15.symm ?_
       refine Ze [(6, sv_ newslice), (8, sv_ s1), (25, sv_ slices), (26, .int .i64 ((slices.len : Nat) : Int)), (27, .int .i64 t27)] ?_
       change WpE _ _ c99_57 _ _ _
       refine Zr r99_57 ?_
       refine Zn P2 2 [(6, [], sv_ newslice), (25, [], sv_ slices), (26, [], .int .i64 ((slices.len : Nat) : Int)), (27, [], .int .i64 t27), (31, [], sv_ newslice), (32, [], sv_ s1)] ?_
       obtain ⟨src, hs, h⟩ := h
       refine reg_append (t := 82) (tx := 82) (e := 9) (a := (Operand.tmp 31)) (xo := (Operand.tmp 32)) (s := newslice) (x := s1) (sz := 1) (by_ := 16) (zs := [Value.string ByteArray.empty]) (ty := 82) (dst := some 33)  src (by kernel_rfl) (by kernel_rfl) (by kernel_rfl) (by kernel_rfl) (by kernel_rfl) (by kernel_rfl) (by kernel_rfl) (by kernel_rfl) (by kernel_rfl) hs (AppendW.mono h (fun newslice1 w4 h => ?_))
       refine Zf P1 [(6, sv_ newslice1), (25, sv_ slices), (26, .int .i64 ((slices.len : Nat) : Int)), (27, .int .i64 t27)] ?_
       change WpE _ _ c99_59 _ _ _
       refine Zr r99_59 ?_
       refine Zf P2 [(6, sv_ newslice1), (25, sv_ slices), (26, .int .i64 ((slices.len : Nat) : Int)), (27, .int .i64 (IntKind.i64.wrap (t27 + 1)))] ?_
       have hb_ := again_1_h _ _ _ h
       exact ⟨_, hb_.2, [(6, sv_ newslice1), (25, sv_ slices), (26, Value.int .i64 ((slices.len : Nat) : Int)), (27, Value.int .i64 (IntKind.i64.wrap (t27 + 1)))], Sub.mk (by kernel_rfl), newslice1, (IntKind.i64.wrap (t27 + 1)), rfl, hb_.1, rfl⟩
     · replace h := h.2 hb
       refine wpE_exit (id := 2) (by kernel_rfl) ?_
       change WpE _ _ c99_61 _ _ _
       refine Zp c99_64 P2 [(2, sv_ newslice)] ?_
       refine wpE_ret (by kernel_rfl) ?_
       repeat (first | refine seqQ_ret ?_ | refine blockQ_ret ?_ | refine loopQ_ret ?_ | refine cutQ_ret ?_)
       exact retS (rs := [(ResultVar.tmp 2)]) (v := sv_ newslice) (by kernel_rfl) (⟨by kernel_rfl, trivial⟩) ⟨newslice, rfl, h⟩
 · rintro e w' ⟨v, rfl, r0, rfl, h⟩; exact ⟨r0, rfl, h⟩

/-! ### slices.Grow[[]string,string] (function 105) -/
def c105_0 := cb_ Tryd.f105
def c105_3 := cr_ c105_0
def c105_4 := cl_ c105_3
def c105_7 := cr_ c105_4
def c105_8 := cl_ c105_7
def r105_8 := co_ c105_8
def c105_10 := cr_ c105_7
def c105_11 := cr_ c105_3
def c105_12 := cl_ c105_11
def c105_15 := cr_ c105_12
def c105_18 := cr_ c105_15
def c105_19 := cl_ c105_18
def r105_19 := co_ c105_19
def c105_21 := cr_ c105_18
def c105_22 := cr_ c105_11
def c105_25 := cr_ c105_22

theorem S_slices_Grow_string_string {s : Slc} {n_ : Int} {w : World} {R : Slc → World → Prop} (h : F_slices_Grow_string_string s n_ R w) : C_slices_Grow_string_string s n_ w R := by
 unfold F_slices_Grow_string_string at h
 unfold C_slices_Grow_string_string
 refine Calls.mono (calls_of_wpE (args := [sv_ s, Value.int .i64 n_]) (R := fun v w' => ∃ (r0 : Slc), v = sv_ r0 ∧ R r0 w') Tryd.func105 (c := c105_0) (by kernel_rfl) 27 (by kernel_rfl) (by kernel_rfl) [(0, sv_ s), (1, Value.int .i64 n_)] (by kernel_rfl) ?_) ?_
 · refine Zp c105_3 P1 [(0, sv_ s), (1, .int .i64 n_)] ?_
   refine Zs c105_4 c105_11 ?_
   refine Zp c105_7 P2 [(0, sv_ s), (1, .int .i64 n_), (6, .bool (decide (n_ < 0)))] ?_
   refine Zc 6 (decide (n_ < 0)) c105_8 c105_10 (fun hb => ?_) (fun hb => ?_)
   · replace h := h.1 hb
     refine Zr r105_8 ?_
     refine Zn P1 1 [(0, [], sv_ s), (1, [], .int .i64 n_), (7, [], .iface 9 (.string (ByteArray.mk #[99, 97, 110, 110, 111, 116, 32, 98, 101, 32, 110, 101, 103, 97, 116, 105, 118, 101])))] ?_
     exact h.elim
   · replace h := h.2 hb
     refine wpE_skip (by kernel_rfl) ?_
     change WpE _ _ c105_11 _ _ _
     refine wpE_seq_cut (x := c105_12) (y := c105_22) (by kernel_rfl) (fun l w => ∃ (s1 : Slc), l = [(0, sv_ s1)] ∧ F_slices_Grow_string_string_k0 R s1 w) ?_ ?_
     · refine Zp c105_15 (Pl 8) [(0, sv_ s), (1, .int .i64 (IntKind.i64.wrap (n_ - (IntKind.i64.wrap (((s.cap : Nat) : Int) - ((s.len : Nat) : Int))))))] ?_
       refine Zp c105_18 P2 [(0, sv_ s), (1, .int .i64 (IntKind.i64.wrap (n_ - (IntKind.i64.wrap (((s.cap : Nat) : Int) - ((s.len : Nat) : Int)))))), (16, .bool (decide ((IntKind.i64.wrap (n_ - (IntKind.i64.wrap (((s.cap : Nat) : Int) - ((s.len : Nat) : Int))))) > 0)))] ?_
       refine Zc 16 (decide ((IntKind.i64.wrap (n_ - (IntKind.i64.wrap (((s.cap : Nat) : Int) - ((s.len : Nat) : Int))))) > 0)) c105_19 c105_21 (fun hb => ?_) (fun hb => ?_)
       · replace h := h.1 hb
         refine Zr r105_19 ?_
         refine Zn P3 3 [(0, [], sv_ s), (1, [], .int .i64 (IntKind.i64.wrap (n_ - (IntKind.i64.wrap (((s.cap : Nat) : Int) - ((s.len : Nat) : Int)))))), (17, [], sv_ s), (19, [], .int .i64 ((s.cap : Nat) : Int))] ?_
         obtain ⟨h0, h1, h⟩ := h
         refine reg_sliceHi (t := 82) (e := 9) (x := (Operand.tmp 17)) (hi := (Operand.tmp 19)) (p := s.ptr) (l := s.len) (c := s.cap) (sz := 1) (k := .i64) (j := ((s.cap : Nat) : Int)) (ty := 82) (dst := some 20) (by kernel_rfl) (by kernel_rfl) (by kernel_rfl) (by kernel_rfl) (by kernel_rfl) h0 h1 ?_
         refine Zn P1 5 [(0, [], sv_ s), (20, [], .slice s.ptr (((s.cap : Nat) : Int).toNat) s.cap), (21, [], .int .i64 (IntKind.i64.wrap (n_ - (IntKind.i64.wrap (((s.cap : Nat) : Int) - ((s.len : Nat) : Int))))))] ?_
         obtain ⟨h0, h1, h⟩ := h
         refine reg_appendZ (t := 82) (tx := 3) (e := 9) (a := (Operand.tmp 20)) (xo := (Operand.tmp 21)) (s := (Slc.mk s.ptr (((s.cap : Nat) : Int).toNat) s.cap)) (l := (IntKind.i64.wrap (n_ - (IntKind.i64.wrap (((s.cap : Nat) : Int) - ((s.len : Nat) : Int)))))) (sz := 1) (by_ := 16) (zs := [Value.string ByteArray.empty]) (ty := 82) (dst := some 22)  (by kernel_rfl) (by kernel_rfl) (by kernel_rfl) (by kernel_rfl) (by kernel_rfl) (by kernel_rfl) (by kernel_rfl) (by kernel_rfl) (by kernel_rfl) (by kernel_rfl) h0 h1 (AppendW.mono h (fun v22 w2 h => ?_))
         refine Zn P2 8 [(0, [], sv_ s), (22, [], sv_ v22), (24, [], .int .i64 ((s.len : Nat) : Int))] ?_
         obtain ⟨h0, h1, h⟩ := h
         refine reg_sliceHi (t := 82) (e := 9) (x := (Operand.tmp 22)) (hi := (Operand.tmp 24)) (p := v22.ptr) (l := v22.len) (c := v22.cap) (sz := 1) (k := .i64) (j := ((s.len : Nat) : Int)) (ty := 82) (dst := some 25) (by kernel_rfl) (by kernel_rfl) (by kernel_rfl) (by kernel_rfl) (by kernel_rfl) h0 h1 ?_
         refine Zf P1 [(0, .slice v22.ptr (((s.len : Nat) : Int).toNat) v22.cap)] ?_
         exact ⟨[(0, Value.slice v22.ptr (((s.len : Nat) : Int).toNat) v22.cap)], Sub.mk (by kernel_rfl), (Slc.mk v22.ptr (((s.len : Nat) : Int).toNat) v22.cap), rfl, h⟩
       · replace h := h.2 hb
         refine wpE_skip (by kernel_rfl) ?_
         exact ⟨[(0, sv_ s)], Sub.mk (by kernel_rfl), s, rfl, h⟩
     · rintro _ w1 ⟨s1, rfl, h⟩
       unfold F_slices_Grow_string_string_k0 at h
       refine Zp c105_25 P2 [(4, sv_ s1)] ?_
       refine wpE_ret (by kernel_rfl) ?_
       repeat (first | refine seqQ_ret ?_ | refine blockQ_ret ?_ | refine loopQ_ret ?_ | refine cutQ_ret ?_)
       exact retS (rs := [(ResultVar.tmp 4)]) (v := sv_ s1) (by kernel_rfl) (⟨by kernel_rfl, trivial⟩) ⟨s1, rfl, h⟩
 · rintro e w' ⟨v, rfl, r0, rfl, h⟩; exact ⟨r0, rfl, h⟩
end
end Go.Proofs.YtchcljkflklddaaDoor
