/- WRITTEN BY PROGRAM (dec.py): for each Go function the clean formula F, the call's contract C, and the proof S that F gives C. -/
import Derived.Test.YtpedclhflmhakaaRows
import Derived.Test.YtpedclhflmhakaaGF
namespace Go.Proofs.Ytpedclhflmhakaa
open Go
set_option linter.unusedVariables false
set_option maxRecDepth 100000
set_option maxHeartbeats 4000000
noncomputable section

/-! ### slices.Clone[[]int,int] (function 49) -/
def c49_0 := cb_ Try.f49
def c49_3 := cr_ c49_0
def c49_4 := cl_ c49_3
def c49_5 := cl_ c49_4
def r49_5 := co_ c49_5
def c49_7 := cr_ c49_4
def c49_8 := cl_ c49_7
def c49_11 := cr_ c49_8
def c49_12 := cr_ c49_7
def c49_13 := cr_ c49_3
def c49_14 := cl_ c49_13
def r49_14 := co_ c49_14
def c49_16 := cr_ c49_13

theorem S_slices_Clone_int_int {s : Slc} {w : World} {R : Slc → World → Prop} (h : F_slices_Clone_int_int s R w) : C_slices_Clone_int_int s w R := by
 unfold F_slices_Clone_int_int at h
 unfold C_slices_Clone_int_int
 refine Calls.mono (calls_of_wpE (args := [sv_ s]) (R := fun v w' => ∃ (r0 : Slc), v = sv_ r0 ∧ R r0 w') Try.func49 (c := c49_0) (by kernel_rfl) 8 (by kernel_rfl) (by kernel_rfl) [(0, sv_ s)] (by kernel_rfl) ?_) ?_
 · refine Zp c49_3 P1 [(0, sv_ s)] ?_
   refine Zs c49_4 c49_13 ?_
   refine Zt r49_5 c49_7 ?_
   refine Zn P1 1 [(0, [], sv_ s), (3, [], sv_ s)] ?_
   refine reg_val (op := (Op.binOp BinOp.eql 23 (Operand.tmp 3) (Operand.const (Value.slice none 0 0)) 23)) (ty := 4) (dst := some 4) (Value.bool s.ptr.isNone) (by kernel_rfl) (fun ww => run_slice_eql_R (p := s.ptr) (l := s.len) (c := s.cap) (by kernel_rfl) (by kernel_rfl) (by kernel_rfl) ww) ?_
   refine Ze [(0, sv_ s), (4, .bool s.ptr.isNone)] ?_
   change WpE _ _ c49_7 _ _ _
   refine Zc 4 s.ptr.isNone c49_8 c49_12 (fun hb => ?_) (fun hb => ?_)
   · replace h := h.1 hb
     refine Zp c49_11 P1 [(2, .slice none 0 0)] ?_
     refine wpE_ret (by kernel_rfl) ?_
     repeat (first | refine seqQ_ret ?_ | refine blockQ_ret ?_ | refine loopQ_ret ?_ | refine cutQ_ret ?_)
     exact retS (rs := [(ResultVar.tmp 2)]) (v := Value.slice none 0 0) (by kernel_rfl) (⟨by kernel_rfl, trivial⟩) ⟨(Slc.mk none 0 0), rfl, h⟩
   · replace h := h.2 hb
     refine wpE_skip (by kernel_rfl) ?_
     change WpE _ _ c49_13 _ _ _
     refine Zt r49_14 c49_16 ?_
     refine Zn [] 0 [(0, [], sv_ s)] ?_
     refine Zw (some 5) (fun bb => .slice (some ⟨bb, 0, none⟩) 0 0) (Obj.cells ([]).toArray ty_int (0, 0)) (fun b_ w1 hb hw => ?_)
     replace h := h b_ w1 hb hw
     clear hb hw
     refine Zn P1 2 [(5, [], .slice (some ⟨b_, 0, none⟩) 0 0), (6, [], sv_ s)] ?_
     obtain ⟨src, hs, h⟩ := h
     refine reg_append (t := 23) (tx := 23) (e := 3) (a := (Operand.tmp 5)) (xo := (Operand.tmp 6)) (s := (Slc.mk (some ⟨b_, 0, none⟩) 0 0)) (x := s) (sz := 1) (by_ := 8) (zs := [Value.int .i64 0]) (ty := 23) (dst := some 7)  src (by kernel_rfl) (by kernel_rfl) (by kernel_rfl) (by kernel_rfl) (by kernel_rfl) (by kernel_rfl) (by kernel_rfl) (by kernel_rfl) (by kernel_rfl) hs (AppendW.mono h (fun v7 w2 h => ?_))
     refine Zf P1 [(2, sv_ v7)] ?_
     change WpE _ _ c49_16 _ _ _
     refine wpE_ret (by kernel_rfl) ?_
     repeat (first | refine seqQ_ret ?_ | refine blockQ_ret ?_ | refine loopQ_ret ?_ | refine cutQ_ret ?_)
     exact retS (rs := [(ResultVar.tmp 2)]) (v := sv_ v7) (by kernel_rfl) (⟨by kernel_rfl, trivial⟩) ⟨v7, rfl, h⟩
 · rintro e w' ⟨v, rfl, r0, rfl, h⟩; exact ⟨r0, rfl, h⟩

/-! ### slices.Clone[[]towpath/api.Version,towpath/api.Version] (function 88) -/
def c88_0 := cb_ Try.f88
def c88_3 := cr_ c88_0
def c88_4 := cl_ c88_3
def c88_5 := cl_ c88_4
def r88_5 := co_ c88_5
def c88_7 := cr_ c88_4
def c88_8 := cl_ c88_7
def c88_11 := cr_ c88_8
def c88_12 := cr_ c88_7
def c88_13 := cr_ c88_3
def c88_14 := cl_ c88_13
def r88_14 := co_ c88_14
def c88_16 := cr_ c88_13

theorem S_slices_Clone_api_Version_api_Version {s : Slc} {w : World} {R : Slc → World → Prop} (h : F_slices_Clone_api_Version_api_Version s R w) : C_slices_Clone_api_Version_api_Version s w R := by
 unfold F_slices_Clone_api_Version_api_Version at h
 unfold C_slices_Clone_api_Version_api_Version
 refine Calls.mono (calls_of_wpE (args := [sv_ s]) (R := fun v w' => ∃ (r0 : Slc), v = sv_ r0 ∧ R r0 w') Try.func88 (c := c88_0) (by kernel_rfl) 8 (by kernel_rfl) (by kernel_rfl) [(0, sv_ s)] (by kernel_rfl) ?_) ?_
 · refine Zp c88_3 P1 [(0, sv_ s)] ?_
   refine Zs c88_4 c88_13 ?_
   refine Zt r88_5 c88_7 ?_
   refine Zn P1 1 [(0, [], sv_ s), (3, [], sv_ s)] ?_
   refine reg_val (op := (Op.binOp BinOp.eql 141 (Operand.tmp 3) (Operand.const (Value.slice none 0 0)) 141)) (ty := 4) (dst := some 4) (Value.bool s.ptr.isNone) (by kernel_rfl) (fun ww => run_slice_eql_R (p := s.ptr) (l := s.len) (c := s.cap) (by kernel_rfl) (by kernel_rfl) (by kernel_rfl) ww) ?_
   refine Ze [(0, sv_ s), (4, .bool s.ptr.isNone)] ?_
   change WpE _ _ c88_7 _ _ _
   refine Zc 4 s.ptr.isNone c88_8 c88_12 (fun hb => ?_) (fun hb => ?_)
   · replace h := h.1 hb
     refine Zp c88_11 P1 [(2, .slice none 0 0)] ?_
     refine wpE_ret (by kernel_rfl) ?_
     repeat (first | refine seqQ_ret ?_ | refine blockQ_ret ?_ | refine loopQ_ret ?_ | refine cutQ_ret ?_)
     exact retS (rs := [(ResultVar.tmp 2)]) (v := Value.slice none 0 0) (by kernel_rfl) (⟨by kernel_rfl, trivial⟩) ⟨(Slc.mk none 0 0), rfl, h⟩
   · replace h := h.2 hb
     refine wpE_skip (by kernel_rfl) ?_
     change WpE _ _ c88_13 _ _ _
     refine Zt r88_14 c88_16 ?_
     refine Zn [] 0 [(0, [], sv_ s)] ?_
     refine Zw (some 5) (fun bb => .slice (some ⟨bb, 0, none⟩) 0 0) (Obj.cells ([]).toArray ty_api_Version (0, 0)) (fun b_ w1 hb hw => ?_)
     replace h := h b_ w1 hb hw
     clear hb hw
     refine Zn P1 2 [(5, [], .slice (some ⟨b_, 0, none⟩) 0 0), (6, [], sv_ s)] ?_
     obtain ⟨src, hs, h⟩ := h
     refine reg_append (t := 141) (tx := 141) (e := 145) (a := (Operand.tmp 5)) (xo := (Operand.tmp 6)) (s := (Slc.mk (some ⟨b_, 0, none⟩) 0 0)) (x := s) (sz := 3) (by_ := 32) (zs := [Value.int .i64 0, Value.string ByteArray.empty, Value.bool false]) (ty := 141) (dst := some 7)  src (by kernel_rfl) (by kernel_rfl) (by kernel_rfl) (by kernel_rfl) (by kernel_rfl) (by kernel_rfl) (by kernel_rfl) (by kernel_rfl) (by kernel_rfl) hs (AppendW.mono h (fun v7 w2 h => ?_))
     refine Zf P1 [(2, sv_ v7)] ?_
     change WpE _ _ c88_16 _ _ _
     refine wpE_ret (by kernel_rfl) ?_
     repeat (first | refine seqQ_ret ?_ | refine blockQ_ret ?_ | refine loopQ_ret ?_ | refine cutQ_ret ?_)
     exact retS (rs := [(ResultVar.tmp 2)]) (v := sv_ v7) (by kernel_rfl) (⟨by kernel_rfl, trivial⟩) ⟨v7, rfl, h⟩
 · rintro e w' ⟨v, rfl, r0, rfl, h⟩; exact ⟨r0, rfl, h⟩

/-! ### slices.Clone[[]towpath/api.Entry,towpath/api.Entry] (function 89) -/
def c89_0 := cb_ Try.f89
def c89_3 := cr_ c89_0
def c89_4 := cl_ c89_3
def c89_5 := cl_ c89_4
def r89_5 := co_ c89_5
def c89_7 := cr_ c89_4
def c89_8 := cl_ c89_7
def c89_11 := cr_ c89_8
def c89_12 := cr_ c89_7
def c89_13 := cr_ c89_3
def c89_14 := cl_ c89_13
def r89_14 := co_ c89_14
def c89_16 := cr_ c89_13

theorem S_slices_Clone_api_Entry_api_Entry {s : Slc} {w : World} {R : Slc → World → Prop} (h : F_slices_Clone_api_Entry_api_Entry s R w) : C_slices_Clone_api_Entry_api_Entry s w R := by
 unfold F_slices_Clone_api_Entry_api_Entry at h
 unfold C_slices_Clone_api_Entry_api_Entry
 refine Calls.mono (calls_of_wpE (args := [sv_ s]) (R := fun v w' => ∃ (r0 : Slc), v = sv_ r0 ∧ R r0 w') Try.func89 (c := c89_0) (by kernel_rfl) 8 (by kernel_rfl) (by kernel_rfl) [(0, sv_ s)] (by kernel_rfl) ?_) ?_
 · refine Zp c89_3 P1 [(0, sv_ s)] ?_
   refine Zs c89_4 c89_13 ?_
   refine Zt r89_5 c89_7 ?_
   refine Zn P1 1 [(0, [], sv_ s), (3, [], sv_ s)] ?_
   refine reg_val (op := (Op.binOp BinOp.eql 92 (Operand.tmp 3) (Operand.const (Value.slice none 0 0)) 92)) (ty := 4) (dst := some 4) (Value.bool s.ptr.isNone) (by kernel_rfl) (fun ww => run_slice_eql_R (p := s.ptr) (l := s.len) (c := s.cap) (by kernel_rfl) (by kernel_rfl) (by kernel_rfl) ww) ?_
   refine Ze [(0, sv_ s), (4, .bool s.ptr.isNone)] ?_
   change WpE _ _ c89_7 _ _ _
   refine Zc 4 s.ptr.isNone c89_8 c89_12 (fun hb => ?_) (fun hb => ?_)
   · replace h := h.1 hb
     refine Zp c89_11 P1 [(2, .slice none 0 0)] ?_
     refine wpE_ret (by kernel_rfl) ?_
     repeat (first | refine seqQ_ret ?_ | refine blockQ_ret ?_ | refine loopQ_ret ?_ | refine cutQ_ret ?_)
     exact retS (rs := [(ResultVar.tmp 2)]) (v := Value.slice none 0 0) (by kernel_rfl) (⟨by kernel_rfl, trivial⟩) ⟨(Slc.mk none 0 0), rfl, h⟩
   · replace h := h.2 hb
     refine wpE_skip (by kernel_rfl) ?_
     change WpE _ _ c89_13 _ _ _
     refine Zt r89_14 c89_16 ?_
     refine Zn [] 0 [(0, [], sv_ s)] ?_
     refine Zw (some 5) (fun bb => .slice (some ⟨bb, 0, none⟩) 0 0) (Obj.cells ([]).toArray ty_api_Entry (0, 0)) (fun b_ w1 hb hw => ?_)
     replace h := h b_ w1 hb hw
     clear hb hw
     refine Zn P1 2 [(5, [], .slice (some ⟨b_, 0, none⟩) 0 0), (6, [], sv_ s)] ?_
     obtain ⟨src, hs, h⟩ := h
     refine reg_append (t := 92) (tx := 92) (e := 140) (a := (Operand.tmp 5)) (xo := (Operand.tmp 6)) (s := (Slc.mk (some ⟨b_, 0, none⟩) 0 0)) (x := s) (sz := 2) (by_ := 32) (zs := [Value.string ByteArray.empty, Value.string ByteArray.empty]) (ty := 92) (dst := some 7)  src (by kernel_rfl) (by kernel_rfl) (by kernel_rfl) (by kernel_rfl) (by kernel_rfl) (by kernel_rfl) (by kernel_rfl) (by kernel_rfl) (by kernel_rfl) hs (AppendW.mono h (fun v7 w2 h => ?_))
     refine Zf P1 [(2, sv_ v7)] ?_
     change WpE _ _ c89_16 _ _ _
     refine wpE_ret (by kernel_rfl) ?_
     repeat (first | refine seqQ_ret ?_ | refine blockQ_ret ?_ | refine loopQ_ret ?_ | refine cutQ_ret ?_)
     exact retS (rs := [(ResultVar.tmp 2)]) (v := sv_ v7) (by kernel_rfl) (⟨by kernel_rfl, trivial⟩) ⟨v7, rfl, h⟩
 · rintro e w' ⟨v, rfl, r0, rfl, h⟩; exact ⟨r0, rfl, h⟩

/-! ### slices.SortStableFunc[[]towpath/api.Held,towpath/api.Held] (function 91) -/
def c91_0 := cb_ Try.f91
def r91_0 := co_ c91_0

theorem S_slices_SortStableFunc_api_Held_api_Held {x : Slc} {cmp : Value} {w : World} {R : World → Prop} (h : F_slices_SortStableFunc_api_Held_api_Held x cmp R w) : C_slices_SortStableFunc_api_Held_api_Held x cmp w R := by
 unfold F_slices_SortStableFunc_api_Held_api_Held at h
 unfold C_slices_SortStableFunc_api_Held_api_Held
 refine Calls.mono (calls_of_wpE (args := [sv_ x, cmp]) (R := fun v w' => v = Value.tuple #[] ∧ R w') Try.func91 (c := c91_0) (by kernel_rfl) 9 (by kernel_rfl) (by kernel_rfl) [(0, sv_ x), (1, cmp)] (by kernel_rfl) ?_) ?_
 · refine Zr r91_0 ?_
   refine Zn P4 4 [(4, [], sv_ x), (6, [], .int .i64 ((x.len : Nat) : Int)), (7, [], cmp)] ?_
   refine Zm 114 #[sv_ x, .int .i64 ((x.len : Nat) : Int), cmp] (some 8) (Calls.mono h ?_)
   rintro _ w1 ⟨rfl, h⟩
   refine ⟨_, rfl, ?_⟩
   refine Ze [] ?_
   repeat (first | refine seqQ_exit ?_ | refine loopQ_exit ?_ | refine cutQ_exit ?_ | refine blockQ_hit ?_ | refine blockQ_miss (by kernel_rfl) ?_)
   refine retQ_normal ?_
   repeat (first | refine seqQ_ret ?_ | refine blockQ_ret ?_ | refine loopQ_ret ?_ | refine cutQ_ret ?_)
   exact retT (rs := []) (vs := []) (by kernel_rfl) (trivial) (by kernel_rfl) ⟨rfl, h⟩
 · rintro e w' ⟨v, rfl, rfl, h⟩; exact ⟨rfl, h⟩

/-! ### slices.Concat[[]towpath/api.Entry,towpath/api.Entry] (function 111) -/
def c111_0 := cb_ Try.f111
def c111_3 := cr_ c111_0
def c111_6 := cr_ c111_3
def c111_7 := cl_ c111_6
def c111_10 := cr_ c111_7
def c111_11 := cl_ c111_10
def c111_12 := cl_ c111_11
def c111_15 := cr_ c111_12
def c111_16 := cl_ c111_15
def c111_17 := cl_ c111_16
def c111_18 := cr_ c111_16
def c111_19 := cr_ c111_15
def c111_20 := cl_ c111_19
def c111_21 := cl_ c111_20
def c111_22 := cl_ c111_21
def r111_22 := co_ c111_22
def c111_24 := cr_ c111_21
def c111_27 := cr_ c111_24
def c111_30 := cr_ c111_27
def c111_31 := cl_ c111_30
def r111_31 := co_ c111_31
def c111_33 := cr_ c111_30
def c111_34 := cr_ c111_19
def r111_34 := co_ c111_34
def c111_36 := cr_ c111_6
def c111_37 := cl_ c111_36
def r111_37 := co_ c111_37
def c111_39 := cr_ c111_36
def c111_40 := cl_ c111_39
def c111_43 := cr_ c111_40
def c111_44 := cl_ c111_43
def c111_45 := cl_ c111_44
def c111_48 := cr_ c111_45
def c111_49 := cl_ c111_48
def c111_50 := cl_ c111_49
def c111_51 := cr_ c111_49
def c111_52 := cr_ c111_48
def c111_53 := cl_ c111_52
def c111_54 := cl_ c111_53
def c111_55 := cl_ c111_54
def r111_55 := co_ c111_55
def c111_57 := cr_ c111_54
def r111_57 := co_ c111_57
def c111_59 := cr_ c111_52
def r111_59 := co_ c111_59
def c111_61 := cr_ c111_39
def c111_64 := cr_ c111_61

theorem S_slices_Concat_api_Entry_api_Entry {slices : Slc} {w : World} {R : Slc → World → Prop} (h : F_slices_Concat_api_Entry_api_Entry slices R w) : C_slices_Concat_api_Entry_api_Entry slices w R := by
 unfold F_slices_Concat_api_Entry_api_Entry at h
 unfold C_slices_Concat_api_Entry_api_Entry
 refine Calls.mono (calls_of_wpE (args := [sv_ slices]) (R := fun v w' => ∃ (r0 : Slc), v = sv_ r0 ∧ R r0 w') Try.func111 (c := c111_0) (by kernel_rfl) 36 (by kernel_rfl) (by kernel_rfl) [(0, sv_ slices)] (by kernel_rfl) ?_) ?_
 · refine Zp c111_3 P1 [(0, sv_ slices)] ?_
   refine Zp c111_6 P1 [(0, sv_ slices), (3, .int .i64 0)] ?_
   refine Zs c111_7 c111_36 ?_
   refine Zp c111_10 P3 [(0, sv_ slices), (3, .int .i64 0), (9, sv_ slices), (10, .int .i64 ((slices.len : Nat) : Int)), (11, .int .i64 0)] ?_
   refine Zb 0 c111_11 ?_
   obtain ⟨I, μ, h0, hr⟩ := h
   refine wpE_loop (x := c111_12) (by kernel_rfl) (fun m l w => ∃ (size : Int) (t11 : Int), l = [(0, sv_ slices), (3, Value.int .i64 size), (9, sv_ slices), (10, Value.int .i64 ((slices.len : Nat) : Int)), (11, Value.int .i64 t11)] ∧ I size t11 w ∧ μ size t11 w = m) (l' := [(0, sv_ slices), (3, Value.int .i64 0), (9, sv_ slices), (10, Value.int .i64 ((slices.len : Nat) : Int)), (11, Value.int .i64 0)]) (Sub.mk (by kernel_rfl)) ⟨0, 0, rfl, h0, rfl⟩ ?_
   rintro _ _ w1 ⟨size, t11, rfl, hI, rfl⟩
   obtain ⟨again_, again__h, h⟩ : ∃ again_ : Int → Int → World → Prop, (∀ size' t11' w', again_ size' t11' w' → I size' t11' w' ∧ μ size' t11' w' < μ size t11 w1) ∧ F_slices_Concat_api_Entry_api_Entry_L0 slices R again_ size t11 w1 := ⟨_, fun _ _ _ h => h, hr size t11 w1 hI⟩
   clear h0 hI
   unfold F_slices_Concat_api_Entry_api_Entry_L0 at h
   refine Zp c111_15 P1 [(0, sv_ slices), (3, .int .i64 size), (9, sv_ slices), (10, .int .i64 ((slices.len : Nat) : Int)), (11, .int .i64 t11), (12, .bool (decide (t11 < ((slices.len : Nat) : Int))))] ?_
   refine Zs c111_16 c111_19 ?_
   refine Zc 12 (decide (t11 < ((slices.len : Nat) : Int))) c111_17 c111_18 (fun hb => ?_) (fun hb => ?_)
   · replace h := h.1 hb
     refine wpE_skip (by kernel_rfl) ?_
     change WpE _ _ c111_19 _ _ _
     refine Zs c111_20 c111_34 ?_
     refine Zb 1 c111_21 ?_
     refine Zt r111_22 c111_24 ?_
     refine Zn [] 0 [(0, [], sv_ slices), (3, [], .int .i64 size), (9, [], sv_ slices), (10, [], .int .i64 ((slices.len : Nat) : Int)), (11, [], .int .i64 t11)] ?_
     obtain ⟨hp_7, h⟩ := h
     refine Zv (fun pp => [(0, [], sv_ slices), (3, [], .int .i64 size), (9, [], .slice pp slices.len slices.cap), (10, [], .int .i64 ((slices.len : Nat) : Int)), (11, [], .int .i64 t11)]) hp_7 ?_
     obtain ⟨h0, h1, h⟩ := h
     refine Zi 174 92 9 11 (pblk slices.ptr) (poff slices.ptr) slices.len slices.cap t11 13 0 h0 h1 ?_
     refine Zn [] 1 [(0, [], sv_ slices), (3, [], .int .i64 size), (9, [], .slice (some ⟨(pblk slices.ptr), (poff slices.ptr), none⟩) slices.len slices.cap), (10, [], .int .i64 ((slices.len : Nat) : Int)), (11, [], .int .i64 t11), (13, [], .pointer (some ⟨(pblk slices.ptr), (poff slices.ptr) + t11.toNat, none⟩))] ?_
     obtain ⟨s, hc, h⟩ := h
     refine Zl 92 13 (pblk slices.ptr) ((poff slices.ptr) + t11.toNat) 92 14 hc ?_
     refine Zn P1 3 [(0, [], sv_ slices), (3, [], .int .i64 size), (5, [], sv_ s), (9, [], .slice (some ⟨(pblk slices.ptr), (poff slices.ptr), none⟩) slices.len slices.cap), (10, [], .int .i64 ((slices.len : Nat) : Int)), (11, [], .int .i64 t11)] ?_
     refine Zv (fun pp => [(0, [], sv_ slices), (3, [], .int .i64 size), (5, [], sv_ s), (9, [], .slice pp slices.len slices.cap), (10, [], .int .i64 ((slices.len : Nat) : Int)), (11, [], .int .i64 t11)]) hp_7.symm ?_
     refine Ze [(0, sv_ slices), (3, .int .i64 size), (5, sv_ s), (9, sv_ slices), (10, .int .i64 ((slices.len : Nat) : Int)), (11, .int .i64 t11)] ?_
     change WpE _ _ c111_24 _ _ _
     refine Zp c111_27 (Pl 5) [(0, sv_ slices), (3, .int .i64 (IntKind.i64.wrap (size + ((s.len : Nat) : Int)))), (9, sv_ slices), (10, .int .i64 ((slices.len : Nat) : Int)), (11, .int .i64 t11)] ?_
     refine Zp c111_30 P2 [(0, sv_ slices), (3, .int .i64 (IntKind.i64.wrap (size + ((s.len : Nat) : Int)))), (9, sv_ slices), (10, .int .i64 ((slices.len : Nat) : Int)), (11, .int .i64 t11), (20, .bool (decide ((IntKind.i64.wrap (size + ((s.len : Nat) : Int))) < 0)))] ?_
     refine Zc 20 (decide ((IntKind.i64.wrap (size + ((s.len : Nat) : Int))) < 0)) c111_31 c111_33 (fun hb => ?_) (fun hb => ?_)
     · replace h := h.1 hb
       refine Zr r111_31 ?_
       refine Zn P1 1 [(0, [], sv_ slices), (3, [], .int .i64 (IntKind.i64.wrap (size + ((s.len : Nat) : Int)))), (9, [], sv_ slices), (10, [], .int .i64 ((slices.len : Nat) : Int)), (11, [], .int .i64 t11), (21, [], .iface 9 (.string (ByteArray.mk #[108, 101, 110, 32, 111, 117, 116, 32, 111, 102, 32, 114, 97, 110, 103, 101])))] ?_
       exact h.elim
     · replace h := h.2 hb
       refine wpE_skip (by kernel_rfl) ?_
       change WpE _ _ c111_34 _ _ _
       refine Zr r111_34 ?_
       refine Zf P2 [(0, sv_ slices), (3, .int .i64 (IntKind.i64.wrap (size + ((s.len : Nat) : Int)))), (9, sv_ slices), (10, .int .i64 ((slices.len : Nat) : Int)), (11, .int .i64 (IntKind.i64.wrap (t11 + 1)))] ?_
       have hb_ := again__h _ _ _ h
       exact ⟨_, hb_.2, [(0, sv_ slices), (3, Value.int .i64 (IntKind.i64.wrap (size + ((s.len : Nat) : Int)))), (9, sv_ slices), (10, Value.int .i64 ((slices.len : Nat) : Int)), (11, Value.int .i64 (IntKind.i64.wrap (t11 + 1)))], Sub.mk (by kernel_rfl), (IntKind.i64.wrap (size + ((s.len : Nat) : Int))), (IntKind.i64.wrap (t11 + 1)), rfl, hb_.1, rfl⟩
   · replace h := h.2 hb
     refine wpE_exit (id := 0) (by kernel_rfl) ?_
     change WpE _ _ c111_36 _ _ _
     refine Zt r111_37 c111_39 ?_
     refine Zn P1 1 [(0, [], sv_ slices), (23, [], .int .i64 size)] ?_
     refine Zm 126 #[.slice none 0 0, .int .i64 size] (some 24) (Calls.mono h ?_)
     rintro _ w2 ⟨v24, rfl, h⟩
     refine ⟨_, rfl, ?_⟩
     refine Zf P1 [(0, sv_ slices), (6, sv_ v24)] ?_
     change WpE _ _ c111_39 _ _ _
     refine Zs c111_40 c111_61 ?_
     refine Zp c111_43 P3 [(6, sv_ v24), (25, sv_ slices), (26, .int .i64 ((slices.len : Nat) : Int)), (27, .int .i64 0)] ?_
     refine Zb 2 c111_44 ?_
     obtain ⟨I, μ, h0, hr⟩ := h
     refine wpE_loop (x := c111_45) (by kernel_rfl) (fun m l w => ∃ (newslice : Slc) (t27 : Int), l = [(6, sv_ newslice), (25, sv_ slices), (26, Value.int .i64 ((slices.len : Nat) : Int)), (27, Value.int .i64 t27)] ∧ I newslice t27 w ∧ μ newslice t27 w = m) (l' := [(6, sv_ v24), (25, sv_ slices), (26, Value.int .i64 ((slices.len : Nat) : Int)), (27, Value.int .i64 0)]) (Sub.mk (by kernel_rfl)) ⟨v24, 0, rfl, h0, rfl⟩ ?_
     rintro _ _ w3 ⟨newslice, t27, rfl, hI, rfl⟩
     obtain ⟨again_1, again_1_h, h⟩ : ∃ again_1 : Slc → Int → World → Prop, (∀ newslice' t27' w', again_1 newslice' t27' w' → I newslice' t27' w' ∧ μ newslice' t27' w' < μ newslice t27 w3) ∧ F_slices_Concat_api_Entry_api_Entry_L1 slices R again_1 newslice t27 w3 := ⟨_, fun _ _ _ h => h, hr newslice t27 w3 hI⟩
     clear h0 hI
     unfold F_slices_Concat_api_Entry_api_Entry_L1 at h
     refine Zp c111_48 P1 [(6, sv_ newslice), (25, sv_ slices), (26, .int .i64 ((slices.len : Nat) : Int)), (27, .int .i64 t27), (28, .bool (decide (t27 < ((slices.len : Nat) : Int))))] ?_
     refine Zs c111_49 c111_52 ?_
     refine Zc 28 (decide (t27 < ((slices.len : Nat) : Int))) c111_50 c111_51 (fun hb => ?_) (fun hb => ?_)
     · replace h := h.1 hb
       refine wpE_skip (by kernel_rfl) ?_
       change WpE _ _ c111_52 _ _ _
       refine Zs c111_53 c111_59 ?_
       refine Zb 3 c111_54 ?_
       refine Zt r111_55 c111_57 ?_
       refine Zn [] 0 [(6, [], sv_ newslice), (25, [], sv_ slices), (26, [], .int .i64 ((slices.len : Nat) : Int)), (27, [], .int .i64 t27)] ?_
       obtain ⟨hp_15, h⟩ := h
       refine Zv (fun pp => [(6, [], sv_ newslice), (25, [], .slice pp slices.len slices.cap), (26, [], .int .i64 ((slices.len : Nat) : Int)), (27, [], .int .i64 t27)]) hp_15 ?_
       obtain ⟨h0, h1, h⟩ := h
       refine Zi 174 92 25 27 (pblk slices.ptr) (poff slices.ptr) slices.len slices.cap t27 29 0 h0 h1 ?_
       refine Zn [] 1 [(6, [], sv_ newslice), (25, [], .slice (some ⟨(pblk slices.ptr), (poff slices.ptr), none⟩) slices.len slices.cap), (26, [], .int .i64 ((slices.len : Nat) : Int)), (27, [], .int .i64 t27), (29, [], .pointer (some ⟨(pblk slices.ptr), (poff slices.ptr) + t27.toNat, none⟩))] ?_
       obtain ⟨s1, hc, h⟩ := h
       refine Zl 92 29 (pblk slices.ptr) ((poff slices.ptr) + t27.toNat) 92 30 hc ?_
       refine Zn P1 3 [(6, [], sv_ newslice), (8, [], sv_ s1), (25, [], .slice (some ⟨(pblk slices.ptr), (poff slices.ptr), none⟩) slices.len slices.cap), (26, [], .int .i64 ((slices.len : Nat) : Int)), (27, [], .int .i64 t27)] ?_
       refine Zv (fun pp => [(6, [], sv_ newslice), (8, [], sv_ s1), (25, [], .slice pp slices.len slices.cap), (26, [], .int .i64 ((slices.len : Nat) : Int)), (27, [], .int .i64 t27)]) hp_15.symm ?_
       refine Ze [(6, sv_ newslice), (8, sv_ s1), (25, sv_ slices), (26, .int .i64 ((slices.len : Nat) : Int)), (27, .int .i64 t27)] ?_
       change WpE _ _ c111_57 _ _ _
       refine Zr r111_57 ?_
       refine Zn P2 2 [(6, [], sv_ newslice), (25, [], sv_ slices), (26, [], .int .i64 ((slices.len : Nat) : Int)), (27, [], .int .i64 t27), (31, [], sv_ newslice), (32, [], sv_ s1)] ?_
       obtain ⟨src, hs, h⟩ := h
       refine reg_append (t := 92) (tx := 92) (e := 140) (a := (Operand.tmp 31)) (xo := (Operand.tmp 32)) (s := newslice) (x := s1) (sz := 2) (by_ := 32) (zs := [Value.string ByteArray.empty, Value.string ByteArray.empty]) (ty := 92) (dst := some 33)  src (by kernel_rfl) (by kernel_rfl) (by kernel_rfl) (by kernel_rfl) (by kernel_rfl) (by kernel_rfl) (by kernel_rfl) (by kernel_rfl) (by kernel_rfl) hs (AppendW.mono h (fun newslice1 w4 h => ?_))
       refine Zf P1 [(6, sv_ newslice1), (25, sv_ slices), (26, .int .i64 ((slices.len : Nat) : Int)), (27, .int .i64 t27)] ?_
       change WpE _ _ c111_59 _ _ _
       refine Zr r111_59 ?_
       refine Zf P2 [(6, sv_ newslice1), (25, sv_ slices), (26, .int .i64 ((slices.len : Nat) : Int)), (27, .int .i64 (IntKind.i64.wrap (t27 + 1)))] ?_
       have hb_ := again_1_h _ _ _ h
       exact ⟨_, hb_.2, [(6, sv_ newslice1), (25, sv_ slices), (26, Value.int .i64 ((slices.len : Nat) : Int)), (27, Value.int .i64 (IntKind.i64.wrap (t27 + 1)))], Sub.mk (by kernel_rfl), newslice1, (IntKind.i64.wrap (t27 + 1)), rfl, hb_.1, rfl⟩
     · replace h := h.2 hb
       refine wpE_exit (id := 2) (by kernel_rfl) ?_
       change WpE _ _ c111_61 _ _ _
       refine Zp c111_64 P2 [(2, sv_ newslice)] ?_
       refine wpE_ret (by kernel_rfl) ?_
       repeat (first | refine seqQ_ret ?_ | refine blockQ_ret ?_ | refine loopQ_ret ?_ | refine cutQ_ret ?_)
       exact retS (rs := [(ResultVar.tmp 2)]) (v := sv_ newslice) (by kernel_rfl) (⟨by kernel_rfl, trivial⟩) ⟨newslice, rfl, h⟩
 · rintro e w' ⟨v, rfl, r0, rfl, h⟩; exact ⟨r0, rfl, h⟩

/-! ### slices.SortStableFunc[[]towpath/api.Entry,towpath/api.Entry] (function 112) -/
def c112_0 := cb_ Try.f112
def r112_0 := co_ c112_0

theorem S_slices_SortStableFunc_api_Entry_api_Entry {x : Slc} {cmp : Value} {w : World} {R : World → Prop} (h : F_slices_SortStableFunc_api_Entry_api_Entry x cmp R w) : C_slices_SortStableFunc_api_Entry_api_Entry x cmp w R := by
 unfold F_slices_SortStableFunc_api_Entry_api_Entry at h
 unfold C_slices_SortStableFunc_api_Entry_api_Entry
 refine Calls.mono (calls_of_wpE (args := [sv_ x, cmp]) (R := fun v w' => v = Value.tuple #[] ∧ R w') Try.func112 (c := c112_0) (by kernel_rfl) 9 (by kernel_rfl) (by kernel_rfl) [(0, sv_ x), (1, cmp)] (by kernel_rfl) ?_) ?_
 · refine Zr r112_0 ?_
   refine Zn P4 4 [(4, [], sv_ x), (6, [], .int .i64 ((x.len : Nat) : Int)), (7, [], cmp)] ?_
   refine Zm 127 #[sv_ x, .int .i64 ((x.len : Nat) : Int), cmp] (some 8) (Calls.mono h ?_)
   rintro _ w1 ⟨rfl, h⟩
   refine ⟨_, rfl, ?_⟩
   refine Ze [] ?_
   repeat (first | refine seqQ_exit ?_ | refine loopQ_exit ?_ | refine cutQ_exit ?_ | refine blockQ_hit ?_ | refine blockQ_miss (by kernel_rfl) ?_)
   refine retQ_normal ?_
   repeat (first | refine seqQ_ret ?_ | refine blockQ_ret ?_ | refine loopQ_ret ?_ | refine cutQ_ret ?_)
   exact retT (rs := []) (vs := []) (by kernel_rfl) (trivial) (by kernel_rfl) ⟨rfl, h⟩
 · rintro e w' ⟨v, rfl, rfl, h⟩; exact ⟨rfl, h⟩

/-! ### slices.stableCmpFunc[towpath/api.Held] (function 114) -/
def c114_0 := cb_ Try.f114
def c114_3 := cr_ c114_0
def c114_6 := cr_ c114_3
def c114_7 := cl_ c114_6
def c114_8 := cl_ c114_7
def c114_9 := cl_ c114_8
def c114_10 := cl_ c114_9
def c114_13 := cr_ c114_10
def c114_14 := cl_ c114_13
def c114_15 := cr_ c114_13
def c114_16 := cr_ c114_9
def c114_17 := cl_ c114_16
def c114_18 := cl_ c114_17
def r114_18 := co_ c114_18
def c114_20 := cr_ c114_17
def c114_23 := cr_ c114_20
def r114_23 := co_ c114_23
def c114_25 := cr_ c114_6
def c114_26 := cl_ c114_25
def r114_26 := co_ c114_26
def c114_28 := cr_ c114_25
def c114_29 := cl_ c114_28
def c114_30 := cl_ c114_29
def c114_31 := cl_ c114_30
def c114_34 := cr_ c114_31
def c114_35 := cl_ c114_34
def c114_36 := cr_ c114_34
def c114_37 := cr_ c114_30
def c114_38 := cl_ c114_37
def c114_41 := cr_ c114_38
def c114_42 := cl_ c114_41
def c114_43 := cl_ c114_42
def c114_44 := cl_ c114_43
def c114_45 := cl_ c114_44
def c114_48 := cr_ c114_45
def c114_49 := cl_ c114_48
def c114_50 := cr_ c114_48
def c114_51 := cr_ c114_44
def c114_52 := cl_ c114_51
def c114_53 := cl_ c114_52
def r114_53 := co_ c114_53
def c114_55 := cr_ c114_52
def c114_58 := cr_ c114_55
def r114_58 := co_ c114_58
def c114_60 := cr_ c114_41
def c114_61 := cl_ c114_60
def c114_64 := cr_ c114_61
def c114_67 := cr_ c114_64
def c114_68 := cl_ c114_67
def r114_68 := co_ c114_68
def c114_70 := cr_ c114_67
def c114_71 := cr_ c114_60
def r114_71 := co_ c114_71

theorem S_slices_stableCmpFunc_api_Held {data : Slc} {n_ : Int} {cmp : Value} {w : World} {R : World → Prop} (h : F_slices_stableCmpFunc_api_Held data n_ cmp R w) : C_slices_stableCmpFunc_api_Held data n_ cmp w R := by
 unfold F_slices_stableCmpFunc_api_Held at h
 unfold C_slices_stableCmpFunc_api_Held
 refine Calls.mono (calls_of_wpE (args := [sv_ data, Value.int .i64 n_, cmp]) (R := fun v w' => v = Value.tuple #[] ∧ R w') Try.func114 (c := c114_0) (by kernel_rfl) 63 (by kernel_rfl) (by kernel_rfl) [(0, sv_ data), (1, Value.int .i64 n_), (2, cmp)] (by kernel_rfl) ?_) ?_
 · refine Zp c114_3 P1 [(0, sv_ data), (1, .int .i64 n_), (2, cmp), (6, .int .i64 20)] ?_
   refine Zp c114_6 P3 [(0, sv_ data), (1, .int .i64 n_), (2, cmp), (6, .int .i64 20), (7, .int .i64 0), (8, .int .i64 20)] ?_
   refine Zs c114_7 c114_25 ?_
   refine Zb 0 c114_8 ?_
   obtain ⟨I, μ, h0, hr⟩ := h
   refine wpE_loop (x := c114_9) (by kernel_rfl) (fun m l w => ∃ (a_ : Int) (b_ : Int), l = [(0, sv_ data), (1, Value.int .i64 n_), (2, cmp), (6, Value.int .i64 20), (7, Value.int .i64 a_), (8, Value.int .i64 b_)] ∧ I a_ b_ w ∧ μ a_ b_ w = m) (l' := [(0, sv_ data), (1, Value.int .i64 n_), (2, cmp), (6, Value.int .i64 20), (7, Value.int .i64 0), (8, Value.int .i64 20)]) (Sub.mk (by kernel_rfl)) ⟨0, 20, rfl, h0, rfl⟩ ?_
   rintro _ _ w1 ⟨a_, b_, rfl, hI, rfl⟩
   obtain ⟨again_, again__h, h⟩ : ∃ again_ : Int → Int → World → Prop, (∀ a_' b_' w', again_ a_' b_' w' → I a_' b_' w' ∧ μ a_' b_' w' < μ a_ b_ w1) ∧ F_slices_stableCmpFunc_api_Held_L0 data n_ cmp R again_ a_ b_ w1 := ⟨_, fun _ _ _ h => h, hr a_ b_ w1 hI⟩
   clear h0 hI
   unfold F_slices_stableCmpFunc_api_Held_L0 at h
   refine Zs c114_10 c114_16 ?_
   refine Zp c114_13 P3 [(0, sv_ data), (1, .int .i64 n_), (2, cmp), (6, .int .i64 20), (7, .int .i64 a_), (8, .int .i64 b_), (13, .bool (decide (b_ ≤ n_)))] ?_
   refine Zc 13 (decide (b_ ≤ n_)) c114_14 c114_15 (fun hb => ?_) (fun hb => ?_)
   · replace h := h.1 hb
     refine wpE_skip (by kernel_rfl) ?_
     change WpE _ _ c114_16 _ _ _
     refine Zb 1 c114_17 ?_
     refine Zt r114_18 c114_20 ?_
     refine Zn P4 4 [(0, [], sv_ data), (1, [], .int .i64 n_), (2, [], cmp), (6, [], .int .i64 20), (8, [], .int .i64 b_), (14, [], sv_ data), (15, [], .int .i64 a_), (16, [], .int .i64 b_), (17, [], cmp)] ?_
     refine Zm 128 #[sv_ data, .int .i64 a_, .int .i64 b_, cmp] (some 18) (Calls.mono h ?_)
     rintro _ w2 ⟨rfl, h⟩
     refine ⟨_, rfl, ?_⟩
     refine Ze [(0, sv_ data), (1, .int .i64 n_), (2, cmp), (6, .int .i64 20), (8, .int .i64 b_)] ?_
     change WpE _ _ c114_20 _ _ _
     refine Zp c114_23 P2 [(0, sv_ data), (1, .int .i64 n_), (2, cmp), (6, .int .i64 20), (7, .int .i64 b_), (8, .int .i64 b_)] ?_
     refine Zr r114_23 ?_
     refine Zf P4 [(0, sv_ data), (1, .int .i64 n_), (2, cmp), (6, .int .i64 20), (7, .int .i64 b_), (8, .int .i64 (IntKind.i64.wrap (b_ + 20)))] ?_
     have hb_ := again__h _ _ _ h
     exact ⟨_, hb_.2, [(0, sv_ data), (1, Value.int .i64 n_), (2, cmp), (6, Value.int .i64 20), (7, Value.int .i64 b_), (8, Value.int .i64 (IntKind.i64.wrap (b_ + 20)))], Sub.mk (by kernel_rfl), b_, (IntKind.i64.wrap (b_ + 20)), rfl, hb_.1, rfl⟩
   · replace h := h.2 hb
     refine wpE_exit (id := 0) (by kernel_rfl) ?_
     change WpE _ _ c114_25 _ _ _
     refine Zt r114_26 c114_28 ?_
     refine Zn P4 4 [(0, [], sv_ data), (1, [], .int .i64 n_), (2, [], cmp), (6, [], .int .i64 20), (23, [], sv_ data), (24, [], .int .i64 a_), (25, [], .int .i64 n_), (26, [], cmp)] ?_
     refine Zm 128 #[sv_ data, .int .i64 a_, .int .i64 n_, cmp] (some 27) (Calls.mono h ?_)
     rintro _ w3 ⟨rfl, h⟩
     refine ⟨_, rfl, ?_⟩
     refine Ze [(0, sv_ data), (1, .int .i64 n_), (2, cmp), (6, .int .i64 20)] ?_
     change WpE _ _ c114_28 _ _ _
     refine Zb 2 c114_29 ?_
     obtain ⟨I, μ, h0, hr⟩ := h
     refine wpE_loop (x := c114_30) (by kernel_rfl) (fun m l w => ∃ (blockSize : Int), l = [(0, sv_ data), (1, Value.int .i64 n_), (2, cmp), (6, Value.int .i64 blockSize)] ∧ I blockSize w ∧ μ blockSize w = m) (l' := [(0, sv_ data), (1, Value.int .i64 n_), (2, cmp), (6, Value.int .i64 20)]) (Sub.mk (by kernel_rfl)) ⟨20, rfl, h0, rfl⟩ ?_
     rintro _ _ w4 ⟨blockSize, rfl, hI, rfl⟩
     obtain ⟨again_1, again_1_h, h⟩ : ∃ again_1 : Int → World → Prop, (∀ blockSize' w', again_1 blockSize' w' → I blockSize' w' ∧ μ blockSize' w' < μ blockSize w4) ∧ F_slices_stableCmpFunc_api_Held_L1 data n_ cmp R again_1 blockSize w4 := ⟨_, fun _ _ h => h, hr blockSize w4 hI⟩
     clear h0 hI
     unfold F_slices_stableCmpFunc_api_Held_L1 at h
     refine Zs c114_31 c114_37 ?_
     refine Zp c114_34 P3 [(0, sv_ data), (1, .int .i64 n_), (2, cmp), (6, .int .i64 blockSize), (30, .bool (decide (blockSize < n_)))] ?_
     refine Zc 30 (decide (blockSize < n_)) c114_35 c114_36 (fun hb => ?_) (fun hb => ?_)
     · replace h := h.1 hb
       refine wpE_skip (by kernel_rfl) ?_
       change WpE _ _ c114_37 _ _ _
       refine Zb 3 c114_38 ?_
       refine Zp c114_41 P4 [(0, sv_ data), (1, .int .i64 n_), (2, cmp), (6, .int .i64 blockSize), (7, .int .i64 0), (8, .int .i64 (IntKind.i64.wrap (2 * blockSize)))] ?_
       refine Zs c114_42 c114_60 ?_
       refine Zb 4 c114_43 ?_
       obtain ⟨I, μ, h0, hr⟩ := h
       refine wpE_loop (x := c114_44) (by kernel_rfl) (fun m l w => ∃ (a_1 : Int) (b_1 : Int), l = [(0, sv_ data), (1, Value.int .i64 n_), (2, cmp), (6, Value.int .i64 blockSize), (7, Value.int .i64 a_1), (8, Value.int .i64 b_1)] ∧ I a_1 b_1 w ∧ μ a_1 b_1 w = m) (l' := [(0, sv_ data), (1, Value.int .i64 n_), (2, cmp), (6, Value.int .i64 blockSize), (7, Value.int .i64 0), (8, Value.int .i64 (IntKind.i64.wrap (2 * blockSize)))]) (Sub.mk (by kernel_rfl)) ⟨0, (IntKind.i64.wrap (2 * blockSize)), rfl, h0, rfl⟩ ?_
       rintro _ _ w5 ⟨a_1, b_1, rfl, hI, rfl⟩
       obtain ⟨again_2, again_2_h, h⟩ : ∃ again_2 : Int → Int → World → Prop, (∀ a_1' b_1' w', again_2 a_1' b_1' w' → I a_1' b_1' w' ∧ μ a_1' b_1' w' < μ a_1 b_1 w5) ∧ F_slices_stableCmpFunc_api_Held_L2 data n_ cmp blockSize again_1 again_2 a_1 b_1 w5 := ⟨_, fun _ _ _ h => h, hr a_1 b_1 w5 hI⟩
       clear h0 hI
       unfold F_slices_stableCmpFunc_api_Held_L2 at h
       refine Zs c114_45 c114_51 ?_
       refine Zp c114_48 P3 [(0, sv_ data), (1, .int .i64 n_), (2, cmp), (6, .int .i64 blockSize), (7, .int .i64 a_1), (8, .int .i64 b_1), (35, .bool (decide (b_1 ≤ n_)))] ?_
       refine Zc 35 (decide (b_1 ≤ n_)) c114_49 c114_50 (fun hb => ?_) (fun hb => ?_)
       · replace h := h.1 hb
         refine wpE_skip (by kernel_rfl) ?_
         change WpE _ _ c114_51 _ _ _
         refine Zb 5 c114_52 ?_
         refine Zt r114_53 c114_55 ?_
         refine Zn (Pl 7) 7 [(0, [], sv_ data), (1, [], .int .i64 n_), (2, [], cmp), (6, [], .int .i64 blockSize), (8, [], .int .i64 b_1), (36, [], sv_ data), (37, [], .int .i64 a_1), (40, [], .int .i64 (IntKind.i64.wrap (a_1 + blockSize))), (41, [], .int .i64 b_1), (42, [], cmp)] ?_
         refine Zm 129 #[sv_ data, .int .i64 a_1, .int .i64 (IntKind.i64.wrap (a_1 + blockSize)), .int .i64 b_1, cmp] (some 43) (Calls.mono h ?_)
         rintro _ w6 ⟨rfl, h⟩
         refine ⟨_, rfl, ?_⟩
         refine Ze [(0, sv_ data), (1, .int .i64 n_), (2, cmp), (6, .int .i64 blockSize), (8, .int .i64 b_1)] ?_
         change WpE _ _ c114_55 _ _ _
         refine Zp c114_58 P2 [(0, sv_ data), (1, .int .i64 n_), (2, cmp), (6, .int .i64 blockSize), (7, .int .i64 b_1), (8, .int .i64 b_1)] ?_
         refine Zr r114_58 ?_
         refine Zf (Pl 5) [(0, sv_ data), (1, .int .i64 n_), (2, cmp), (6, .int .i64 blockSize), (7, .int .i64 b_1), (8, .int .i64 (IntKind.i64.wrap (b_1 + (IntKind.i64.wrap (2 * blockSize)))))] ?_
         have hb_ := again_2_h _ _ _ h
         exact ⟨_, hb_.2, [(0, sv_ data), (1, Value.int .i64 n_), (2, cmp), (6, Value.int .i64 blockSize), (7, Value.int .i64 b_1), (8, Value.int .i64 (IntKind.i64.wrap (b_1 + (IntKind.i64.wrap (2 * blockSize)))))], Sub.mk (by kernel_rfl), b_1, (IntKind.i64.wrap (b_1 + (IntKind.i64.wrap (2 * blockSize)))), rfl, hb_.1, rfl⟩
       · replace h := h.2 hb
         refine wpE_exit (id := 4) (by kernel_rfl) ?_
         change WpE _ _ c114_60 _ _ _
         refine wpE_seq_cut (x := c114_61) (y := c114_71) (by kernel_rfl) (fun l w => l = [(0, sv_ data), (1, Value.int .i64 n_), (2, cmp), (6, Value.int .i64 blockSize)] ∧ F_slices_stableCmpFunc_api_Held_k3 blockSize again_1 w) ?_ ?_
         · refine Zp c114_64 P4 [(0, sv_ data), (1, .int .i64 n_), (2, cmp), (6, .int .i64 blockSize), (7, .int .i64 a_1), (9, .int .i64 (IntKind.i64.wrap (a_1 + blockSize)))] ?_
           refine Zp c114_67 P3 [(0, sv_ data), (1, .int .i64 n_), (2, cmp), (6, .int .i64 blockSize), (7, .int .i64 a_1), (9, .int .i64 (IntKind.i64.wrap (a_1 + blockSize))), (54, .bool (decide ((IntKind.i64.wrap (a_1 + blockSize)) < n_)))] ?_
           refine Zc 54 (decide ((IntKind.i64.wrap (a_1 + blockSize)) < n_)) c114_68 c114_70 (fun hb => ?_) (fun hb => ?_)
           · replace h := h.1 hb
             refine Zr r114_68 ?_
             refine Zn (Pl 5) 5 [(0, [], sv_ data), (1, [], .int .i64 n_), (2, [], cmp), (6, [], .int .i64 blockSize), (55, [], sv_ data), (56, [], .int .i64 a_1), (57, [], .int .i64 (IntKind.i64.wrap (a_1 + blockSize))), (58, [], .int .i64 n_), (59, [], cmp)] ?_
             refine Zm 129 #[sv_ data, .int .i64 a_1, .int .i64 (IntKind.i64.wrap (a_1 + blockSize)), .int .i64 n_, cmp] (some 60) (Calls.mono h ?_)
             rintro _ w8 ⟨rfl, h⟩
             refine ⟨_, rfl, ?_⟩
             refine Ze [(0, sv_ data), (1, .int .i64 n_), (2, cmp), (6, .int .i64 blockSize)] ?_
             exact ⟨[(0, sv_ data), (1, Value.int .i64 n_), (2, cmp), (6, Value.int .i64 blockSize)], Sub.mk (by kernel_rfl), rfl, h⟩
           · replace h := h.2 hb
             refine wpE_skip (by kernel_rfl) ?_
             exact ⟨[(0, sv_ data), (1, Value.int .i64 n_), (2, cmp), (6, Value.int .i64 blockSize)], Sub.mk (by kernel_rfl), rfl, h⟩
         · rintro _ w7 ⟨rfl, h⟩
           unfold F_slices_stableCmpFunc_api_Held_k3 at h
           refine Zr r114_71 ?_
           refine Zf P3 [(0, sv_ data), (1, .int .i64 n_), (2, cmp), (6, .int .i64 (IntKind.i64.wrap (blockSize * 2)))] ?_
           have hb_ := again_1_h _ _ h
           exact ⟨_, hb_.2, [(0, sv_ data), (1, Value.int .i64 n_), (2, cmp), (6, Value.int .i64 (IntKind.i64.wrap (blockSize * 2)))], Sub.mk (by kernel_rfl), (IntKind.i64.wrap (blockSize * 2)), rfl, hb_.1, rfl⟩
     · replace h := h.2 hb
       refine wpE_exit (id := 2) (by kernel_rfl) ?_
       repeat (first | refine seqQ_exit ?_ | refine loopQ_exit ?_ | refine cutQ_exit ?_ | refine blockQ_hit ?_ | refine blockQ_miss (by kernel_rfl) ?_)
       refine retQ_normal ?_
       repeat (first | refine seqQ_ret ?_ | refine blockQ_ret ?_ | refine loopQ_ret ?_ | refine cutQ_ret ?_)
       exact retT (rs := []) (vs := []) (by kernel_rfl) (trivial) (by kernel_rfl) ⟨rfl, h⟩
 · rintro e w' ⟨v, rfl, rfl, h⟩; exact ⟨rfl, h⟩

/-! ### slices.Grow[[]towpath/api.Entry,towpath/api.Entry] (function 126) -/
def c126_0 := cb_ Try.f126
def c126_3 := cr_ c126_0
def c126_4 := cl_ c126_3
def c126_7 := cr_ c126_4
def c126_8 := cl_ c126_7
def r126_8 := co_ c126_8
def c126_10 := cr_ c126_7
def c126_11 := cr_ c126_3
def c126_12 := cl_ c126_11
def c126_15 := cr_ c126_12
def c126_18 := cr_ c126_15
def c126_19 := cl_ c126_18
def r126_19 := co_ c126_19
def c126_21 := cr_ c126_18
def c126_22 := cr_ c126_11
def c126_25 := cr_ c126_22

theorem S_slices_Grow_api_Entry_api_Entry {s : Slc} {n_ : Int} {w : World} {R : Slc → World → Prop} (h : F_slices_Grow_api_Entry_api_Entry s n_ R w) : C_slices_Grow_api_Entry_api_Entry s n_ w R := by
 unfold F_slices_Grow_api_Entry_api_Entry at h
 unfold C_slices_Grow_api_Entry_api_Entry
 refine Calls.mono (calls_of_wpE (args := [sv_ s, Value.int .i64 n_]) (R := fun v w' => ∃ (r0 : Slc), v = sv_ r0 ∧ R r0 w') Try.func126 (c := c126_0) (by kernel_rfl) 27 (by kernel_rfl) (by kernel_rfl) [(0, sv_ s), (1, Value.int .i64 n_)] (by kernel_rfl) ?_) ?_
 · refine Zp c126_3 P1 [(0, sv_ s), (1, .int .i64 n_)] ?_
   refine Zs c126_4 c126_11 ?_
   refine Zp c126_7 P2 [(0, sv_ s), (1, .int .i64 n_), (6, .bool (decide (n_ < 0)))] ?_
   refine Zc 6 (decide (n_ < 0)) c126_8 c126_10 (fun hb => ?_) (fun hb => ?_)
   · replace h := h.1 hb
     refine Zr r126_8 ?_
     refine Zn P1 1 [(0, [], sv_ s), (1, [], .int .i64 n_), (7, [], .iface 9 (.string (ByteArray.mk #[99, 97, 110, 110, 111, 116, 32, 98, 101, 32, 110, 101, 103, 97, 116, 105, 118, 101])))] ?_
     exact h.elim
   · replace h := h.2 hb
     refine wpE_skip (by kernel_rfl) ?_
     change WpE _ _ c126_11 _ _ _
     refine wpE_seq_cut (x := c126_12) (y := c126_22) (by kernel_rfl) (fun l w => ∃ (s1 : Slc), l = [(0, sv_ s1)] ∧ F_slices_Grow_api_Entry_api_Entry_k0 R s1 w) ?_ ?_
     · refine Zp c126_15 (Pl 8) [(0, sv_ s), (1, .int .i64 (IntKind.i64.wrap (n_ - (IntKind.i64.wrap (((s.cap : Nat) : Int) - ((s.len : Nat) : Int))))))] ?_
       refine Zp c126_18 P2 [(0, sv_ s), (1, .int .i64 (IntKind.i64.wrap (n_ - (IntKind.i64.wrap (((s.cap : Nat) : Int) - ((s.len : Nat) : Int)))))), (16, .bool (decide ((IntKind.i64.wrap (n_ - (IntKind.i64.wrap (((s.cap : Nat) : Int) - ((s.len : Nat) : Int))))) > 0)))] ?_
       refine Zc 16 (decide ((IntKind.i64.wrap (n_ - (IntKind.i64.wrap (((s.cap : Nat) : Int) - ((s.len : Nat) : Int))))) > 0)) c126_19 c126_21 (fun hb => ?_) (fun hb => ?_)
       · replace h := h.1 hb
         refine Zr r126_19 ?_
         refine Zn P3 3 [(0, [], sv_ s), (1, [], .int .i64 (IntKind.i64.wrap (n_ - (IntKind.i64.wrap (((s.cap : Nat) : Int) - ((s.len : Nat) : Int)))))), (17, [], sv_ s), (19, [], .int .i64 ((s.cap : Nat) : Int))] ?_
         obtain ⟨h0, h1, h⟩ := h
         refine reg_sliceHi (t := 92) (e := 140) (x := (Operand.tmp 17)) (hi := (Operand.tmp 19)) (p := s.ptr) (l := s.len) (c := s.cap) (sz := 2) (k := .i64) (j := ((s.cap : Nat) : Int)) (ty := 92) (dst := some 20) (by kernel_rfl) (by kernel_rfl) (by kernel_rfl) (by kernel_rfl) (by kernel_rfl) h0 h1 ?_
         refine Zn P1 5 [(0, [], sv_ s), (20, [], .slice s.ptr (((s.cap : Nat) : Int).toNat) s.cap), (21, [], .int .i64 (IntKind.i64.wrap (n_ - (IntKind.i64.wrap (((s.cap : Nat) : Int) - ((s.len : Nat) : Int))))))] ?_
         obtain ⟨h0, h1, h⟩ := h
         refine reg_appendZ (t := 92) (tx := 3) (e := 140) (a := (Operand.tmp 20)) (xo := (Operand.tmp 21)) (s := (Slc.mk s.ptr (((s.cap : Nat) : Int).toNat) s.cap)) (l := (IntKind.i64.wrap (n_ - (IntKind.i64.wrap (((s.cap : Nat) : Int) - ((s.len : Nat) : Int)))))) (sz := 2) (by_ := 32) (zs := [Value.string ByteArray.empty, Value.string ByteArray.empty]) (ty := 92) (dst := some 22)  (by kernel_rfl) (by kernel_rfl) (by kernel_rfl) (by kernel_rfl) (by kernel_rfl) (by kernel_rfl) (by kernel_rfl) (by kernel_rfl) (by kernel_rfl) (by kernel_rfl) h0 h1 (AppendW.mono h (fun v22 w2 h => ?_))
         refine Zn P2 8 [(0, [], sv_ s), (22, [], sv_ v22), (24, [], .int .i64 ((s.len : Nat) : Int))] ?_
         obtain ⟨h0, h1, h⟩ := h
         refine reg_sliceHi (t := 92) (e := 140) (x := (Operand.tmp 22)) (hi := (Operand.tmp 24)) (p := v22.ptr) (l := v22.len) (c := v22.cap) (sz := 2) (k := .i64) (j := ((s.len : Nat) : Int)) (ty := 92) (dst := some 25) (by kernel_rfl) (by kernel_rfl) (by kernel_rfl) (by kernel_rfl) (by kernel_rfl) h0 h1 ?_
         refine Zf P1 [(0, .slice v22.ptr (((s.len : Nat) : Int).toNat) v22.cap)] ?_
         exact ⟨[(0, Value.slice v22.ptr (((s.len : Nat) : Int).toNat) v22.cap)], Sub.mk (by kernel_rfl), (Slc.mk v22.ptr (((s.len : Nat) : Int).toNat) v22.cap), rfl, h⟩
       · replace h := h.2 hb
         refine wpE_skip (by kernel_rfl) ?_
         exact ⟨[(0, sv_ s)], Sub.mk (by kernel_rfl), s, rfl, h⟩
     · rintro _ w1 ⟨s1, rfl, h⟩
       unfold F_slices_Grow_api_Entry_api_Entry_k0 at h
       refine Zp c126_25 P2 [(4, sv_ s1)] ?_
       refine wpE_ret (by kernel_rfl) ?_
       repeat (first | refine seqQ_ret ?_ | refine blockQ_ret ?_ | refine loopQ_ret ?_ | refine cutQ_ret ?_)
       exact retS (rs := [(ResultVar.tmp 4)]) (v := sv_ s1) (by kernel_rfl) (⟨by kernel_rfl, trivial⟩) ⟨s1, rfl, h⟩
 · rintro e w' ⟨v, rfl, r0, rfl, h⟩; exact ⟨r0, rfl, h⟩

/-! ### slices.stableCmpFunc[towpath/api.Entry] (function 127) -/
def c127_0 := cb_ Try.f127
def c127_3 := cr_ c127_0
def c127_6 := cr_ c127_3
def c127_7 := cl_ c127_6
def c127_8 := cl_ c127_7
def c127_9 := cl_ c127_8
def c127_10 := cl_ c127_9
def c127_13 := cr_ c127_10
def c127_14 := cl_ c127_13
def c127_15 := cr_ c127_13
def c127_16 := cr_ c127_9
def c127_17 := cl_ c127_16
def c127_18 := cl_ c127_17
def r127_18 := co_ c127_18
def c127_20 := cr_ c127_17
def c127_23 := cr_ c127_20
def r127_23 := co_ c127_23
def c127_25 := cr_ c127_6
def c127_26 := cl_ c127_25
def r127_26 := co_ c127_26
def c127_28 := cr_ c127_25
def c127_29 := cl_ c127_28
def c127_30 := cl_ c127_29
def c127_31 := cl_ c127_30
def c127_34 := cr_ c127_31
def c127_35 := cl_ c127_34
def c127_36 := cr_ c127_34
def c127_37 := cr_ c127_30
def c127_38 := cl_ c127_37
def c127_41 := cr_ c127_38
def c127_42 := cl_ c127_41
def c127_43 := cl_ c127_42
def c127_44 := cl_ c127_43
def c127_45 := cl_ c127_44
def c127_48 := cr_ c127_45
def c127_49 := cl_ c127_48
def c127_50 := cr_ c127_48
def c127_51 := cr_ c127_44
def c127_52 := cl_ c127_51
def c127_53 := cl_ c127_52
def r127_53 := co_ c127_53
def c127_55 := cr_ c127_52
def c127_58 := cr_ c127_55
def r127_58 := co_ c127_58
def c127_60 := cr_ c127_41
def c127_61 := cl_ c127_60
def c127_64 := cr_ c127_61
def c127_67 := cr_ c127_64
def c127_68 := cl_ c127_67
def r127_68 := co_ c127_68
def c127_70 := cr_ c127_67
def c127_71 := cr_ c127_60
def r127_71 := co_ c127_71

theorem S_slices_stableCmpFunc_api_Entry {data : Slc} {n_ : Int} {cmp : Value} {w : World} {R : World → Prop} (h : F_slices_stableCmpFunc_api_Entry data n_ cmp R w) : C_slices_stableCmpFunc_api_Entry data n_ cmp w R := by
 unfold F_slices_stableCmpFunc_api_Entry at h
 unfold C_slices_stableCmpFunc_api_Entry
 refine Calls.mono (calls_of_wpE (args := [sv_ data, Value.int .i64 n_, cmp]) (R := fun v w' => v = Value.tuple #[] ∧ R w') Try.func127 (c := c127_0) (by kernel_rfl) 63 (by kernel_rfl) (by kernel_rfl) [(0, sv_ data), (1, Value.int .i64 n_), (2, cmp)] (by kernel_rfl) ?_) ?_
 · refine Zp c127_3 P1 [(0, sv_ data), (1, .int .i64 n_), (2, cmp), (6, .int .i64 20)] ?_
   refine Zp c127_6 P3 [(0, sv_ data), (1, .int .i64 n_), (2, cmp), (6, .int .i64 20), (7, .int .i64 0), (8, .int .i64 20)] ?_
   refine Zs c127_7 c127_25 ?_
   refine Zb 0 c127_8 ?_
   obtain ⟨I, μ, h0, hr⟩ := h
   refine wpE_loop (x := c127_9) (by kernel_rfl) (fun m l w => ∃ (a_ : Int) (b_ : Int), l = [(0, sv_ data), (1, Value.int .i64 n_), (2, cmp), (6, Value.int .i64 20), (7, Value.int .i64 a_), (8, Value.int .i64 b_)] ∧ I a_ b_ w ∧ μ a_ b_ w = m) (l' := [(0, sv_ data), (1, Value.int .i64 n_), (2, cmp), (6, Value.int .i64 20), (7, Value.int .i64 0), (8, Value.int .i64 20)]) (Sub.mk (by kernel_rfl)) ⟨0, 20, rfl, h0, rfl⟩ ?_
   rintro _ _ w1 ⟨a_, b_, rfl, hI, rfl⟩
   obtain ⟨again_, again__h, h⟩ : ∃ again_ : Int → Int → World → Prop, (∀ a_' b_' w', again_ a_' b_' w' → I a_' b_' w' ∧ μ a_' b_' w' < μ a_ b_ w1) ∧ F_slices_stableCmpFunc_api_Entry_L0 data n_ cmp R again_ a_ b_ w1 := ⟨_, fun _ _ _ h => h, hr a_ b_ w1 hI⟩
   clear h0 hI
   unfold F_slices_stableCmpFunc_api_Entry_L0 at h
   refine Zs c127_10 c127_16 ?_
   refine Zp c127_13 P3 [(0, sv_ data), (1, .int .i64 n_), (2, cmp), (6, .int .i64 20), (7, .int .i64 a_), (8, .int .i64 b_), (13, .bool (decide (b_ ≤ n_)))] ?_
   refine Zc 13 (decide (b_ ≤ n_)) c127_14 c127_15 (fun hb => ?_) (fun hb => ?_)
   · replace h := h.1 hb
     refine wpE_skip (by kernel_rfl) ?_
     change WpE _ _ c127_16 _ _ _
     refine Zb 1 c127_17 ?_
     refine Zt r127_18 c127_20 ?_
     refine Zn P4 4 [(0, [], sv_ data), (1, [], .int .i64 n_), (2, [], cmp), (6, [], .int .i64 20), (8, [], .int .i64 b_), (14, [], sv_ data), (15, [], .int .i64 a_), (16, [], .int .i64 b_), (17, [], cmp)] ?_
     refine Zm 136 #[sv_ data, .int .i64 a_, .int .i64 b_, cmp] (some 18) (Calls.mono h ?_)
     rintro _ w2 ⟨rfl, h⟩
     refine ⟨_, rfl, ?_⟩
     refine Ze [(0, sv_ data), (1, .int .i64 n_), (2, cmp), (6, .int .i64 20), (8, .int .i64 b_)] ?_
     change WpE _ _ c127_20 _ _ _
     refine Zp c127_23 P2 [(0, sv_ data), (1, .int .i64 n_), (2, cmp), (6, .int .i64 20), (7, .int .i64 b_), (8, .int .i64 b_)] ?_
     refine Zr r127_23 ?_
     refine Zf P4 [(0, sv_ data), (1, .int .i64 n_), (2, cmp), (6, .int .i64 20), (7, .int .i64 b_), (8, .int .i64 (IntKind.i64.wrap (b_ + 20)))] ?_
     have hb_ := again__h _ _ _ h
     exact ⟨_, hb_.2, [(0, sv_ data), (1, Value.int .i64 n_), (2, cmp), (6, Value.int .i64 20), (7, Value.int .i64 b_), (8, Value.int .i64 (IntKind.i64.wrap (b_ + 20)))], Sub.mk (by kernel_rfl), b_, (IntKind.i64.wrap (b_ + 20)), rfl, hb_.1, rfl⟩
   · replace h := h.2 hb
     refine wpE_exit (id := 0) (by kernel_rfl) ?_
     change WpE _ _ c127_25 _ _ _
     refine Zt r127_26 c127_28 ?_
     refine Zn P4 4 [(0, [], sv_ data), (1, [], .int .i64 n_), (2, [], cmp), (6, [], .int .i64 20), (23, [], sv_ data), (24, [], .int .i64 a_), (25, [], .int .i64 n_), (26, [], cmp)] ?_
     refine Zm 136 #[sv_ data, .int .i64 a_, .int .i64 n_, cmp] (some 27) (Calls.mono h ?_)
     rintro _ w3 ⟨rfl, h⟩
     refine ⟨_, rfl, ?_⟩
     refine Ze [(0, sv_ data), (1, .int .i64 n_), (2, cmp), (6, .int .i64 20)] ?_
     change WpE _ _ c127_28 _ _ _
     refine Zb 2 c127_29 ?_
     obtain ⟨I, μ, h0, hr⟩ := h
     refine wpE_loop (x := c127_30) (by kernel_rfl) (fun m l w => ∃ (blockSize : Int), l = [(0, sv_ data), (1, Value.int .i64 n_), (2, cmp), (6, Value.int .i64 blockSize)] ∧ I blockSize w ∧ μ blockSize w = m) (l' := [(0, sv_ data), (1, Value.int .i64 n_), (2, cmp), (6, Value.int .i64 20)]) (Sub.mk (by kernel_rfl)) ⟨20, rfl, h0, rfl⟩ ?_
     rintro _ _ w4 ⟨blockSize, rfl, hI, rfl⟩
     obtain ⟨again_1, again_1_h, h⟩ : ∃ again_1 : Int → World → Prop, (∀ blockSize' w', again_1 blockSize' w' → I blockSize' w' ∧ μ blockSize' w' < μ blockSize w4) ∧ F_slices_stableCmpFunc_api_Entry_L1 data n_ cmp R again_1 blockSize w4 := ⟨_, fun _ _ h => h, hr blockSize w4 hI⟩
     clear h0 hI
     unfold F_slices_stableCmpFunc_api_Entry_L1 at h
     refine Zs c127_31 c127_37 ?_
     refine Zp c127_34 P3 [(0, sv_ data), (1, .int .i64 n_), (2, cmp), (6, .int .i64 blockSize), (30, .bool (decide (blockSize < n_)))] ?_
     refine Zc 30 (decide (blockSize < n_)) c127_35 c127_36 (fun hb => ?_) (fun hb => ?_)
     · replace h := h.1 hb
       refine wpE_skip (by kernel_rfl) ?_
       change WpE _ _ c127_37 _ _ _
       refine Zb 3 c127_38 ?_
       refine Zp c127_41 P4 [(0, sv_ data), (1, .int .i64 n_), (2, cmp), (6, .int .i64 blockSize), (7, .int .i64 0), (8, .int .i64 (IntKind.i64.wrap (2 * blockSize)))] ?_
       refine Zs c127_42 c127_60 ?_
       refine Zb 4 c127_43 ?_
       obtain ⟨I, μ, h0, hr⟩ := h
       refine wpE_loop (x := c127_44) (by kernel_rfl) (fun m l w => ∃ (a_1 : Int) (b_1 : Int), l = [(0, sv_ data), (1, Value.int .i64 n_), (2, cmp), (6, Value.int .i64 blockSize), (7, Value.int .i64 a_1), (8, Value.int .i64 b_1)] ∧ I a_1 b_1 w ∧ μ a_1 b_1 w = m) (l' := [(0, sv_ data), (1, Value.int .i64 n_), (2, cmp), (6, Value.int .i64 blockSize), (7, Value.int .i64 0), (8, Value.int .i64 (IntKind.i64.wrap (2 * blockSize)))]) (Sub.mk (by kernel_rfl)) ⟨0, (IntKind.i64.wrap (2 * blockSize)), rfl, h0, rfl⟩ ?_
       rintro _ _ w5 ⟨a_1, b_1, rfl, hI, rfl⟩
       obtain ⟨again_2, again_2_h, h⟩ : ∃ again_2 : Int → Int → World → Prop, (∀ a_1' b_1' w', again_2 a_1' b_1' w' → I a_1' b_1' w' ∧ μ a_1' b_1' w' < μ a_1 b_1 w5) ∧ F_slices_stableCmpFunc_api_Entry_L2 data n_ cmp blockSize again_1 again_2 a_1 b_1 w5 := ⟨_, fun _ _ _ h => h, hr a_1 b_1 w5 hI⟩
       clear h0 hI
       unfold F_slices_stableCmpFunc_api_Entry_L2 at h
       refine Zs c127_45 c127_51 ?_
       refine Zp c127_48 P3 [(0, sv_ data), (1, .int .i64 n_), (2, cmp), (6, .int .i64 blockSize), (7, .int .i64 a_1), (8, .int .i64 b_1), (35, .bool (decide (b_1 ≤ n_)))] ?_
       refine Zc 35 (decide (b_1 ≤ n_)) c127_49 c127_50 (fun hb => ?_) (fun hb => ?_)
       · replace h := h.1 hb
         refine wpE_skip (by kernel_rfl) ?_
         change WpE _ _ c127_51 _ _ _
         refine Zb 5 c127_52 ?_
         refine Zt r127_53 c127_55 ?_
         refine Zn (Pl 7) 7 [(0, [], sv_ data), (1, [], .int .i64 n_), (2, [], cmp), (6, [], .int .i64 blockSize), (8, [], .int .i64 b_1), (36, [], sv_ data), (37, [], .int .i64 a_1), (40, [], .int .i64 (IntKind.i64.wrap (a_1 + blockSize))), (41, [], .int .i64 b_1), (42, [], cmp)] ?_
         refine Zm 137 #[sv_ data, .int .i64 a_1, .int .i64 (IntKind.i64.wrap (a_1 + blockSize)), .int .i64 b_1, cmp] (some 43) (Calls.mono h ?_)
         rintro _ w6 ⟨rfl, h⟩
         refine ⟨_, rfl, ?_⟩
         refine Ze [(0, sv_ data), (1, .int .i64 n_), (2, cmp), (6, .int .i64 blockSize), (8, .int .i64 b_1)] ?_
         change WpE _ _ c127_55 _ _ _
         refine Zp c127_58 P2 [(0, sv_ data), (1, .int .i64 n_), (2, cmp), (6, .int .i64 blockSize), (7, .int .i64 b_1), (8, .int .i64 b_1)] ?_
         refine Zr r127_58 ?_
         refine Zf (Pl 5) [(0, sv_ data), (1, .int .i64 n_), (2, cmp), (6, .int .i64 blockSize), (7, .int .i64 b_1), (8, .int .i64 (IntKind.i64.wrap (b_1 + (IntKind.i64.wrap (2 * blockSize)))))] ?_
         have hb_ := again_2_h _ _ _ h
         exact ⟨_, hb_.2, [(0, sv_ data), (1, Value.int .i64 n_), (2, cmp), (6, Value.int .i64 blockSize), (7, Value.int .i64 b_1), (8, Value.int .i64 (IntKind.i64.wrap (b_1 + (IntKind.i64.wrap (2 * blockSize)))))], Sub.mk (by kernel_rfl), b_1, (IntKind.i64.wrap (b_1 + (IntKind.i64.wrap (2 * blockSize)))), rfl, hb_.1, rfl⟩
       · replace h := h.2 hb
         refine wpE_exit (id := 4) (by kernel_rfl) ?_
         change WpE _ _ c127_60 _ _ _
         refine wpE_seq_cut (x := c127_61) (y := c127_71) (by kernel_rfl) (fun l w => l = [(0, sv_ data), (1, Value.int .i64 n_), (2, cmp), (6, Value.int .i64 blockSize)] ∧ F_slices_stableCmpFunc_api_Entry_k3 blockSize again_1 w) ?_ ?_
         · refine Zp c127_64 P4 [(0, sv_ data), (1, .int .i64 n_), (2, cmp), (6, .int .i64 blockSize), (7, .int .i64 a_1), (9, .int .i64 (IntKind.i64.wrap (a_1 + blockSize)))] ?_
           refine Zp c127_67 P3 [(0, sv_ data), (1, .int .i64 n_), (2, cmp), (6, .int .i64 blockSize), (7, .int .i64 a_1), (9, .int .i64 (IntKind.i64.wrap (a_1 + blockSize))), (54, .bool (decide ((IntKind.i64.wrap (a_1 + blockSize)) < n_)))] ?_
           refine Zc 54 (decide ((IntKind.i64.wrap (a_1 + blockSize)) < n_)) c127_68 c127_70 (fun hb => ?_) (fun hb => ?_)
           · replace h := h.1 hb
             refine Zr r127_68 ?_
             refine Zn (Pl 5) 5 [(0, [], sv_ data), (1, [], .int .i64 n_), (2, [], cmp), (6, [], .int .i64 blockSize), (55, [], sv_ data), (56, [], .int .i64 a_1), (57, [], .int .i64 (IntKind.i64.wrap (a_1 + blockSize))), (58, [], .int .i64 n_), (59, [], cmp)] ?_
             refine Zm 137 #[sv_ data, .int .i64 a_1, .int .i64 (IntKind.i64.wrap (a_1 + blockSize)), .int .i64 n_, cmp] (some 60) (Calls.mono h ?_)
             rintro _ w8 ⟨rfl, h⟩
             refine ⟨_, rfl, ?_⟩
             refine Ze [(0, sv_ data), (1, .int .i64 n_), (2, cmp), (6, .int .i64 blockSize)] ?_
             exact ⟨[(0, sv_ data), (1, Value.int .i64 n_), (2, cmp), (6, Value.int .i64 blockSize)], Sub.mk (by kernel_rfl), rfl, h⟩
           · replace h := h.2 hb
             refine wpE_skip (by kernel_rfl) ?_
             exact ⟨[(0, sv_ data), (1, Value.int .i64 n_), (2, cmp), (6, Value.int .i64 blockSize)], Sub.mk (by kernel_rfl), rfl, h⟩
         · rintro _ w7 ⟨rfl, h⟩
           unfold F_slices_stableCmpFunc_api_Entry_k3 at h
           refine Zr r127_71 ?_
           refine Zf P3 [(0, sv_ data), (1, .int .i64 n_), (2, cmp), (6, .int .i64 (IntKind.i64.wrap (blockSize * 2)))] ?_
           have hb_ := again_1_h _ _ h
           exact ⟨_, hb_.2, [(0, sv_ data), (1, Value.int .i64 n_), (2, cmp), (6, Value.int .i64 (IntKind.i64.wrap (blockSize * 2)))], Sub.mk (by kernel_rfl), (IntKind.i64.wrap (blockSize * 2)), rfl, hb_.1, rfl⟩
     · replace h := h.2 hb
       refine wpE_exit (id := 2) (by kernel_rfl) ?_
       repeat (first | refine seqQ_exit ?_ | refine loopQ_exit ?_ | refine cutQ_exit ?_ | refine blockQ_hit ?_ | refine blockQ_miss (by kernel_rfl) ?_)
       refine retQ_normal ?_
       repeat (first | refine seqQ_ret ?_ | refine blockQ_ret ?_ | refine loopQ_ret ?_ | refine cutQ_ret ?_)
       exact retT (rs := []) (vs := []) (by kernel_rfl) (trivial) (by kernel_rfl) ⟨rfl, h⟩
 · rintro e w' ⟨v, rfl, rfl, h⟩; exact ⟨rfl, h⟩
end
end Go.Proofs.Ytpedclhflmhakaa
