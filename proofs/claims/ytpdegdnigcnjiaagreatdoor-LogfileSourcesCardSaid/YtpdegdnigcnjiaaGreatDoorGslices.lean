/- WRITTEN BY PROGRAM (dec.py): for each Go function the clean formula F, the call's contract C, and the proof S that F gives C. -/
import Derived.Test.YtpdegdnigcnjiaaGreatDoorRows
import Derived.Test.YtpdegdnigcnjiaaGreatDoorGF
namespace Go.Proofs.YtpdegdnigcnjiaaGreatDoor
open Go
set_option linter.unusedVariables false
set_option maxRecDepth 100000
set_option maxHeartbeats 4000000
noncomputable section

/-! ### slices.Clone[[]int,int] (function 86) -/
def c86_0 := cb_ Tryz.f86
def c86_3 := cr_ c86_0
def c86_4 := cl_ c86_3
def c86_5 := cl_ c86_4
def r86_5 := co_ c86_5
def c86_7 := cr_ c86_4
def c86_8 := cl_ c86_7
def c86_11 := cr_ c86_8
def c86_12 := cr_ c86_7
def c86_13 := cr_ c86_3
def c86_14 := cl_ c86_13
def r86_14 := co_ c86_14
def c86_16 := cr_ c86_13

theorem S_slices_Clone_int_int {s : Slc} {w : World} {R : Slc → World → Prop} (h : F_slices_Clone_int_int s R w) : C_slices_Clone_int_int s w R := by
 unfold F_slices_Clone_int_int at h
 unfold C_slices_Clone_int_int
 refine Calls.mono (calls_of_wpE (args := [sv_ s]) (R := fun v w' => ∃ (r0 : Slc), v = sv_ r0 ∧ R r0 w') Tryz.func86 (c := c86_0) (by kernel_rfl) 8 (by kernel_rfl) (by kernel_rfl) [(0, sv_ s)] (by kernel_rfl) ?_) ?_
 · refine Zp c86_3 P1 [(0, sv_ s)] ?_
   refine Zs c86_4 c86_13 ?_
   refine Zt r86_5 c86_7 ?_
   refine Zn P1 1 [(0, [], sv_ s), (3, [], sv_ s)] ?_
   refine reg_val (op := (Op.binOp BinOp.eql 23 (Operand.tmp 3) (Operand.const (Value.slice none 0 0)) 23)) (ty := 4) (dst := some 4) (Value.bool s.ptr.isNone) (by kernel_rfl) (fun ww => run_slice_eql_R (p := s.ptr) (l := s.len) (c := s.cap) (by kernel_rfl) (by kernel_rfl) (by kernel_rfl) ww) ?_
   refine Ze [(0, sv_ s), (4, .bool s.ptr.isNone)] ?_
   change WpE _ _ c86_7 _ _ _
   refine Zc 4 s.ptr.isNone c86_8 c86_12 (fun hb => ?_) (fun hb => ?_)
   · replace h := h.1 hb
     refine Zp c86_11 P1 [(2, .slice none 0 0)] ?_
     refine wpE_ret (by kernel_rfl) ?_
     repeat (first | refine seqQ_ret ?_ | refine blockQ_ret ?_ | refine loopQ_ret ?_ | refine cutQ_ret ?_)
     exact retS (rs := [(ResultVar.tmp 2)]) (v := Value.slice none 0 0) (by kernel_rfl) (⟨by kernel_rfl, trivial⟩) ⟨(Slc.mk none 0 0), rfl, h⟩
   · replace h := h.2 hb
     refine wpE_skip (by kernel_rfl) ?_
     change WpE _ _ c86_13 _ _ _
     refine Zt r86_14 c86_16 ?_
     refine Zn [] 0 [(0, [], sv_ s)] ?_
     refine Zw (some 5) (fun bb => .slice (some ⟨bb, 0, none⟩) 0 0) (Obj.cells ([]).toArray ty_int (0, 0)) (fun b_ w1 hb hw => ?_)
     replace h := h b_ w1 hb hw
     clear hb hw
     refine Zn P1 2 [(5, [], .slice (some ⟨b_, 0, none⟩) 0 0), (6, [], sv_ s)] ?_
     obtain ⟨src, hs, h⟩ := h
     refine reg_append (t := 23) (tx := 23) (e := 3) (a := (Operand.tmp 5)) (xo := (Operand.tmp 6)) (s := (Slc.mk (some ⟨b_, 0, none⟩) 0 0)) (x := s) (sz := 1) (by_ := 8) (zs := [Value.int .i64 0]) (ty := 23) (dst := some 7)  src (by kernel_rfl) (by kernel_rfl) (by kernel_rfl) (by kernel_rfl) (by kernel_rfl) (by kernel_rfl) (by kernel_rfl) (by kernel_rfl) (by kernel_rfl) hs (AppendW.mono h (fun v7 w2 h => ?_))
     refine Zf P1 [(2, sv_ v7)] ?_
     change WpE _ _ c86_16 _ _ _
     refine wpE_ret (by kernel_rfl) ?_
     repeat (first | refine seqQ_ret ?_ | refine blockQ_ret ?_ | refine loopQ_ret ?_ | refine cutQ_ret ?_)
     exact retS (rs := [(ResultVar.tmp 2)]) (v := sv_ v7) (by kernel_rfl) (⟨by kernel_rfl, trivial⟩) ⟨v7, rfl, h⟩
 · rintro e w' ⟨v, rfl, r0, rfl, h⟩; exact ⟨r0, rfl, h⟩

/-! ### slices.Clone[[]towpath/api.Write,towpath/api.Write] (function 122) -/
def c122_0 := cb_ Tryz.f122
def c122_3 := cr_ c122_0
def c122_4 := cl_ c122_3
def c122_5 := cl_ c122_4
def r122_5 := co_ c122_5
def c122_7 := cr_ c122_4
def c122_8 := cl_ c122_7
def c122_11 := cr_ c122_8
def c122_12 := cr_ c122_7
def c122_13 := cr_ c122_3
def c122_14 := cl_ c122_13
def r122_14 := co_ c122_14
def c122_16 := cr_ c122_13

theorem S_slices_Clone_api_Write_api_Write {s : Slc} {w : World} {R : Slc → World → Prop} (h : F_slices_Clone_api_Write_api_Write s R w) : C_slices_Clone_api_Write_api_Write s w R := by
 unfold F_slices_Clone_api_Write_api_Write at h
 unfold C_slices_Clone_api_Write_api_Write
 refine Calls.mono (calls_of_wpE (args := [sv_ s]) (R := fun v w' => ∃ (r0 : Slc), v = sv_ r0 ∧ R r0 w') Tryz.func122 (c := c122_0) (by kernel_rfl) 8 (by kernel_rfl) (by kernel_rfl) [(0, sv_ s)] (by kernel_rfl) ?_) ?_
 · refine Zp c122_3 P1 [(0, sv_ s)] ?_
   refine Zs c122_4 c122_13 ?_
   refine Zt r122_5 c122_7 ?_
   refine Zn P1 1 [(0, [], sv_ s), (3, [], sv_ s)] ?_
   refine reg_val (op := (Op.binOp BinOp.eql 50 (Operand.tmp 3) (Operand.const (Value.slice none 0 0)) 50)) (ty := 4) (dst := some 4) (Value.bool s.ptr.isNone) (by kernel_rfl) (fun ww => run_slice_eql_R (p := s.ptr) (l := s.len) (c := s.cap) (by kernel_rfl) (by kernel_rfl) (by kernel_rfl) ww) ?_
   refine Ze [(0, sv_ s), (4, .bool s.ptr.isNone)] ?_
   change WpE _ _ c122_7 _ _ _
   refine Zc 4 s.ptr.isNone c122_8 c122_12 (fun hb => ?_) (fun hb => ?_)
   · replace h := h.1 hb
     refine Zp c122_11 P1 [(2, .slice none 0 0)] ?_
     refine wpE_ret (by kernel_rfl) ?_
     repeat (first | refine seqQ_ret ?_ | refine blockQ_ret ?_ | refine loopQ_ret ?_ | refine cutQ_ret ?_)
     exact retS (rs := [(ResultVar.tmp 2)]) (v := Value.slice none 0 0) (by kernel_rfl) (⟨by kernel_rfl, trivial⟩) ⟨(Slc.mk none 0 0), rfl, h⟩
   · replace h := h.2 hb
     refine wpE_skip (by kernel_rfl) ?_
     change WpE _ _ c122_13 _ _ _
     refine Zt r122_14 c122_16 ?_
     refine Zn [] 0 [(0, [], sv_ s)] ?_
     refine Zw (some 5) (fun bb => .slice (some ⟨bb, 0, none⟩) 0 0) (Obj.cells ([]).toArray ty_api_Write (0, 0)) (fun b_ w1 hb hw => ?_)
     replace h := h b_ w1 hb hw
     clear hb hw
     refine Zn P1 2 [(5, [], .slice (some ⟨b_, 0, none⟩) 0 0), (6, [], sv_ s)] ?_
     obtain ⟨src, hs, h⟩ := h
     refine reg_append (t := 50) (tx := 50) (e := 139) (a := (Operand.tmp 5)) (xo := (Operand.tmp 6)) (s := (Slc.mk (some ⟨b_, 0, none⟩) 0 0)) (x := s) (sz := 3) (by_ := 40) (zs := [Value.string ByteArray.empty, Value.string ByteArray.empty, Value.bool false]) (ty := 50) (dst := some 7)  src (by kernel_rfl) (by kernel_rfl) (by kernel_rfl) (by kernel_rfl) (by kernel_rfl) (by kernel_rfl) (by kernel_rfl) (by kernel_rfl) (by kernel_rfl) hs (AppendW.mono h (fun v7 w2 h => ?_))
     refine Zf P1 [(2, sv_ v7)] ?_
     change WpE _ _ c122_16 _ _ _
     refine wpE_ret (by kernel_rfl) ?_
     repeat (first | refine seqQ_ret ?_ | refine blockQ_ret ?_ | refine loopQ_ret ?_ | refine cutQ_ret ?_)
     exact retS (rs := [(ResultVar.tmp 2)]) (v := sv_ v7) (by kernel_rfl) (⟨by kernel_rfl, trivial⟩) ⟨v7, rfl, h⟩
 · rintro e w' ⟨v, rfl, r0, rfl, h⟩; exact ⟨r0, rfl, h⟩

/-! ### slices.ContainsFunc[[]towpath/api.Write,towpath/api.Write] (function 198) -/
def c198_0 := cb_ Tryz.f198
def c198_3 := cr_ c198_0
def c198_4 := cl_ c198_3
def r198_4 := co_ c198_4
def c198_6 := cr_ c198_3

theorem S_slices_ContainsFunc_api_Write_api_Write {s : Slc} {f : Value} {w : World} {R : Bool → World → Prop} (h : F_slices_ContainsFunc_api_Write_api_Write s f R w) : C_slices_ContainsFunc_api_Write_api_Write s f w R := by
 unfold F_slices_ContainsFunc_api_Write_api_Write at h
 unfold C_slices_ContainsFunc_api_Write_api_Write
 refine Calls.mono (calls_of_wpE (args := [sv_ s, f]) (R := fun v w' => ∃ (r0 : Bool), v = Value.bool r0 ∧ R r0 w') Tryz.func198 (c := c198_0) (by kernel_rfl) 9 (by kernel_rfl) (by kernel_rfl) [(0, sv_ s), (1, f)] (by kernel_rfl) ?_) ?_
 · refine Zp c198_3 P1 [(0, sv_ s), (1, f)] ?_
   refine Zt r198_4 c198_6 ?_
   refine Zn P2 2 [(5, [], sv_ s), (6, [], f)] ?_
   refine Zm 210 #[sv_ s, f] (some 7) (Calls.mono h ?_)
   rintro _ w1 ⟨v7, rfl, h⟩
   refine ⟨_, rfl, ?_⟩
   refine Zf P2 [(4, .bool (decide (v7 ≥ 0)))] ?_
   change WpE _ _ c198_6 _ _ _
   refine wpE_ret (by kernel_rfl) ?_
   repeat (first | refine seqQ_ret ?_ | refine blockQ_ret ?_ | refine loopQ_ret ?_ | refine cutQ_ret ?_)
   exact retS (rs := [(ResultVar.tmp 4)]) (v := Value.bool (decide (v7 ≥ 0))) (by kernel_rfl) (⟨by kernel_rfl, trivial⟩) ⟨(decide (v7 ≥ 0)), rfl, h⟩
 · rintro e w' ⟨v, rfl, r0, rfl, h⟩; exact ⟨r0, rfl, h⟩

/-! ### slices.IndexFunc[[]towpath/api.Write,towpath/api.Write] (function 210) -/
def c210_0 := cb_ Tryz.f210
def c210_3 := cr_ c210_0
def c210_4 := cl_ c210_3
def c210_7 := cr_ c210_4
def c210_8 := cl_ c210_7
def c210_9 := cl_ c210_8
def c210_12 := cr_ c210_9
def c210_13 := cl_ c210_12
def c210_14 := cl_ c210_13
def c210_15 := cr_ c210_13
def c210_16 := cr_ c210_12
def c210_17 := cl_ c210_16
def c210_18 := cl_ c210_17
def c210_21 := cr_ c210_18
def c210_22 := cl_ c210_21
def r210_22 := co_ c210_22
def c210_24 := cr_ c210_21
def c210_25 := cl_ c210_24
def c210_28 := cr_ c210_25
def c210_29 := cr_ c210_24
def c210_30 := cr_ c210_16
def r210_30 := co_ c210_30
def c210_32 := cr_ c210_3
def c210_35 := cr_ c210_32

theorem S_slices_IndexFunc_api_Write_api_Write {s : Slc} {f : Value} {w : World} {R : Int → World → Prop} (h : F_slices_IndexFunc_api_Write_api_Write s f R w) : C_slices_IndexFunc_api_Write_api_Write s f w R := by
 unfold F_slices_IndexFunc_api_Write_api_Write at h
 unfold C_slices_IndexFunc_api_Write_api_Write
 refine Calls.mono (calls_of_wpE (args := [sv_ s, f]) (R := fun v w' => ∃ (r0 : Int), v = Value.int .i64 r0 ∧ R r0 w') Tryz.func210 (c := c210_0) (by kernel_rfl) 19 (by kernel_rfl) (by kernel_rfl) [(0, sv_ s), (1, f)] (by kernel_rfl) ?_) ?_
 · refine Zp c210_3 P1 [(0, sv_ s), (1, f)] ?_
   refine Zs c210_4 c210_32 ?_
   refine Zp c210_7 P3 [(0, sv_ s), (1, f), (7, .int .i64 ((s.len : Nat) : Int)), (8, .int .i64 0)] ?_
   refine Zb 0 c210_8 ?_
   obtain ⟨I, μ, h0, hr⟩ := h
   refine wpE_loop (x := c210_9) (by kernel_rfl) (fun m l w => ∃ (t8 : Int), l = [(0, sv_ s), (1, f), (7, Value.int .i64 ((s.len : Nat) : Int)), (8, Value.int .i64 t8)] ∧ I t8 w ∧ μ t8 w = m) (l' := [(0, sv_ s), (1, f), (7, Value.int .i64 ((s.len : Nat) : Int)), (8, Value.int .i64 0)]) (Sub.mk (by kernel_rfl)) ⟨0, rfl, h0, rfl⟩ ?_
   rintro _ _ w1 ⟨t8, rfl, hI, rfl⟩
   obtain ⟨again_, again__h, h⟩ : ∃ again_ : Int → World → Prop, (∀ t8' w', again_ t8' w' → I t8' w' ∧ μ t8' w' < μ t8 w1) ∧ F_slices_IndexFunc_api_Write_api_Write_L0 s f R again_ t8 w1 := ⟨_, fun _ _ h => h, hr t8 w1 hI⟩
   clear h0 hI
   unfold F_slices_IndexFunc_api_Write_api_Write_L0 at h
   refine Zp c210_12 P1 [(0, sv_ s), (1, f), (7, .int .i64 ((s.len : Nat) : Int)), (8, .int .i64 t8), (9, .bool (decide (t8 < ((s.len : Nat) : Int))))] ?_
   refine Zs c210_13 c210_16 ?_
   refine Zc 9 (decide (t8 < ((s.len : Nat) : Int))) c210_14 c210_15 (fun hb => ?_) (fun hb => ?_)
   · replace h := h.1 hb
     refine wpE_skip (by kernel_rfl) ?_
     change WpE _ _ c210_16 _ _ _
     refine Zs c210_17 c210_30 ?_
     refine Zb 1 c210_18 ?_
     refine Zp c210_21 P2 [(0, sv_ s), (1, f), (5, .int .i64 t8), (7, .int .i64 ((s.len : Nat) : Int)), (8, .int .i64 t8)] ?_
     refine Zt r210_22 c210_24 ?_
     refine Zn P3 3 [(0, [], sv_ s), (1, [], f), (5, [], .int .i64 t8), (7, [], .int .i64 ((s.len : Nat) : Int)), (8, [], .int .i64 t8), (11, [], f), (12, [], sv_ s), (13, [], .int .i64 t8)] ?_
     obtain ⟨hp_7, h⟩ := h
     refine Zv (fun pp => [(0, [], sv_ s), (1, [], f), (5, [], .int .i64 t8), (7, [], .int .i64 ((s.len : Nat) : Int)), (8, [], .int .i64 t8), (11, [], f), (12, [], .slice pp s.len s.cap), (13, [], .int .i64 t8)]) hp_7 ?_
     obtain ⟨h0, h1, h⟩ := h
     refine Zj 50 139 12 13 (pblk s.ptr) (poff s.ptr) s.len s.cap t8 3 14 0 h0 h1 ?_
     refine Zn [] 4 [(0, [], sv_ s), (1, [], f), (5, [], .int .i64 t8), (7, [], .int .i64 ((s.len : Nat) : Int)), (8, [], .int .i64 t8), (11, [], f), (14, [], .pointer (some ⟨(pblk s.ptr), (poff s.ptr) + t8.toNat * 3, none⟩))] ?_
     obtain ⟨v15, hc, h⟩ := h
     refine reg_loadN (t := 139) (a := (Operand.tmp 14)) (b := (pblk s.ptr)) (o := ((poff s.ptr) + t8.toNat * 3)) (ty := 139) (dst := some 15) [Value.string v15.Key, Value.string v15.Val, Value.bool v15.Drop] (by kernel_rfl) (by kernel_rfl) (by kernel_rfl) (k := 3) (by kernel_rfl) (by kernel_rfl) hc ?_
     refine Zn [] 5 [(0, [], sv_ s), (1, [], f), (5, [], .int .i64 t8), (7, [], .int .i64 ((s.len : Nat) : Int)), (8, [], .int .i64 t8), (11, [], f), (15, [], .agg #[.string v15.Key, .string v15.Val, .bool v15.Drop])] ?_
     refine reg_enterV (fo := (Operand.tmp 11)) (aa := #[(Operand.tmp 15)]) (ts := #[139]) (fv := f) (ty := 4) (dst := some 16) #[Value.agg #[Value.string v15.Key, Value.string v15.Val, Value.bool v15.Drop]] (by kernel_rfl) (by kernel_rfl) (by kernel_rfl) (CallsV.mono h ?_)
     rintro _ w2 ⟨v16, rfl, h⟩
     refine ⟨_, rfl, ?_⟩
     refine Ze [(0, sv_ s), (1, f), (5, .int .i64 t8), (7, .int .i64 ((s.len : Nat) : Int)), (8, .int .i64 t8), (16, .bool v16)] ?_
     change WpE _ _ c210_24 _ _ _
     refine Zc 16 v16 c210_25 c210_29 (fun hb => ?_) (fun hb => ?_)
     · replace h := h.1 hb
       refine Zp c210_28 P2 [(4, .int .i64 t8)] ?_
       refine wpE_ret (by kernel_rfl) ?_
       repeat (first | refine seqQ_ret ?_ | refine blockQ_ret ?_ | refine loopQ_ret ?_ | refine cutQ_ret ?_)
       exact retS (rs := [(ResultVar.tmp 4)]) (v := Value.int .i64 t8) (by kernel_rfl) (⟨by kernel_rfl, trivial⟩) ⟨t8, rfl, h⟩
     · replace h := h.2 hb
       refine wpE_skip (by kernel_rfl) ?_
       change WpE _ _ c210_30 _ _ _
       refine Zr r210_30 ?_
       refine Zf P2 [(0, sv_ s), (1, f), (7, .int .i64 ((s.len : Nat) : Int)), (8, .int .i64 (IntKind.i64.wrap (t8 + 1)))] ?_
       have hb_ := again__h _ _ h
       exact ⟨_, hb_.2, [(0, sv_ s), (1, f), (7, Value.int .i64 ((s.len : Nat) : Int)), (8, Value.int .i64 (IntKind.i64.wrap (t8 + 1)))], Sub.mk (by kernel_rfl), (IntKind.i64.wrap (t8 + 1)), rfl, hb_.1, rfl⟩
   · replace h := h.2 hb
     refine wpE_exit (id := 0) (by kernel_rfl) ?_
     change WpE _ _ c210_32 _ _ _
     refine Zp c210_35 P1 [(4, .int .i64 (-1))] ?_
     refine wpE_ret (by kernel_rfl) ?_
     repeat (first | refine seqQ_ret ?_ | refine blockQ_ret ?_ | refine loopQ_ret ?_ | refine cutQ_ret ?_)
     exact retS (rs := [(ResultVar.tmp 4)]) (v := Value.int .i64 (-1)) (by kernel_rfl) (⟨by kernel_rfl, trivial⟩) ⟨(-1), rfl, h⟩
 · rintro e w' ⟨v, rfl, r0, rfl, h⟩; exact ⟨r0, rfl, h⟩
end
end Go.Proofs.YtpdegdnigcnjiaaGreatDoor
