/- WRITTEN BY PROGRAM (dec.py): for each Go function the clean formula F, the call's contract C, and the proof S that F gives C. -/
import Derived.Test.YtpedclhflmhakaaGreatDoorRows
import Derived.Test.YtpedclhflmhakaaGreatDoorGF
namespace Go.Proofs.YtpedclhflmhakaaGreatDoor
open Go
set_option linter.unusedVariables false
set_option maxRecDepth 100000
set_option maxHeartbeats 4000000
noncomputable section

/-! ### slices.Clone[[]towpath/api.Write,towpath/api.Write] (function 89) -/
def c89_0 := cb_ Tryz.f89
def c89_3 := cr_ c89_0
def c89_4 := cl_ c89_3
def c89_5 := cl_ c89_4
def r89_5 := co_ c89_5
def c89_7 := cr_ c89_4
def c89_8 := cl_ c89_7
def c89_11 := cr_ c89_8
def c89_12 := cr_ c89_7
def c89_13 := cr_ c89_3
def c89_14 := cl_ c89_13
def r89_14 := co_ c89_14
def c89_16 := cr_ c89_13

theorem S_slices_Clone_api_Write_api_Write {s : Slc} {w : World} {R : Slc → World → Prop} (h : F_slices_Clone_api_Write_api_Write s R w) : C_slices_Clone_api_Write_api_Write s w R := by
 unfold F_slices_Clone_api_Write_api_Write at h
 unfold C_slices_Clone_api_Write_api_Write
 refine Calls.mono (calls_of_wpE (args := [sv_ s]) (R := fun v w' => ∃ (r0 : Slc), v = sv_ r0 ∧ R r0 w') Tryz.func89 (c := c89_0) (by kernel_rfl) 8 (by kernel_rfl) (by kernel_rfl) [(0, sv_ s)] (by kernel_rfl) ?_) ?_
 · refine Zp c89_3 P1 [(0, sv_ s)] ?_
   refine Zs c89_4 c89_13 ?_
   refine Zt r89_5 c89_7 ?_
   refine Zn P1 1 [(0, [], sv_ s), (3, [], sv_ s)] ?_
   refine reg_val (op := (Op.binOp BinOp.eql 47 (Operand.tmp 3) (Operand.const (Value.slice none 0 0)) 47)) (ty := 4) (dst := some 4) (Value.bool s.ptr.isNone) (by kernel_rfl) (fun ww => run_slice_eql_R (p := s.ptr) (l := s.len) (c := s.cap) (by kernel_rfl) (by kernel_rfl) (by kernel_rfl) ww) ?_
   refine Ze [(0, sv_ s), (4, .bool s.ptr.isNone)] ?_
   change WpE _ _ c89_7 _ _ _
   refine Zc 4 s.ptr.isNone c89_8 c89_12 (fun hb => ?_) (fun hb => ?_)
   · replace h := h.1 hb
     refine Zp c89_11 P1 [(2, .slice none 0 0)] ?_
     refine wpE_ret (by kernel_rfl) ?_
     repeat (first | refine seqQ_ret ?_ | refine blockQ_ret ?_ | refine loopQ_ret ?_ | refine cutQ_ret ?_)
     exact retS (rs := [(ResultVar.tmp 2)]) (v := Value.slice none 0 0) (by kernel_rfl) (⟨by kernel_rfl, trivial⟩) ⟨(Slc.mk none 0 0), rfl, h⟩
   · replace h := h.2 hb
     refine wpE_skip (by kernel_rfl) ?_
     change WpE _ _ c89_13 _ _ _
     refine Zt r89_14 c89_16 ?_
     refine Zn [] 0 [(0, [], sv_ s)] ?_
     refine Zw (some 5) (fun bb => .slice (some ⟨bb, 0, none⟩) 0 0) (Obj.cells ([]).toArray ty_api_Write (0, 0)) (fun b_ w1 hb hw => ?_)
     replace h := h b_ w1 hb hw
     clear hb hw
     refine Zn P1 2 [(5, [], .slice (some ⟨b_, 0, none⟩) 0 0), (6, [], sv_ s)] ?_
     obtain ⟨src, hs, h⟩ := h
     refine reg_append (t := 47) (tx := 47) (e := 80) (a := (Operand.tmp 5)) (xo := (Operand.tmp 6)) (s := (Slc.mk (some ⟨b_, 0, none⟩) 0 0)) (x := s) (sz := 3) (by_ := 40) (zs := [Value.string ByteArray.empty, Value.string ByteArray.empty, Value.bool false]) (ty := 47) (dst := some 7)  src (by kernel_rfl) (by kernel_rfl) (by kernel_rfl) (by kernel_rfl) (by kernel_rfl) (by kernel_rfl) (by kernel_rfl) (by kernel_rfl) (by kernel_rfl) hs (AppendW.mono h (fun v7 w2 h => ?_))
     refine Zf P1 [(2, sv_ v7)] ?_
     change WpE _ _ c89_16 _ _ _
     refine wpE_ret (by kernel_rfl) ?_
     repeat (first | refine seqQ_ret ?_ | refine blockQ_ret ?_ | refine loopQ_ret ?_ | refine cutQ_ret ?_)
     exact retS (rs := [(ResultVar.tmp 2)]) (v := sv_ v7) (by kernel_rfl) (⟨by kernel_rfl, trivial⟩) ⟨v7, rfl, h⟩
 · rintro e w' ⟨v, rfl, r0, rfl, h⟩; exact ⟨r0, rfl, h⟩

/-! ### slices.ContainsFunc[[]towpath/api.Write,towpath/api.Write] (function 135) -/
def c135_0 := cb_ Tryz.f135
def c135_3 := cr_ c135_0
def c135_4 := cl_ c135_3
def r135_4 := co_ c135_4
def c135_6 := cr_ c135_3

theorem S_slices_ContainsFunc_api_Write_api_Write {s : Slc} {f : Value} {w : World} {R : Bool → World → Prop} (h : F_slices_ContainsFunc_api_Write_api_Write s f R w) : C_slices_ContainsFunc_api_Write_api_Write s f w R := by
 unfold F_slices_ContainsFunc_api_Write_api_Write at h
 unfold C_slices_ContainsFunc_api_Write_api_Write
 refine Calls.mono (calls_of_wpE (args := [sv_ s, f]) (R := fun v w' => ∃ (r0 : Bool), v = Value.bool r0 ∧ R r0 w') Tryz.func135 (c := c135_0) (by kernel_rfl) 9 (by kernel_rfl) (by kernel_rfl) [(0, sv_ s), (1, f)] (by kernel_rfl) ?_) ?_
 · refine Zp c135_3 P1 [(0, sv_ s), (1, f)] ?_
   refine Zt r135_4 c135_6 ?_
   refine Zn P2 2 [(5, [], sv_ s), (6, [], f)] ?_
   refine Zm 140 #[sv_ s, f] (some 7) (Calls.mono h ?_)
   rintro _ w1 ⟨v7, rfl, h⟩
   refine ⟨_, rfl, ?_⟩
   refine Zf P2 [(4, .bool (decide (v7 ≥ 0)))] ?_
   change WpE _ _ c135_6 _ _ _
   refine wpE_ret (by kernel_rfl) ?_
   repeat (first | refine seqQ_ret ?_ | refine blockQ_ret ?_ | refine loopQ_ret ?_ | refine cutQ_ret ?_)
   exact retS (rs := [(ResultVar.tmp 4)]) (v := Value.bool (decide (v7 ≥ 0))) (by kernel_rfl) (⟨by kernel_rfl, trivial⟩) ⟨(decide (v7 ≥ 0)), rfl, h⟩
 · rintro e w' ⟨v, rfl, r0, rfl, h⟩; exact ⟨r0, rfl, h⟩

/-! ### slices.IndexFunc[[]towpath/api.Write,towpath/api.Write] (function 140) -/
def c140_0 := cb_ Tryz.f140
def c140_3 := cr_ c140_0
def c140_4 := cl_ c140_3
def c140_7 := cr_ c140_4
def c140_8 := cl_ c140_7
def c140_9 := cl_ c140_8
def c140_12 := cr_ c140_9
def c140_13 := cl_ c140_12
def c140_14 := cl_ c140_13
def c140_15 := cr_ c140_13
def c140_16 := cr_ c140_12
def c140_17 := cl_ c140_16
def c140_18 := cl_ c140_17
def c140_21 := cr_ c140_18
def c140_22 := cl_ c140_21
def r140_22 := co_ c140_22
def c140_24 := cr_ c140_21
def c140_25 := cl_ c140_24
def c140_28 := cr_ c140_25
def c140_29 := cr_ c140_24
def c140_30 := cr_ c140_16
def r140_30 := co_ c140_30
def c140_32 := cr_ c140_3
def c140_35 := cr_ c140_32

theorem S_slices_IndexFunc_api_Write_api_Write {s : Slc} {f : Value} {w : World} {R : Int → World → Prop} (h : F_slices_IndexFunc_api_Write_api_Write s f R w) : C_slices_IndexFunc_api_Write_api_Write s f w R := by
 unfold F_slices_IndexFunc_api_Write_api_Write at h
 unfold C_slices_IndexFunc_api_Write_api_Write
 refine Calls.mono (calls_of_wpE (args := [sv_ s, f]) (R := fun v w' => ∃ (r0 : Int), v = Value.int .i64 r0 ∧ R r0 w') Tryz.func140 (c := c140_0) (by kernel_rfl) 19 (by kernel_rfl) (by kernel_rfl) [(0, sv_ s), (1, f)] (by kernel_rfl) ?_) ?_
 · refine Zp c140_3 P1 [(0, sv_ s), (1, f)] ?_
   refine Zs c140_4 c140_32 ?_
   refine Zp c140_7 P3 [(0, sv_ s), (1, f), (7, .int .i64 ((s.len : Nat) : Int)), (8, .int .i64 0)] ?_
   refine Zb 0 c140_8 ?_
   obtain ⟨I, μ, h0, hr⟩ := h
   refine wpE_loop (x := c140_9) (by kernel_rfl) (fun m l w => ∃ (t8 : Int), l = [(0, sv_ s), (1, f), (7, Value.int .i64 ((s.len : Nat) : Int)), (8, Value.int .i64 t8)] ∧ I t8 w ∧ μ t8 w = m) (l' := [(0, sv_ s), (1, f), (7, Value.int .i64 ((s.len : Nat) : Int)), (8, Value.int .i64 0)]) (Sub.mk (by kernel_rfl)) ⟨0, rfl, h0, rfl⟩ ?_
   rintro _ _ w1 ⟨t8, rfl, hI, rfl⟩
   obtain ⟨again_, again__h, h⟩ : ∃ again_ : Int → World → Prop, (∀ t8' w', again_ t8' w' → I t8' w' ∧ μ t8' w' < μ t8 w1) ∧ F_slices_IndexFunc_api_Write_api_Write_L0 s f R again_ t8 w1 := ⟨_, fun _ _ h => h, hr t8 w1 hI⟩
   clear h0 hI
   unfold F_slices_IndexFunc_api_Write_api_Write_L0 at h
   refine Zp c140_12 P1 [(0, sv_ s), (1, f), (7, .int .i64 ((s.len : Nat) : Int)), (8, .int .i64 t8), (9, .bool (decide (t8 < ((s.len : Nat) : Int))))] ?_
   refine Zs c140_13 c140_16 ?_
   refine Zc 9 (decide (t8 < ((s.len : Nat) : Int))) c140_14 c140_15 (fun hb => ?_) (fun hb => ?_)
   · replace h := h.1 hb
     refine wpE_skip (by kernel_rfl) ?_
     change WpE _ _ c140_16 _ _ _
     refine Zs c140_17 c140_30 ?_
     refine Zb 1 c140_18 ?_
     refine Zp c140_21 P2 [(0, sv_ s), (1, f), (5, .int .i64 t8), (7, .int .i64 ((s.len : Nat) : Int)), (8, .int .i64 t8)] ?_
     refine Zt r140_22 c140_24 ?_
     refine Zn P3 3 [(0, [], sv_ s), (1, [], f), (5, [], .int .i64 t8), (7, [], .int .i64 ((s.len : Nat) : Int)), (8, [], .int .i64 t8), (11, [], f), (12, [], sv_ s), (13, [], .int .i64 t8)] ?_
     obtain ⟨hp_7, h⟩ := h
     refine Zv (fun pp => [(0, [], sv_ s), (1, [], f), (5, [], .int .i64 t8), (7, [], .int .i64 ((s.len : Nat) : Int)), (8, [], .int .i64 t8), (11, [], f), (12, [], .slice pp s.len s.cap), (13, [], .int .i64 t8)]) hp_7 ?_
     obtain ⟨h0, h1, h⟩ := h
     refine Zj 47 80 12 13 (pblk s.ptr) (poff s.ptr) s.len s.cap t8 3 14 0 h0 h1 ?_
     refine Zn [] 4 [(0, [], sv_ s), (1, [], f), (5, [], .int .i64 t8), (7, [], .int .i64 ((s.len : Nat) : Int)), (8, [], .int .i64 t8), (11, [], f), (14, [], .pointer (some ⟨(pblk s.ptr), (poff s.ptr) + t8.toNat * 3, none⟩))] ?_
     obtain ⟨v15, hc, h⟩ := h
     refine reg_loadN (t := 80) (a := (Operand.tmp 14)) (b := (pblk s.ptr)) (o := ((poff s.ptr) + t8.toNat * 3)) (ty := 80) (dst := some 15) [Value.string v15.Key, Value.string v15.Val, Value.bool v15.Drop] (by kernel_rfl) (by kernel_rfl) (by kernel_rfl) (k := 3) (by kernel_rfl) (by kernel_rfl) hc ?_
     refine Zn [] 5 [(0, [], sv_ s), (1, [], f), (5, [], .int .i64 t8), (7, [], .int .i64 ((s.len : Nat) : Int)), (8, [], .int .i64 t8), (11, [], f), (15, [], .agg #[.string v15.Key, .string v15.Val, .bool v15.Drop])] ?_
     refine reg_enterV (fo := (Operand.tmp 11)) (aa := #[(Operand.tmp 15)]) (ts := #[80]) (fv := f) (ty := 4) (dst := some 16) #[Value.agg #[Value.string v15.Key, Value.string v15.Val, Value.bool v15.Drop]] (by kernel_rfl) (by kernel_rfl) (by kernel_rfl) (CallsV.mono h ?_)
     rintro _ w2 ⟨v16, rfl, h⟩
     refine ⟨_, rfl, ?_⟩
     refine Ze [(0, sv_ s), (1, f), (5, .int .i64 t8), (7, .int .i64 ((s.len : Nat) : Int)), (8, .int .i64 t8), (16, .bool v16)] ?_
     change WpE _ _ c140_24 _ _ _
     refine Zc 16 v16 c140_25 c140_29 (fun hb => ?_) (fun hb => ?_)
     · replace h := h.1 hb
       refine Zp c140_28 P2 [(4, .int .i64 t8)] ?_
       refine wpE_ret (by kernel_rfl) ?_
       repeat (first | refine seqQ_ret ?_ | refine blockQ_ret ?_ | refine loopQ_ret ?_ | refine cutQ_ret ?_)
       exact retS (rs := [(ResultVar.tmp 4)]) (v := Value.int .i64 t8) (by kernel_rfl) (⟨by kernel_rfl, trivial⟩) ⟨t8, rfl, h⟩
     · replace h := h.2 hb
       refine wpE_skip (by kernel_rfl) ?_
       change WpE _ _ c140_30 _ _ _
       refine Zr r140_30 ?_
       refine Zf P2 [(0, sv_ s), (1, f), (7, .int .i64 ((s.len : Nat) : Int)), (8, .int .i64 (IntKind.i64.wrap (t8 + 1)))] ?_
       have hb_ := again__h _ _ h
       exact ⟨_, hb_.2, [(0, sv_ s), (1, f), (7, Value.int .i64 ((s.len : Nat) : Int)), (8, Value.int .i64 (IntKind.i64.wrap (t8 + 1)))], Sub.mk (by kernel_rfl), (IntKind.i64.wrap (t8 + 1)), rfl, hb_.1, rfl⟩
   · replace h := h.2 hb
     refine wpE_exit (id := 0) (by kernel_rfl) ?_
     change WpE _ _ c140_32 _ _ _
     refine Zp c140_35 P1 [(4, .int .i64 (-1))] ?_
     refine wpE_ret (by kernel_rfl) ?_
     repeat (first | refine seqQ_ret ?_ | refine blockQ_ret ?_ | refine loopQ_ret ?_ | refine cutQ_ret ?_)
     exact retS (rs := [(ResultVar.tmp 4)]) (v := Value.int .i64 (-1)) (by kernel_rfl) (⟨by kernel_rfl, trivial⟩) ⟨(-1), rfl, h⟩
 · rintro e w' ⟨v, rfl, r0, rfl, h⟩; exact ⟨r0, rfl, h⟩
end
end Go.Proofs.YtpedclhflmhakaaGreatDoor
