/- WRITTEN BY PROGRAM (dec.py): for each Go function the clean formula F, the call's contract C, and the proof S that F gives C. -/
import Derived.Test.YtckmganidgbpgaaGreatDoorRows
import Derived.Test.YtckmganidgbpgaaGreatDoorGF
namespace Go.Proofs.YtckmganidgbpgaaGreatDoor
open Go
set_option linter.unusedVariables false

/-! ### slices.Clone[[]byte,byte] (function 31) -/
noncomputable def c_slices_Clone_byte_byte_0 : Code := (Tryz.f31.body).getD Code.skip
noncomputable def c_slices_Clone_byte_byte_1 : Code := Code.l c_slices_Clone_byte_byte_0
noncomputable def r_slices_Clone_byte_byte_1 : Array Oper := Code.ops c_slices_Clone_byte_byte_1
noncomputable def c_slices_Clone_byte_byte_3 : Code := Code.r c_slices_Clone_byte_byte_0
noncomputable def c_slices_Clone_byte_byte_4 : Code := Code.l c_slices_Clone_byte_byte_3
noncomputable def c_slices_Clone_byte_byte_5 : Code := Code.l c_slices_Clone_byte_byte_4
noncomputable def r_slices_Clone_byte_byte_5 : Array Oper := Code.ops c_slices_Clone_byte_byte_5
noncomputable def c_slices_Clone_byte_byte_7 : Code := Code.r c_slices_Clone_byte_byte_4
noncomputable def c_slices_Clone_byte_byte_8 : Code := Code.l c_slices_Clone_byte_byte_7
noncomputable def c_slices_Clone_byte_byte_9 : Code := Code.l c_slices_Clone_byte_byte_8
noncomputable def r_slices_Clone_byte_byte_9 : Array Oper := Code.ops c_slices_Clone_byte_byte_9
noncomputable def c_slices_Clone_byte_byte_11 : Code := Code.r c_slices_Clone_byte_byte_8
noncomputable def c_slices_Clone_byte_byte_12 : Code := Code.r c_slices_Clone_byte_byte_7
noncomputable def c_slices_Clone_byte_byte_13 : Code := Code.r c_slices_Clone_byte_byte_3
noncomputable def c_slices_Clone_byte_byte_14 : Code := Code.l c_slices_Clone_byte_byte_13
noncomputable def r_slices_Clone_byte_byte_14 : Array Oper := Code.ops c_slices_Clone_byte_byte_14
noncomputable def c_slices_Clone_byte_byte_16 : Code := Code.r c_slices_Clone_byte_byte_13

set_option maxRecDepth 100000 in
set_option maxHeartbeats 4000000 in
theorem S_slices_Clone_byte_byte {s : Slc} {w : World} {R : Slc → World → Prop} (h : F_slices_Clone_byte_byte s R w) : C_slices_Clone_byte_byte s w R := by
  unfold F_slices_Clone_byte_byte at h
  unfold C_slices_Clone_byte_byte
  refine Calls.mono (calls_of_wpE (args := [Value.slice s.ptr s.len s.cap]) (R := fun v w' => ∃ (r0 : Slc), v = Value.slice r0.ptr r0.len r0.cap ∧ R r0 w') Tryz.func31 (c := c_slices_Clone_byte_byte_0) (by kernel_rfl) 8 (by kernel_rfl) (by kernel_rfl) [(0, Value.slice s.ptr s.len s.cap)] (by kernel_rfl) ?_) ?_
  · refine wpE_seq (x := c_slices_Clone_byte_byte_1) (y := c_slices_Clone_byte_byte_3) (by kernel_rfl) ?_
    refine wpE_region (id := 0) (ops := r_slices_Clone_byte_byte_1) (by kernel_rfl) ?_
    refine reg_run [.plain] 1 [(0, [], Value.slice s.ptr s.len s.cap)] (by kernel_rfl) (by kernel_rfl) ?_
    refine reg_end [(0, Value.slice s.ptr s.len s.cap)] (by kernel_rfl) (by kernel_rfl) ?_
    change WpE _ _ c_slices_Clone_byte_byte_3 _ _ _
    refine wpE_seq (x := c_slices_Clone_byte_byte_4) (y := c_slices_Clone_byte_byte_13) (by kernel_rfl) ?_
    refine wpE_seq (x := c_slices_Clone_byte_byte_5) (y := c_slices_Clone_byte_byte_7) (by kernel_rfl) ?_
    refine wpE_region (id := 1) (ops := r_slices_Clone_byte_byte_5) (by kernel_rfl) ?_
    refine reg_run [.plain] 1 [(0, [], Value.slice s.ptr s.len s.cap), (3, [], Value.slice s.ptr s.len s.cap)] (by kernel_rfl) (by kernel_rfl) ?_
    refine reg_val (op := (Go.Op.binOp Go.BinOp.eql 45 (Go.Operand.tmp 3) (Go.Operand.const (Go.Value.slice none 0 0)) 45)) (ty := 4) (dst := some 4) (Value.bool s.ptr.isNone) (by kernel_rfl) (fun ww => run_slice_eql_R (p := s.ptr) (l := s.len) (c := s.cap) (by kernel_rfl) (by kernel_rfl) (by kernel_rfl) ww) ?_
    refine reg_end [(0, Value.slice s.ptr s.len s.cap), (4, Value.bool s.ptr.isNone)] (by kernel_rfl) (by kernel_rfl) ?_
    change WpE _ _ c_slices_Clone_byte_byte_7 _ _ _
    refine wpE_cond (o := (Operand.tmp 4)) (b := s.ptr.isNone) (x := c_slices_Clone_byte_byte_8) (y := c_slices_Clone_byte_byte_12) (by kernel_rfl) (by kernel_rfl) (fun hb => ?_) (fun hb => ?_)
    · replace h := h.1 hb
      refine wpE_seq (x := c_slices_Clone_byte_byte_9) (y := c_slices_Clone_byte_byte_11) (by kernel_rfl) ?_
      refine wpE_region (id := 2) (ops := r_slices_Clone_byte_byte_9) (by kernel_rfl) ?_
      refine reg_run [.plain] 1 [(2, [], Value.slice none 0 0)] (by kernel_rfl) (by kernel_rfl) ?_
      refine reg_end [(2, Value.slice none 0 0)] (by kernel_rfl) (by kernel_rfl) ?_
      change WpE _ _ c_slices_Clone_byte_byte_11 _ _ _
      refine wpE_ret (by kernel_rfl) ?_
      repeat (first | refine seqQ_ret ?_ | refine blockQ_ret ?_ | refine loopQ_ret ?_ | refine cutQ_ret ?_)
      exact retS (rs := [(Go.ResultVar.tmp 2)]) (v := Value.slice none 0 0) (by kernel_rfl) (⟨by kernel_rfl, trivial⟩) ⟨(Slc.mk none 0 0), rfl, h⟩
    · replace h := h.2 hb
      refine wpE_skip (by kernel_rfl) ?_
      change WpE _ _ c_slices_Clone_byte_byte_13 _ _ _
      refine wpE_seq (x := c_slices_Clone_byte_byte_14) (y := c_slices_Clone_byte_byte_16) (by kernel_rfl) ?_
      refine wpE_region (id := 3) (ops := r_slices_Clone_byte_byte_14) (by kernel_rfl) ?_
      refine reg_run [] 0 [(0, [], Value.slice s.ptr s.len s.cap)] (by kernel_rfl) (by kernel_rfl) ?_
      refine reg_new (op := (Go.Op.buildSlice 45 0 #[])) (ty := 45) (dst := some 5) (fun bb => Value.slice (some ⟨bb, 0, none⟩) 0 0) (Obj.cells ([]).toArray ty_uint8 (0, 0)) (by kernel_rfl) (by kernel_rfl) (fun b_ w1 hb hw => ?_)
      replace h := h b_ w1 hb hw
      clear hb hw
      refine reg_run [.plain] 2 [(5, [], Value.slice (some ⟨b_, 0, none⟩) 0 0), (6, [], Value.slice s.ptr s.len s.cap)] (by kernel_rfl) (by kernel_rfl) ?_
      obtain ⟨src, hs, h⟩ := h
      refine reg_append (t := 45) (tx := 45) (e := 5) (a := (Go.Operand.tmp 5)) (xo := (Go.Operand.tmp 6)) (s := (Slc.mk (some ⟨b_, 0, none⟩) 0 0)) (x := s) (sz := 1) (by_ := 1) (zs := [Value.int .u8 0]) (ty := 45) (dst := some 7)  src (by kernel_rfl) (by kernel_rfl) (by kernel_rfl) (by kernel_rfl) (by kernel_rfl) (by kernel_rfl) (by kernel_rfl) (by kernel_rfl) (by kernel_rfl) hs (AppendW.mono h (fun v7 w2 h => ?_))
      refine reg_run [.plain] 4 [(2, [], Value.slice v7.ptr v7.len v7.cap)] (by kernel_rfl) (by kernel_rfl) ?_
      refine reg_end [(2, Value.slice v7.ptr v7.len v7.cap)] (by kernel_rfl) (by kernel_rfl) ?_
      change WpE _ _ c_slices_Clone_byte_byte_16 _ _ _
      refine wpE_ret (by kernel_rfl) ?_
      repeat (first | refine seqQ_ret ?_ | refine blockQ_ret ?_ | refine loopQ_ret ?_ | refine cutQ_ret ?_)
      exact retS (rs := [(Go.ResultVar.tmp 2)]) (v := Value.slice v7.ptr v7.len v7.cap) (by kernel_rfl) (⟨by kernel_rfl, trivial⟩) ⟨v7, rfl, h⟩
  · rintro e w' ⟨v, rfl, r0, rfl, h⟩; exact ⟨r0, rfl, h⟩
end Go.Proofs.YtckmganidgbpgaaGreatDoor
