/- WRITTEN BY PROGRAM (dec.py): for each Go function the clean formula F, the call's contract C, and the proof S that F gives C. -/
import Derived.Test.YtmcpljflohlnaaaRows
import Derived.Test.YtmcpljflohlnaaaGF
namespace Go.Proofs.Ytmcpljflohlnaaa
open Go
set_option linter.unusedVariables false

/-! ### towpath/towpathlaw03.alive (function 56) -/
noncomputable def c_towpathlaw03_alive_0 : Code := (Try.f56.body).getD Code.skip
noncomputable def c_towpathlaw03_alive_1 : Code := Code.l c_towpathlaw03_alive_0
noncomputable def r_towpathlaw03_alive_1 : Array Oper := Code.ops c_towpathlaw03_alive_1
noncomputable def c_towpathlaw03_alive_3 : Code := Code.r c_towpathlaw03_alive_0
noncomputable def c_towpathlaw03_alive_4 : Code := Code.l c_towpathlaw03_alive_3
noncomputable def r_towpathlaw03_alive_4 : Array Oper := Code.ops c_towpathlaw03_alive_4
noncomputable def c_towpathlaw03_alive_6 : Code := Code.r c_towpathlaw03_alive_3

set_option maxRecDepth 100000 in
set_option maxHeartbeats 4000000 in
theorem S_towpathlaw03_alive {w : World} {R : Bool → World → Prop} (h : F_towpathlaw03_alive R w) : C_towpathlaw03_alive w R := by
  unfold F_towpathlaw03_alive at h
  unfold C_towpathlaw03_alive
  refine Calls.mono (calls_of_wpE (args := []) (R := fun v w' => ∃ (r0 : Bool), v = Value.bool r0 ∧ R r0 w') Try.func56 (c := c_towpathlaw03_alive_0) (by kernel_rfl) 13 (by kernel_rfl) (by kernel_rfl) [] (by kernel_rfl) ?_) ?_
  · refine wpE_seq (x := c_towpathlaw03_alive_1) (y := c_towpathlaw03_alive_3) (by kernel_rfl) ?_
    refine wpE_region (id := 0) (ops := r_towpathlaw03_alive_1) (by kernel_rfl) ?_
    refine reg_run [.plain] 1 [] (by kernel_rfl) (by kernel_rfl) ?_
    refine reg_end [] (by kernel_rfl) (by kernel_rfl) ?_
    change WpE _ _ c_towpathlaw03_alive_3 _ _ _
    refine wpE_seq (x := c_towpathlaw03_alive_4) (y := c_towpathlaw03_alive_6) (by kernel_rfl) ?_
    refine wpE_region (id := 1) (ops := r_towpathlaw03_alive_4) (by kernel_rfl) ?_
    refine reg_run [] 0 [] (by kernel_rfl) (by kernel_rfl) ?_
    refine reg_new (op := (Go.Op.buildSlice 74 9 #[(0, (Go.Operand.const (Go.Value.int Go.IntKind.u8 49))), (1, (Go.Operand.const (Go.Value.int Go.IntKind.u8 50))), (2, (Go.Operand.const (Go.Value.int Go.IntKind.u8 51))), (3, (Go.Operand.const (Go.Value.int Go.IntKind.u8 52))), (4, (Go.Operand.const (Go.Value.int Go.IntKind.u8 53))), (5, (Go.Operand.const (Go.Value.int Go.IntKind.u8 54))), (6, (Go.Operand.const (Go.Value.int Go.IntKind.u8 55))), (7, (Go.Operand.const (Go.Value.int Go.IntKind.u8 56))), (8, (Go.Operand.const (Go.Value.int Go.IntKind.u8 57)))])) (ty := 74) (dst := some 1) (fun bb => Value.slice (some ⟨bb, 0, none⟩) 9 9) (Obj.cells ([Value.int .u8 49, Value.int .u8 50, Value.int .u8 51, Value.int .u8 52, Value.int .u8 53, Value.int .u8 54, Value.int .u8 55, Value.int .u8 56, Value.int .u8 57]).toArray ty_uint8 (0, 0)) (by kernel_rfl) (by kernel_rfl) (fun b_ w1 hb hw => ?_)
    replace h := h b_ w1 hb hw
    clear hb hw
    refine reg_run [] 1 [(1, [], Value.slice (some ⟨b_, 0, none⟩) 9 9)] (by kernel_rfl) (by kernel_rfl) ?_
    obtain ⟨T_, k_, hs, h⟩ := h
    refine reg_convMark (t := 74) (e := 5) (x := (Go.Operand.tmp 1)) (b := b_) (o := 0) (l := 9) (c := 9) (ty := 74) (dst := some 2) (by kernel_rfl) (by kernel_rfl) (by kernel_rfl) (by kernel_rfl) ⟨T_, k_, hs, fun w2 hw => ?_⟩
    replace h := h w2 hw
    clear hw hs
    refine reg_run [] 2 [(2, [], Value.slice (some ⟨b_, 0, none⟩) 9 9)] (by kernel_rfl) (by kernel_rfl) ?_
    refine reg_enter (op := (Go.Op.call (Go.Call.mk (Go.Callee.value (Go.Operand.func 51)) #[(Go.Operand.tmp 2)] #[74]))) (ty := 39) (dst := some 3) 51 #[Value.slice (some ⟨b_, 0, none⟩) 9 9] (by kernel_rfl) (fun ww => by kernel_rfl) (Calls.mono h ?_)
    rintro _ w3 ⟨v3, rfl, h⟩
    refine ⟨_, rfl, ?_⟩
    refine reg_run [.plain, .plain] 5 [(5, [], Value.bool (v3 == 3808858755))] (by kernel_rfl) (by kernel_rfl) ?_
    refine reg_split 5 (v3 == 3808858755) (by kernel_rfl) (fun hb => ?_) (fun hb => ?_)
    · replace h := h.1 hb
      refine reg_run [] 5 [(5, [], Value.bool true)] (by kernel_rfl) (by kernel_rfl) ?_
      refine reg_run [] 5 [(5, [], Value.bool true)] (by kernel_rfl) (by kernel_rfl) ?_
      refine reg_enter (op := (Go.Op.call (Go.Call.mk (Go.Callee.value (Go.Operand.func 38)) #[(Go.Operand.const (Go.Value.string (ByteArray.mk #[102, 111, 111, 98, 97, 114])))] #[9]))) (ty := 39) (dst := some 6) 38 #[Value.string (ByteArray.mk #[102, 111, 111, 98, 97, 114])] (by kernel_rfl) (fun ww => by kernel_rfl) (Calls.mono h ?_)
      rintro _ w4 ⟨v6, rfl, h⟩
      refine ⟨_, rfl, ?_⟩
      refine reg_run [.sure, .plain, .plain] 9 [(9, [], Value.bool (v6 == 3214735720))] (by kernel_rfl) (by kernel_rfl) ?_
      refine reg_split 9 (v6 == 3214735720) (by kernel_rfl) (fun hb => ?_) (fun hb => ?_)
      · replace h := h.1 hb
        refine reg_run [] 9 [(9, [], Value.bool true)] (by kernel_rfl) (by kernel_rfl) ?_
        refine reg_run [] 9 [(9, [], Value.bool true)] (by kernel_rfl) (by kernel_rfl) ?_
        refine reg_enter (op := (Go.Op.call (Go.Call.mk (Go.Callee.value (Go.Operand.func 38)) #[(Go.Operand.const (Go.Value.string (ByteArray.mk #[])))] #[9]))) (ty := 39) (dst := some 10) 38 #[Value.string ByteArray.empty] (by kernel_rfl) (fun ww => by kernel_rfl) (Calls.mono h ?_)
        rintro _ w5 ⟨v10, rfl, h⟩
        refine ⟨_, rfl, ?_⟩
        refine reg_run [.sure, .plain, .plain] 13 [(0, [], Value.bool (v10 == 2166136261))] (by kernel_rfl) (by kernel_rfl) ?_
        refine reg_end [(0, Value.bool (v10 == 2166136261))] (by kernel_rfl) (by kernel_rfl) ?_
        change WpE _ _ c_towpathlaw03_alive_6 _ _ _
        refine wpE_ret (by kernel_rfl) ?_
        repeat (first | refine seqQ_ret ?_ | refine blockQ_ret ?_ | refine loopQ_ret ?_ | refine cutQ_ret ?_)
        exact retS (rs := [(Go.ResultVar.tmp 0)]) (v := Value.bool (v10 == 2166136261)) (by kernel_rfl) (⟨by kernel_rfl, trivial⟩) ⟨(v10 == 2166136261), rfl, h⟩
      · replace h := h.2 hb
        refine reg_run [] 9 [(9, [], Value.bool false)] (by kernel_rfl) (by kernel_rfl) ?_
        refine reg_run [.skip, .skip, .plain, .plain] 13 [(0, [], Value.bool false)] (by kernel_rfl) (by kernel_rfl) ?_
        refine reg_end [(0, Value.bool false)] (by kernel_rfl) (by kernel_rfl) ?_
        change WpE _ _ c_towpathlaw03_alive_6 _ _ _
        refine wpE_ret (by kernel_rfl) ?_
        repeat (first | refine seqQ_ret ?_ | refine blockQ_ret ?_ | refine loopQ_ret ?_ | refine cutQ_ret ?_)
        exact retS (rs := [(Go.ResultVar.tmp 0)]) (v := Value.bool false) (by kernel_rfl) (⟨by kernel_rfl, trivial⟩) ⟨false, rfl, h⟩
    · replace h := h.2 hb
      refine reg_run [] 5 [(5, [], Value.bool false)] (by kernel_rfl) (by kernel_rfl) ?_
      refine reg_run [.skip, .skip, .plain, .plain, .skip, .skip, .plain, .plain] 13 [(0, [], Value.bool false)] (by kernel_rfl) (by kernel_rfl) ?_
      refine reg_end [(0, Value.bool false)] (by kernel_rfl) (by kernel_rfl) ?_
      change WpE _ _ c_towpathlaw03_alive_6 _ _ _
      refine wpE_ret (by kernel_rfl) ?_
      repeat (first | refine seqQ_ret ?_ | refine blockQ_ret ?_ | refine loopQ_ret ?_ | refine cutQ_ret ?_)
      exact retS (rs := [(Go.ResultVar.tmp 0)]) (v := Value.bool false) (by kernel_rfl) (⟨by kernel_rfl, trivial⟩) ⟨false, rfl, h⟩
  · rintro e w' ⟨v, rfl, r0, rfl, h⟩; exact ⟨r0, rfl, h⟩
end Go.Proofs.Ytmcpljflohlnaaa
