/- WRITTEN BY PROGRAM (dec.py): for each Go function the clean formula F, the call's contract C, and the proof S that F gives C. -/
import Derived.Test.YtckmganidgbpgaaDoorRows
import Derived.Test.YtckmganidgbpgaaDoorGF
namespace Go.Proofs.YtckmganidgbpgaaDoor
open Go
set_option linter.unusedVariables false

/-! ### towpath/num.Zigzag (function 21) -/
noncomputable def c_num_Zigzag_0 : Code := (Tryd.f21.body).getD Code.skip
noncomputable def c_num_Zigzag_1 : Code := Code.l c_num_Zigzag_0
noncomputable def r_num_Zigzag_1 : Array Oper := Code.ops c_num_Zigzag_1
noncomputable def c_num_Zigzag_3 : Code := Code.r c_num_Zigzag_0
noncomputable def c_num_Zigzag_4 : Code := Code.l c_num_Zigzag_3
noncomputable def r_num_Zigzag_4 : Array Oper := Code.ops c_num_Zigzag_4
noncomputable def c_num_Zigzag_6 : Code := Code.r c_num_Zigzag_3

set_option maxRecDepth 100000 in
set_option maxHeartbeats 4000000 in
theorem S_num_Zigzag {x : Int} {w : World} {R : Int → World → Prop} (h : F_num_Zigzag x R w) : C_num_Zigzag x w R := by
  unfold F_num_Zigzag at h
  unfold C_num_Zigzag
  refine Calls.mono (calls_of_wpE (args := [Value.int .i64 x]) (R := fun v w' => ∃ (r0 : Int), v = Value.int .u64 r0 ∧ R r0 w') Tryd.func21 (c := c_num_Zigzag_0) (by kernel_rfl) 10 (by kernel_rfl) (by kernel_rfl) [(0, Value.int .i64 x)] (by kernel_rfl) ?_) ?_
  · refine wpE_seq (x := c_num_Zigzag_1) (y := c_num_Zigzag_3) (by kernel_rfl) ?_
    refine wpE_region (id := 0) (ops := r_num_Zigzag_1) (by kernel_rfl) ?_
    refine reg_run [.plain] 1 [(0, [], Value.int .i64 x)] (by kernel_rfl) (by kernel_rfl) ?_
    refine reg_end [(0, Value.int .i64 x)] (by kernel_rfl) (by kernel_rfl) ?_
    change WpE _ _ c_num_Zigzag_3 _ _ _
    refine wpE_seq (x := c_num_Zigzag_4) (y := c_num_Zigzag_6) (by kernel_rfl) ?_
    refine wpE_region (id := 1) (ops := r_num_Zigzag_4) (by kernel_rfl) ?_
    refine reg_run [.plain, .plain, .plain, .plain, .plain, .plain, .plain, .plain] 8 [(2, [], Value.int .u64 (bxor .u64 (IntKind.u64.wrap ((IntKind.u64.wrap x) * 2 ^ 1)) (IntKind.u64.wrap (Int.fdiv x (2 ^ 63)))))] (by kernel_rfl) (by kernel_rfl) ?_
    refine reg_end [(2, Value.int .u64 (bxor .u64 (IntKind.u64.wrap ((IntKind.u64.wrap x) * 2 ^ 1)) (IntKind.u64.wrap (Int.fdiv x (2 ^ 63)))))] (by kernel_rfl) (by kernel_rfl) ?_
    change WpE _ _ c_num_Zigzag_6 _ _ _
    refine wpE_ret (by kernel_rfl) ?_
    repeat (first | refine seqQ_ret ?_ | refine blockQ_ret ?_ | refine loopQ_ret ?_ | refine cutQ_ret ?_)
    exact retS (rs := [(Go.ResultVar.tmp 2)]) (v := Value.int .u64 (bxor .u64 (IntKind.u64.wrap ((IntKind.u64.wrap x) * 2 ^ 1)) (IntKind.u64.wrap (Int.fdiv x (2 ^ 63))))) (by kernel_rfl) (⟨by kernel_rfl, trivial⟩) ⟨(bxor .u64 (IntKind.u64.wrap ((IntKind.u64.wrap x) * 2 ^ 1)) (IntKind.u64.wrap (Int.fdiv x (2 ^ 63)))), rfl, h⟩
  · rintro e w' ⟨v, rfl, r0, rfl, h⟩; exact ⟨r0, rfl, h⟩
end Go.Proofs.YtckmganidgbpgaaDoor
