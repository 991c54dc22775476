/- WRITTEN BY PROGRAM (dec.py): for each Go function the clean formula F, the call's contract C, and the proof S that F gives C. -/
import Derived.Test.YtckmganidgbpgaaDoorRows
import Derived.Test.YtckmganidgbpgaaDoorGF
namespace Go.Proofs.YtckmganidgbpgaaDoor
open Go
set_option linter.unusedVariables false

/-! ### towpath/towpathref01.Zigzag (function 20) -/
noncomputable def c_towpathref01_Zigzag_0 : Code := (Tryd.f20.body).getD Code.skip
noncomputable def c_towpathref01_Zigzag_1 : Code := Code.l c_towpathref01_Zigzag_0
noncomputable def r_towpathref01_Zigzag_1 : Array Oper := Code.ops c_towpathref01_Zigzag_1
noncomputable def c_towpathref01_Zigzag_3 : Code := Code.r c_towpathref01_Zigzag_0
noncomputable def c_towpathref01_Zigzag_4 : Code := Code.l c_towpathref01_Zigzag_3
noncomputable def c_towpathref01_Zigzag_5 : Code := Code.l c_towpathref01_Zigzag_4
noncomputable def r_towpathref01_Zigzag_5 : Array Oper := Code.ops c_towpathref01_Zigzag_5
noncomputable def c_towpathref01_Zigzag_7 : Code := Code.r c_towpathref01_Zigzag_4
noncomputable def c_towpathref01_Zigzag_8 : Code := Code.l c_towpathref01_Zigzag_7
noncomputable def c_towpathref01_Zigzag_9 : Code := Code.l c_towpathref01_Zigzag_8
noncomputable def r_towpathref01_Zigzag_9 : Array Oper := Code.ops c_towpathref01_Zigzag_9
noncomputable def c_towpathref01_Zigzag_11 : Code := Code.r c_towpathref01_Zigzag_8
noncomputable def c_towpathref01_Zigzag_12 : Code := Code.r c_towpathref01_Zigzag_7
noncomputable def c_towpathref01_Zigzag_13 : Code := Code.r c_towpathref01_Zigzag_3
noncomputable def c_towpathref01_Zigzag_14 : Code := Code.l c_towpathref01_Zigzag_13
noncomputable def r_towpathref01_Zigzag_14 : Array Oper := Code.ops c_towpathref01_Zigzag_14
noncomputable def c_towpathref01_Zigzag_16 : Code := Code.r c_towpathref01_Zigzag_13

set_option maxRecDepth 100000 in
set_option maxHeartbeats 4000000 in
theorem S_towpathref01_Zigzag {x : Int} {w : World} {R : Int → World → Prop} (h : F_towpathref01_Zigzag x R w) : C_towpathref01_Zigzag x w R := by
  unfold F_towpathref01_Zigzag at h
  unfold C_towpathref01_Zigzag
  refine Calls.mono (calls_of_wpE (args := [Value.int .i64 x]) (R := fun v w' => ∃ (r0 : Int), v = Value.int .u64 r0 ∧ R r0 w') Tryd.func20 (c := c_towpathref01_Zigzag_0) (by kernel_rfl) 13 (by kernel_rfl) (by kernel_rfl) [(0, Value.int .i64 x)] (by kernel_rfl) ?_) ?_
  · refine wpE_seq (x := c_towpathref01_Zigzag_1) (y := c_towpathref01_Zigzag_3) (by kernel_rfl) ?_
    refine wpE_region (id := 0) (ops := r_towpathref01_Zigzag_1) (by kernel_rfl) ?_
    refine reg_run [.plain] 1 [(0, [], Value.int .i64 x)] (by kernel_rfl) (by kernel_rfl) ?_
    refine reg_end [(0, Value.int .i64 x)] (by kernel_rfl) (by kernel_rfl) ?_
    change WpE _ _ c_towpathref01_Zigzag_3 _ _ _
    refine wpE_seq (x := c_towpathref01_Zigzag_4) (y := c_towpathref01_Zigzag_13) (by kernel_rfl) ?_
    refine wpE_seq (x := c_towpathref01_Zigzag_5) (y := c_towpathref01_Zigzag_7) (by kernel_rfl) ?_
    refine wpE_region (id := 1) (ops := r_towpathref01_Zigzag_5) (by kernel_rfl) ?_
    refine reg_run [.plain, .plain] 2 [(0, [], Value.int .i64 x), (4, [], Value.bool (decide (x ≥ 0)))] (by kernel_rfl) (by kernel_rfl) ?_
    refine reg_end [(0, Value.int .i64 x), (4, Value.bool (decide (x ≥ 0)))] (by kernel_rfl) (by kernel_rfl) ?_
    change WpE _ _ c_towpathref01_Zigzag_7 _ _ _
    refine wpE_cond (o := (Operand.tmp 4)) (b := (decide (x ≥ 0))) (x := c_towpathref01_Zigzag_8) (y := c_towpathref01_Zigzag_12) (by kernel_rfl) (by kernel_rfl) (fun hb => ?_) (fun hb => ?_)
    · replace h := h.1 hb
      refine wpE_seq (x := c_towpathref01_Zigzag_9) (y := c_towpathref01_Zigzag_11) (by kernel_rfl) ?_
      refine wpE_region (id := 2) (ops := r_towpathref01_Zigzag_9) (by kernel_rfl) ?_
      refine reg_run [.plain, .plain, .plain, .plain] 4 [(2, [], Value.int .u64 (IntKind.u64.wrap (2 * (IntKind.u64.wrap x))))] (by kernel_rfl) (by kernel_rfl) ?_
      refine reg_end [(2, Value.int .u64 (IntKind.u64.wrap (2 * (IntKind.u64.wrap x))))] (by kernel_rfl) (by kernel_rfl) ?_
      change WpE _ _ c_towpathref01_Zigzag_11 _ _ _
      refine wpE_ret (by kernel_rfl) ?_
      repeat (first | refine seqQ_ret ?_ | refine blockQ_ret ?_ | refine loopQ_ret ?_ | refine cutQ_ret ?_)
      exact retS (rs := [(Go.ResultVar.tmp 2)]) (v := Value.int .u64 (IntKind.u64.wrap (2 * (IntKind.u64.wrap x)))) (by kernel_rfl) (⟨by kernel_rfl, trivial⟩) ⟨(IntKind.u64.wrap (2 * (IntKind.u64.wrap x))), rfl, h⟩
    · replace h := h.2 hb
      refine wpE_skip (by kernel_rfl) ?_
      change WpE _ _ c_towpathref01_Zigzag_13 _ _ _
      refine wpE_seq (x := c_towpathref01_Zigzag_14) (y := c_towpathref01_Zigzag_16) (by kernel_rfl) ?_
      refine wpE_region (id := 3) (ops := r_towpathref01_Zigzag_14) (by kernel_rfl) ?_
      refine reg_run [.plain, .plain, .plain, .plain, .plain, .plain] 6 [(2, [], Value.int .u64 (IntKind.u64.wrap ((IntKind.u64.wrap (2 * (IntKind.u64.wrap (IntKind.i64.wrap ((-1) - x))))) + 1)))] (by kernel_rfl) (by kernel_rfl) ?_
      refine reg_end [(2, Value.int .u64 (IntKind.u64.wrap ((IntKind.u64.wrap (2 * (IntKind.u64.wrap (IntKind.i64.wrap ((-1) - x))))) + 1)))] (by kernel_rfl) (by kernel_rfl) ?_
      change WpE _ _ c_towpathref01_Zigzag_16 _ _ _
      refine wpE_ret (by kernel_rfl) ?_
      repeat (first | refine seqQ_ret ?_ | refine blockQ_ret ?_ | refine loopQ_ret ?_ | refine cutQ_ret ?_)
      exact retS (rs := [(Go.ResultVar.tmp 2)]) (v := Value.int .u64 (IntKind.u64.wrap ((IntKind.u64.wrap (2 * (IntKind.u64.wrap (IntKind.i64.wrap ((-1) - x))))) + 1))) (by kernel_rfl) (⟨by kernel_rfl, trivial⟩) ⟨(IntKind.u64.wrap ((IntKind.u64.wrap (2 * (IntKind.u64.wrap (IntKind.i64.wrap ((-1) - x))))) + 1)), rfl, h⟩
  · rintro e w' ⟨v, rfl, r0, rfl, h⟩; exact ⟨r0, rfl, h⟩
end Go.Proofs.YtckmganidgbpgaaDoor
