/- WRITTEN BY PROGRAM (dec.py): for each Go function the clean formula F, the call's contract C, and the proof S that F gives C. -/
import Derived.Test.YtckmganidgbpgaaRows
import Derived.Test.YtckmganidgbpgaaGF
namespace Go.Proofs.Ytckmganidgbpgaa
open Go
set_option linter.unusedVariables false

/-! ### towpath/towpathref01.Zagzig (function 71) -/
noncomputable def c_towpathref01_Zagzig_0 : Code := (Try.f71.body).getD Code.skip
noncomputable def c_towpathref01_Zagzig_1 : Code := Code.l c_towpathref01_Zagzig_0
noncomputable def r_towpathref01_Zagzig_1 : Array Oper := Code.ops c_towpathref01_Zagzig_1
noncomputable def c_towpathref01_Zagzig_3 : Code := Code.r c_towpathref01_Zagzig_0
noncomputable def c_towpathref01_Zagzig_4 : Code := Code.l c_towpathref01_Zagzig_3
noncomputable def c_towpathref01_Zagzig_5 : Code := Code.l c_towpathref01_Zagzig_4
noncomputable def r_towpathref01_Zagzig_5 : Array Oper := Code.ops c_towpathref01_Zagzig_5
noncomputable def c_towpathref01_Zagzig_7 : Code := Code.r c_towpathref01_Zagzig_4
noncomputable def c_towpathref01_Zagzig_8 : Code := Code.l c_towpathref01_Zagzig_7
noncomputable def c_towpathref01_Zagzig_9 : Code := Code.l c_towpathref01_Zagzig_8
noncomputable def r_towpathref01_Zagzig_9 : Array Oper := Code.ops c_towpathref01_Zagzig_9
noncomputable def c_towpathref01_Zagzig_11 : Code := Code.r c_towpathref01_Zagzig_8
noncomputable def c_towpathref01_Zagzig_12 : Code := Code.r c_towpathref01_Zagzig_7
noncomputable def c_towpathref01_Zagzig_13 : Code := Code.r c_towpathref01_Zagzig_3
noncomputable def c_towpathref01_Zagzig_14 : Code := Code.l c_towpathref01_Zagzig_13
noncomputable def r_towpathref01_Zagzig_14 : Array Oper := Code.ops c_towpathref01_Zagzig_14
noncomputable def c_towpathref01_Zagzig_16 : Code := Code.r c_towpathref01_Zagzig_13

set_option maxRecDepth 100000 in
set_option maxHeartbeats 4000000 in
theorem S_towpathref01_Zagzig {x : Int} {w : World} {R : Int → World → Prop} (h : F_towpathref01_Zagzig x R w) : C_towpathref01_Zagzig x w R := by
  unfold F_towpathref01_Zagzig at h
  unfold C_towpathref01_Zagzig
  refine Calls.mono (calls_of_wpE (args := [Value.int .u64 x]) (R := fun v w' => ∃ (r0 : Int), v = Value.int .i64 r0 ∧ R r0 w') Try.func71 (c := c_towpathref01_Zagzig_0) (by kernel_rfl) 13 (by kernel_rfl) (by kernel_rfl) [(0, Value.int .u64 x)] (by kernel_rfl) ?_) ?_
  · refine wpE_seq (x := c_towpathref01_Zagzig_1) (y := c_towpathref01_Zagzig_3) (by kernel_rfl) ?_
    refine wpE_region (id := 0) (ops := r_towpathref01_Zagzig_1) (by kernel_rfl) ?_
    refine reg_run [.plain] 1 [(0, [], Value.int .u64 x)] (by kernel_rfl) (by kernel_rfl) ?_
    refine reg_end [(0, Value.int .u64 x)] (by kernel_rfl) (by kernel_rfl) ?_
    change WpE _ _ c_towpathref01_Zagzig_3 _ _ _
    refine wpE_seq (x := c_towpathref01_Zagzig_4) (y := c_towpathref01_Zagzig_13) (by kernel_rfl) ?_
    refine wpE_seq (x := c_towpathref01_Zagzig_5) (y := c_towpathref01_Zagzig_7) (by kernel_rfl) ?_
    refine wpE_region (id := 1) (ops := r_towpathref01_Zagzig_5) (by kernel_rfl) ?_
    refine reg_run [.plain, .plain, .plain] 3 [(0, [], Value.int .u64 x), (5, [], Value.bool ((Int.tmod x 2) == 0))] (by kernel_rfl) (by kernel_rfl) ?_
    refine reg_end [(0, Value.int .u64 x), (5, Value.bool ((Int.tmod x 2) == 0))] (by kernel_rfl) (by kernel_rfl) ?_
    change WpE _ _ c_towpathref01_Zagzig_7 _ _ _
    refine wpE_cond (o := (Operand.tmp 5)) (b := ((Int.tmod x 2) == 0)) (x := c_towpathref01_Zagzig_8) (y := c_towpathref01_Zagzig_12) (by kernel_rfl) (by kernel_rfl) (fun hb => ?_) (fun hb => ?_)
    · replace h := h.1 hb
      refine wpE_seq (x := c_towpathref01_Zagzig_9) (y := c_towpathref01_Zagzig_11) (by kernel_rfl) ?_
      refine wpE_region (id := 2) (ops := r_towpathref01_Zagzig_9) (by kernel_rfl) ?_
      refine reg_run [.plain, .plain, .plain, .plain] 4 [(2, [], Value.int .i64 (IntKind.i64.wrap (IntKind.u64.wrap (Int.tdiv x 2))))] (by kernel_rfl) (by kernel_rfl) ?_
      refine reg_end [(2, Value.int .i64 (IntKind.i64.wrap (IntKind.u64.wrap (Int.tdiv x 2))))] (by kernel_rfl) (by kernel_rfl) ?_
      change WpE _ _ c_towpathref01_Zagzig_11 _ _ _
      refine wpE_ret (by kernel_rfl) ?_
      repeat (first | refine seqQ_ret ?_ | refine blockQ_ret ?_ | refine loopQ_ret ?_ | refine cutQ_ret ?_)
      exact retS (rs := [(Go.ResultVar.tmp 2)]) (v := Value.int .i64 (IntKind.i64.wrap (IntKind.u64.wrap (Int.tdiv x 2)))) (by kernel_rfl) (⟨by kernel_rfl, trivial⟩) ⟨(IntKind.i64.wrap (IntKind.u64.wrap (Int.tdiv x 2))), rfl, h⟩
    · replace h := h.2 hb
      refine wpE_skip (by kernel_rfl) ?_
      change WpE _ _ c_towpathref01_Zagzig_13 _ _ _
      refine wpE_seq (x := c_towpathref01_Zagzig_14) (y := c_towpathref01_Zagzig_16) (by kernel_rfl) ?_
      refine wpE_region (id := 3) (ops := r_towpathref01_Zagzig_14) (by kernel_rfl) ?_
      refine reg_run [.plain, .plain, .plain, .plain, .plain] 5 [(2, [], Value.int .i64 (IntKind.i64.wrap ((-1) - (IntKind.i64.wrap (IntKind.u64.wrap (Int.tdiv x 2))))))] (by kernel_rfl) (by kernel_rfl) ?_
      refine reg_end [(2, Value.int .i64 (IntKind.i64.wrap ((-1) - (IntKind.i64.wrap (IntKind.u64.wrap (Int.tdiv x 2))))))] (by kernel_rfl) (by kernel_rfl) ?_
      change WpE _ _ c_towpathref01_Zagzig_16 _ _ _
      refine wpE_ret (by kernel_rfl) ?_
      repeat (first | refine seqQ_ret ?_ | refine blockQ_ret ?_ | refine loopQ_ret ?_ | refine cutQ_ret ?_)
      exact retS (rs := [(Go.ResultVar.tmp 2)]) (v := Value.int .i64 (IntKind.i64.wrap ((-1) - (IntKind.i64.wrap (IntKind.u64.wrap (Int.tdiv x 2)))))) (by kernel_rfl) (⟨by kernel_rfl, trivial⟩) ⟨(IntKind.i64.wrap ((-1) - (IntKind.i64.wrap (IntKind.u64.wrap (Int.tdiv x 2))))), rfl, h⟩
  · rintro e w' ⟨v, rfl, r0, rfl, h⟩; exact ⟨r0, rfl, h⟩
end Go.Proofs.Ytckmganidgbpgaa
