/- WRITTEN BY PROGRAM (dec.py): for each Go function the clean formula F, the call's contract C, and the proof S that F gives C. -/
import Derived.Test.YtchcljkflklddaaRows
import Derived.Test.YtchcljkflklddaaGF
namespace Go.Proofs.Ytchcljkflklddaa
open Go
set_option linter.unusedVariables false

/-! ### towpath/towpathref05.Key (function 43) -/
noncomputable def c_towpathref05_Key_0 : Code := (Try.f43.body).getD Code.skip
noncomputable def c_towpathref05_Key_1 : Code := Code.l c_towpathref05_Key_0
noncomputable def r_towpathref05_Key_1 : Array Oper := Code.ops c_towpathref05_Key_1
noncomputable def c_towpathref05_Key_3 : Code := Code.r c_towpathref05_Key_0
noncomputable def c_towpathref05_Key_4 : Code := Code.l c_towpathref05_Key_3
noncomputable def r_towpathref05_Key_4 : Array Oper := Code.ops c_towpathref05_Key_4
noncomputable def c_towpathref05_Key_6 : Code := Code.r c_towpathref05_Key_3

set_option maxRecDepth 100000 in
set_option maxHeartbeats 4000000 in
theorem S_towpathref05_Key {s : ByteArray} {w : World} {R : Bool → World → Prop} (h : F_towpathref05_Key s R w) : C_towpathref05_Key s w R := by
  unfold F_towpathref05_Key at h
  unfold C_towpathref05_Key
  refine Calls.mono (calls_of_wpE (args := [Value.string s]) (R := fun v w' => ∃ (r0 : Bool), v = Value.bool r0 ∧ R r0 w') Try.func43 (c := c_towpathref05_Key_0) (by kernel_rfl) 11 (by kernel_rfl) (by kernel_rfl) [(0, Value.string s)] (by kernel_rfl) ?_) ?_
  · refine wpE_seq (x := c_towpathref05_Key_1) (y := c_towpathref05_Key_3) (by kernel_rfl) ?_
    refine wpE_region (id := 0) (ops := r_towpathref05_Key_1) (by kernel_rfl) ?_
    refine reg_run [.plain] 1 [(0, [], Value.string s)] (by kernel_rfl) (by kernel_rfl) ?_
    refine reg_end [(0, Value.string s)] (by kernel_rfl) (by kernel_rfl) ?_
    change WpE _ _ c_towpathref05_Key_3 _ _ _
    refine wpE_seq (x := c_towpathref05_Key_4) (y := c_towpathref05_Key_6) (by kernel_rfl) ?_
    refine wpE_region (id := 1) (ops := r_towpathref05_Key_4) (by kernel_rfl) ?_
    refine reg_run [.plain, .plain, .plain, .plain, .plain, .plain, .plain, .pick, .plain] 9 [(2, [], Value.bool ((decide (((s.size : Nat) : Int) ≥ 1)) && (decide (((s.size : Nat) : Int) ≤ 64))))] (by kernel_rfl) (by kernel_rfl) ?_
    refine reg_end [(2, Value.bool ((decide (((s.size : Nat) : Int) ≥ 1)) && (decide (((s.size : Nat) : Int) ≤ 64))))] (by kernel_rfl) (by kernel_rfl) ?_
    change WpE _ _ c_towpathref05_Key_6 _ _ _
    refine wpE_ret (by kernel_rfl) ?_
    repeat (first | refine seqQ_ret ?_ | refine blockQ_ret ?_ | refine loopQ_ret ?_ | refine cutQ_ret ?_)
    exact retS (rs := [(Go.ResultVar.tmp 2)]) (v := Value.bool ((decide (((s.size : Nat) : Int) ≥ 1)) && (decide (((s.size : Nat) : Int) ≤ 64)))) (by kernel_rfl) (⟨by kernel_rfl, trivial⟩) ⟨((decide (((s.size : Nat) : Int) ≥ 1)) && (decide (((s.size : Nat) : Int) ≤ 64))), rfl, h⟩
  · rintro e w' ⟨v, rfl, r0, rfl, h⟩; exact ⟨r0, rfl, h⟩
end Go.Proofs.Ytchcljkflklddaa
