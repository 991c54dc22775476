/- WRITTEN BY PROGRAM (dec.py): for each Go function the clean formula F, the call's contract C, and the proof S that F gives C. -/
import Derived.Test.YtpedclhflmhakaaRows
import Derived.Test.YtpedclhflmhakaaGF
namespace Go.Proofs.Ytpedclhflmhakaa
open Go
set_option linter.unusedVariables false
set_option maxRecDepth 100000
set_option maxHeartbeats 4000000
noncomputable section

/-! ### towpath/towpathref15.Key (function 59) -/
def c59_0 := cb_ Try.f59
def c59_3 := cr_ c59_0
def c59_6 := cr_ c59_3

theorem S_towpathref15_Key {s : ByteArray} {w : World} {R : Bool → World → Prop} (h : F_towpathref15_Key s R w) : C_towpathref15_Key s w R := by
 unfold F_towpathref15_Key at h
 unfold C_towpathref15_Key
 refine Calls.mono (calls_of_wpE (args := [Value.string s]) (R := fun v w' => ∃ (r0 : Bool), v = Value.bool r0 ∧ R r0 w') Try.func59 (c := c59_0) (by kernel_rfl) 11 (by kernel_rfl) (by kernel_rfl) [(0, Value.string s)] (by kernel_rfl) ?_) ?_
 · refine Zp c59_3 P1 [(0, .string s)] ?_
   refine Zp c59_6 [.plain, .plain, .plain, .plain, .plain, .plain, .plain, .pick, .plain] [(2, .bool ((decide (((s.size : Nat) : Int) > 0)) && (decide (((s.size : Nat) : Int) ≤ 64))))] ?_
   refine wpE_ret (by kernel_rfl) ?_
   repeat (first | refine seqQ_ret ?_ | refine blockQ_ret ?_ | refine loopQ_ret ?_ | refine cutQ_ret ?_)
   exact retS (rs := [(ResultVar.tmp 2)]) (v := Value.bool ((decide (((s.size : Nat) : Int) > 0)) && (decide (((s.size : Nat) : Int) ≤ 64)))) (by kernel_rfl) (⟨by kernel_rfl, trivial⟩) ⟨((decide (((s.size : Nat) : Int) > 0)) && (decide (((s.size : Nat) : Int) ≤ 64))), rfl, h⟩
 · rintro e w' ⟨v, rfl, r0, rfl, h⟩; exact ⟨r0, rfl, h⟩
end
end Go.Proofs.Ytpedclhflmhakaa
