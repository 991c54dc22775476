/- WRITTEN BY PROGRAM (dec.py): for each Go function the clean formula F, the call's contract C, and the proof S that F gives C. -/
import Derived.Test.YtpedclhflmhakaaRows
import Derived.Test.YtpedclhflmhakaaGF
namespace Go.Proofs.Ytpedclhflmhakaa
open Go
set_option linter.unusedVariables false
set_option maxRecDepth 100000
set_option maxHeartbeats 4000000
noncomputable section

/-! ### towpath/towpathref05.Key (function 117) -/

theorem S_towpathref05_Key {s : ByteArray} {w : World} {R : Bool → World → Prop} (h : F_towpathref05_Key s R w) : C_towpathref05_Key s w R := by
 unfold F_towpathref05_Key at h
 refine Yh Try.func117 ?_
 · refine Yp P1 [0] ?_
   refine Yp [.plain, .plain, .plain, .plain, .plain, .plain, .plain, .pick, .plain] [2] ?_
   exact YS ⟨((decide (((s.size : Nat) : Int) ≥ 1)) && (decide (((s.size : Nat) : Int) ≤ 64))), rfl, h⟩
end
end Go.Proofs.Ytpedclhflmhakaa
