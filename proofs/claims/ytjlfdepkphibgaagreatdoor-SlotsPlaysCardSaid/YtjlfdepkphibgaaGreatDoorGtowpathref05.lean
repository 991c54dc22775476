/- WRITTEN BY PROGRAM (dec.py): for each Go function the clean formula F, the call's contract C, and the proof S that F gives C. -/
import Derived.Test.YtjlfdepkphibgaaGreatDoorRows
import Derived.Test.YtjlfdepkphibgaaGreatDoorGF
namespace Go.Proofs.YtjlfdepkphibgaaGreatDoor
open Go
set_option linter.unusedVariables false
set_option maxRecDepth 100000
set_option maxHeartbeats 4000000
noncomputable section

/-! ### towpath/towpathref05.Key (function 179) -/

theorem S_qc {s:ByteArray} {w:World} {R:Bool→WP} (h:F_6e s R w):C_uc s w R:=by
 unfold F_6e at h
 refine Yh Tryz.func179 ?_
 ·refine Yp P1 [0] (Yp [.plain,.plain,.plain,.plain,.plain,.plain,.plain,.pick,.plain] [2] ?_)
  exact YS ⟨((decide (((s.size:Nat):Int)≥1))&&(decide (((s.size:Nat):Int)≤64))),rfl,h⟩
end
end Go.Proofs.YtjlfdepkphibgaaGreatDoor
