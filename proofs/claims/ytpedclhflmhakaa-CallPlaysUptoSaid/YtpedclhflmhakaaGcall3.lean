/- WRITTEN BY PROGRAM (dec.py): for each Go function the clean formula F, the call's contract C, and the proof S that F gives C. -/
import Derived.Test.YtpedclhflmhakaaRows
import Derived.Test.YtpedclhflmhakaaGF
namespace Go.Proofs.Ytpedclhflmhakaa
open Go
set_option linter.unusedVariables false
set_option maxRecDepth 100000
set_option maxHeartbeats 4000000
noncomputable section

/-! ### towpath/call.entries$1 (function 113) -/

theorem S_call_entries_1 {a_ : T_api_Entry} {b_ : T_api_Entry} {w : World} {R : Int → World → Prop} (h : F_call_entries_1 a_ b_ R w) : C_call_entries_1 a_ b_ w R := by
 unfold F_call_entries_1 at h
 refine Yh Try.func113 ?_
 · refine Yt ?_
   refine Yw pv_ h fun b_1 w1 h => ?_
   refine Yw pv_ h fun b_2 w2 h => ?_
   refine Yf P1 [2, 3] ?_
   refine Yt ?_
   refine Yn P1 ?_
   refine Yl h fun v6 h => ?_
   refine Yn P1 ?_
   refine Yl h fun v8 h => ?_
   refine Ym1 h fun v9 w3 h => ?_
   refine Yf P1 [4] ?_
   exact YS ⟨v9, rfl, h⟩
end
end Go.Proofs.Ytpedclhflmhakaa
