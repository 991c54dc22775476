/- WRITTEN BY PROGRAM (dec.py): for each Go function the clean formula F, the call's contract C, and the proof S that F gives C. -/
import Derived.Test.YtpdegdnigcnjiaaRows
import Derived.Test.YtpdegdnigcnjiaaGF
namespace Go.Proofs.Ytpdegdnigcnjiaa
open Go
set_option linter.unusedVariables false
set_option maxRecDepth 100000
set_option maxHeartbeats 4000000
noncomputable section

/-! ### cmp.Less[int] (function 78) -/

theorem S_cmp_Less_int {x : Int} {y : Int} {w : World} {R : Bool → World → Prop} (h : F_cmp_Less_int x y R w) : C_cmp_Less_int x y w R := by
 unfold F_cmp_Less_int at h
 refine Yh Try.func78 ?_
 · refine Yp P1 [0, 1] ?_
   refine Yt ?_
   refine Yn P1 ?_
   refine Ym1 h fun v6 w1 h => ?_
   refine Yn P2 ?_
   refine Yspl 7 h (fun h => ?_) fun h => ?_
   · refine Ym1 h fun v9 w2 h => ?_
     refine Yf [.sure, .plain, .plain, .plain, .plain, .plain, .pick, .plain] [4] ?_
     exact YS ⟨((!v9) || (decide (x < y))), rfl, h⟩
   · refine Yf [.skip, .skip, .plain, .plain, .sure, .sure, .sure, .plain, .plain] [4] ?_
     exact YS ⟨(decide (x < y)), rfl, h⟩

/-! ### cmp.isNaN[int] (function 89) -/

theorem S_cmp_isNaN_int {x : Int} {w : World} {R : Bool → World → Prop} (h : F_cmp_isNaN_int x R w) : C_cmp_isNaN_int x w R := by
 unfold F_cmp_isNaN_int at h
 refine Yh Try.func89 ?_
 · refine Yp P1 [0] ?_
   refine Yp P4 [2] ?_
   exact YS ⟨(x != x), rfl, h⟩
end
end Go.Proofs.Ytpdegdnigcnjiaa
