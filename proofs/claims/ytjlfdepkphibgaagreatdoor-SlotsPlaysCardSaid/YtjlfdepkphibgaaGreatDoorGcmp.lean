/- WRITTEN BY PROGRAM (dec.py): for each Go function the clean formula F, the call's contract C, and the proof S that F gives C. -/
import Derived.Test.YtjlfdepkphibgaaGreatDoorRows
import Derived.Test.YtjlfdepkphibgaaGreatDoorGF
namespace Go.Proofs.YtjlfdepkphibgaaGreatDoor
open Go
set_option linter.unusedVariables false
set_option maxRecDepth 100000
set_option maxHeartbeats 4000000
noncomputable section

/-! ### cmp.Less[int] (function 176) -/

theorem S_Ec {x:Int} {y:Int} {w:World} {R:Bool→WP} (h:F_Ye x y R w):C_Hc x y w R:=by
 unfold F_Ye at h
 refine Yh Tryz.func176 ?_
 ·refine Yp P1 [0,1] (Yt (Yn P1 ?_))
  refine Ym1 h fun v6 w1 h=> ?_
  refine Yn P2 ?_
  refine Yspl 7 h (fun h=> ?_) fun h=> ?_
  ·refine Ym1 h fun v9 w2 h=> ?_
   refine Yf [.sure,.plain,.plain,.plain,.plain,.plain,.pick,.plain] [4] ?_
   exact YS ⟨((!v9)||(decide (x<y))),rfl,h⟩
  ·refine Yf [.skip,.skip,.plain,.plain,.sure,.sure,.sure,.plain,.plain] [4] ?_
   exact YS ⟨(decide (x<y)),rfl,h⟩

/-! ### cmp.isNaN[int] (function 189) -/

theorem S_zc {x:Int} {w:World} {R:Bool→WP} (h:F_Qe x R w):C_Gc x w R:=by
 unfold F_Qe at h
 refine Yh Tryz.func189 ?_
 ·refine Yp P1 [0] (Yp P4 [2] ?_)
  exact YS ⟨(x != x),rfl,h⟩
end
end Go.Proofs.YtjlfdepkphibgaaGreatDoor
