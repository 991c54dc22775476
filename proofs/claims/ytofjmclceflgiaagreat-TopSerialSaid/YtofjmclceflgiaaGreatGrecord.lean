/- WRITTEN BY PROGRAM (dec.py): for each Go function the clean formula F, the call's contract C, and the proof S that F gives C. -/
import Derived.Test.YtofjmclceflgiaaGreatRows
import Derived.Test.YtofjmclceflgiaaGreatGF
namespace Go.Proofs.YtofjmclceflgiaaGreat
open Go
set_option linter.unusedVariables false
set_option maxRecDepth 100000
set_option maxHeartbeats 4000000
noncomputable section

/-! ### towpath/record.Check (function 92) -/

theorem S_Hb {t_:T_b} {w:World} {R:Int→WP} (h:F_Id t_ R w):C_O t_ w R:=by
 unfold F_Id at h
 refine Yh Tryz.func92 ?_
 ·refine Yt ?_
  refine Yw pv_ h fun b_ w1 h=> ?_
  refine Yf P1 [1] (Yp P1 [1,3] (Ys ?_))
  refine Ycut (fun l w=>∃(t23:Bool),l=[(23,Vo t23)]∧F_p R t23 w) ?_ ?_
  ·refine Yr (Yn P1 ?_)
   refine Yl h fun v5 h=> ?_
   refine Yn P3 ?_
   refine Yspl 7 h (fun h=> ?_) fun h=> ?_
   ·refine Yf [.skip,.skip,.plain,.plain,.skip,.skip,.skip,.skip,.plain,.plain,.skip,.skip,.skip,.skip,.plain] [23] ?_
    exact⟨_,Sub.mk K_,true,rfl,h⟩
   ·refine Yl h fun v9 h=> ?_
    refine Yn [.sure,.plain,.plain,.plain] ?_
    refine Yspl 12 h (fun h=> ?_) fun h=> ?_
    ·refine Yf [.skip,.skip,.skip,.plain,.plain,.skip,.skip,.skip,.skip,.plain] [23] ?_
     exact⟨_,Sub.mk K_,true,rfl,h⟩
    ·refine Yl h fun v14 h=> ?_
     refine Yn [.sure,.sure,.plain,.plain,.plain] ?_
     refine Yspl 18 h (fun h=> ?_) fun h=> ?_
     ·refine Yf [.skip,.skip,.skip,.plain] [23] ?_
      exact⟨_,Sub.mk K_,true,rfl,h⟩
     ·refine Yl h fun v20 h=> ?_
      refine Yn [.sure] ?_
      refine Ym1 h fun v22 w3 h=> ?_
      refine Yf P1 [23] ?_
      exact⟨_,Sub.mk K_,v22,rfl,h⟩
  ·rintro _ w2 ⟨t23,rfl,h⟩
   unfold F_p at h
   refine Yc h (fun h=> ?_) fun h=> ?_
   ·refine Yp P1 [2] ?_
    exact YS ⟨1,rfl,h⟩
   ·refine zk (Yp P1 [2] ?_)
    exact YS ⟨0,rfl,h⟩

/-! ### towpath/record.Check$1 (function 113) -/

theorem S_kb {w_:T_d} {w:World} {R:Bool→WP} (h:F_zd w_ R w):C_1b w_ w R:=by
 unfold F_zd at h
 refine Yh Tryz.func113 ?_
 ·refine Yt ?_
  refine Yw pv_ h fun b_ w1 h=> ?_
  refine Yf P1 [1] (Yt (Yn P1 ?_))
  refine Yl h fun v4 h=> ?_
  refine Yn P3 ?_
  refine Yspl 6 h (fun h=> ?_) fun h=> ?_
  ·refine Yf [.skip,.skip,.skip,.plain,.plain,.skip,.skip,.skip,.skip,.plain,.plain,.skip,.skip,.skip,.skip,.skip,.skip,.skip,.plain,.plain] [2] ?_
   exact YS ⟨true,rfl,h⟩
  ·refine Yl h fun v8 h=> ?_
   refine Yn [.sure,.sure,.plain,.plain,.plain] ?_
   refine Yspl 12 h (fun h=> ?_) fun h=> ?_
   ·refine Yf [.skip,.skip,.skip,.plain,.plain,.skip,.skip,.skip,.skip,.skip,.skip,.skip,.plain,.plain] [2] ?_
    exact YS ⟨true,rfl,h⟩
   ·refine Yl h fun v14 h=> ?_
    refine Yn [.sure,.sure,.plain,.plain,.plain] ?_
    refine Yspl 18 h (fun h=> ?_) fun h=> ?_
    ·refine Yf [.skip,.skip,.skip,.skip,.skip,.skip,.plain,.plain] [2] ?_
     exact YS ⟨true,rfl,h⟩
    ·refine Yl h fun v20 h=> ?_
     refine Yn [.sure,.plain] ?_
     refine Yspl 21 h (fun h=> ?_) fun h=> ?_
     ·refine Yl h fun v23 h=> ?_
      refine Yf [.sure,.sure,.plain,.plain] [2] ?_
      exact YS ⟨(!(v23.toList==ByteArray.empty.toList)),rfl,h⟩
     ·refine Yf [.skip,.skip,.sure,.plain,.plain] [2] ?_
      exact YS ⟨false,rfl,h⟩
end
end Go.Proofs.YtofjmclceflgiaaGreat
