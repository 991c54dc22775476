/- WRITTEN BY PROGRAM (dec.py): for each Go function the clean formula F, the call's contract C, and the proof S that F gives C. -/
import Derived.Test.YtjlfdepkphibgaaGreatDoorRows
import Derived.Test.YtjlfdepkphibgaaGreatDoorGF
namespace Go.Proofs.YtjlfdepkphibgaaGreatDoor
open Go
set_option linter.unusedVariables false
set_option maxRecDepth 100000
set_option maxHeartbeats 4000000
noncomputable section

/-! ### (*towpath/towpathref18.taker).text (function 167) -/

theorem S_mb {t_:OA} {most:Int} {w:World} {R:ByteArray→WP} (h:F_od t_ most R w):C_I t_ most w R:=by
 unfold F_od at h
 refine Yh Tryz.func167 ?_
 ·refine Yp P1 [0,1] (Ys (Yt (Yn P1 ?_)))
  refine Yv 7 h fun hp_3 h=> ?_
  refine Yn P1 (Yn P1 ?_)
  refine Yl h fun v10 h=> ?_
  refine Yf P1 [0,1,11] ?_
  refine Yc h (fun h=> ?_) fun h=> ?_
  ·refine Yp P1 [4] ?_
   exact YS ⟨ByteArray.empty,rfl,h⟩
  ·refine zg (Yt (Yn P1 ?_))
   refine Yv 13 h fun hp_5 h=> ?_
   refine Yn P1 (Yn P1 ?_)
   refine YL h fun v16 h=> ?_
   refine Yn P1 ?_
   refine Ym2 h fun v18 s w1 h=> ?_
   refine Yn P3 ?_
   refine Yw pv_ h fun b_ w2 h=> ?_
   refine Yo h fun w3 h=> ?_
   refine Yf P1 [0,5,6] (Yt (Yn P1 ?_))
   refine YL h fun v22 h=> ?_
   refine Yv 21 h fun hp_7 h=> ?_
   refine Yn P1 (Yn P1 ?_)
   refine Yo h fun w4 h=> ?_
   refine Yf [] [0,5,6] (Yt (Yn P2 ?_))
   refine Yl h fun v27 h=> ?_
   refine Yv 25 h fun hp_9 h=> ?_
   refine Yn P1 (Yn P1 ?_)
   refine Yo h fun w5 h=> ?_
   refine Yf [] [6] (Yp P2 [4] ?_)
   exact YS ⟨s,rfl,h⟩

/-! ### (*towpath/towpathref18.taker).drop (function 168) -/

theorem S_nb {t_:OA} {w:World} {R:Bool→WP} (h:F_pd t_ R w):C_Ib t_ w R:=by
 unfold F_pd at h
 refine Yh Tryz.func168 ?_
 ·refine Yp P1 [0] (Ys (Yt (Yn P1 ?_)))
  refine Yv 5 h fun hp_3 h=> ?_
  refine Yn P1 (Yn P1 ?_)
  refine Yl h fun v8 h=> ?_
  refine Yf P1 [0,9] ?_
  refine Yc h (fun h=> ?_) fun h=> ?_
  ·refine Yp P1 [2] ?_
   exact YS ⟨false,rfl,h⟩
  ·refine zg (Yt (Yn P1 ?_))
   refine Yv 11 h fun hp_5 h=> ?_
   refine Yn P1 (Yn P1 ?_)
   refine YL h fun v14 h=> ?_
   refine Ym2 h fun v15 n_ w1 h=> ?_
   refine Yn P3 ?_
   refine Yw pv_ h fun b_ w2 h=> ?_
   refine Yo h fun w3 h=> ?_
   refine Yf P1 [0,3,4] (Yt (Yn P1 ?_))
   refine YL h fun v19 h=> ?_
   refine Yv 18 h fun hp_7 h=> ?_
   refine Yn P1 (Yn P1 ?_)
   refine Yo h fun w4 h=> ?_
   refine Yf [] [0,3,4] (Yt (Yn P2 ?_))
   refine Yl h fun v24 h=> ?_
   refine Yv 22 h fun hp_9 h=> ?_
   refine Yn P1 (Yn P1 ?_)
   refine Yo h fun w5 h=> ?_
   refine Yf [] [0,4] ?_
   refine Ycut (fun l w=>l=[(4,Value.int .u64 n_)]∧F_r R n_ w) ?_ ?_
   ·refine Yt (Yn P1 ?_)
    refine Yv 27 h fun hp_14 h=> ?_
    refine Yn P1 (Yn P1 ?_)
    refine Yl h fun v30 h=> ?_
    refine Yf [.plain,.plain,.plain,.plain,.pick] [0,4,35] ?_
    refine Yc h (fun h=> ?_) fun h=> ?_
    ·refine Yr (Yn P1 ?_)
     refine Yv 36 h fun hp_15 h=> ?_
     refine Yn P1 (Yn P1 ?_)
     refine Yo h fun w7 h=> ?_
     refine Yf [] [4] ?_
     exact⟨_,Sub.mk K_,rfl,h⟩
    ·refine zg ?_
     exact⟨_,Sub.mk K_,rfl,h⟩
   ·rintro _ w6 ⟨rfl,h⟩
    unfold F_r at h
    refine Yp P3 [2] ?_
    exact YS ⟨(n_==1),rfl,h⟩
end
end Go.Proofs.YtjlfdepkphibgaaGreatDoor
