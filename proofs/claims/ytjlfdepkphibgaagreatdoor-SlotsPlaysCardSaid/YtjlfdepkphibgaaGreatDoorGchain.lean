/- WRITTEN BY PROGRAM (dec.py): for each Go function the clean formula F, the call's contract C, and the proof S that F gives C. -/
import Derived.Test.YtjlfdepkphibgaaGreatDoorRows
import Derived.Test.YtjlfdepkphibgaaGreatDoorGF
namespace Go.Proofs.YtjlfdepkphibgaaGreatDoor
open Go
set_option linter.unusedVariables false
set_option maxRecDepth 100000
set_option maxHeartbeats 4000000
noncomputable section

/-! ### towpath/chain.Check (function 174) -/
def zUs:=cb_ Tryz.f174
def zVs:=cr_ zUs
def zWs:=cl_ zVs
def zXs:=cr_ zWs
def zYs:=cl_ zXs
def zZs:=cl_ zYs
def zfn:=cr_ zZs
def zgn:=cr_ zfn
def zhn:=cl_ zgn
def zin:=cl_ zhn
def zjn:=cr_ zin
def zkn:=cl_ zjn
def zln:=co_ zkn

theorem S_Hc {l_:Slc} {w:World} {R:Int→WP} (h:F_af l_ R w):C_jc l_ w R:=by
 unfold F_af at h
 refine Yh Tryz.func174 ?_
 ·refine Yp P1 [0] (Ys (Yp P3 [0,5,6,7] (Yd 0 ?_)))
  obtain⟨I,μ,h0,hr⟩:=h
  refine zN (fun m l w=>∃(t7:Int),l=[(0,sv_ l_),(5,sv_ l_),(6,Vi ((l_.len:Nat):Int)),(7,Vi t7)]∧I t7 w∧μ t7 w=m) ⟨0,rfl,h0,rfl⟩ ?_
  rintro _ _ w1 ⟨t7,rfl,hI,rfl⟩
  obtain⟨again_,again__h,h⟩:∃ again_:Int→WP,(∀ t7' w',again_ t7' w'→I t7' w'∧μ t7' w'<μ t7 w1)∧F_ae l_ R again_ t7 w1:=⟨_,fun _ _ h=>h,hr t7 w1 hI⟩
  clear h0 hI
  unfold F_ae at h
  refine Yp P1 [0,5,6,7,8] (Ys ?_)
  refine Yc h (fun h=> ?_) fun h=> ?_
  ·refine zg (Ys (Yd 1 (Yt (Yn P1 ?_))))
   obtain⟨hp_19,h⟩:=h
   refine Yu 5 (fun pp=> .slice pp l_.len l_.cap) hp_19 ?_
   refine Yi h fun h=> ?_
   refine YL h fun v11 h=> ?_
   refine Yw pv_ h fun b_ w2 h=> ?_
   refine Yn P1 ?_
   refine Yo h fun w3 h=> ?_
   refine Yu 5 (fun pp=> .slice pp l_.len l_.cap) hp_19.symm ?_
   refine Yf [] [0,3,4,5,6,7] ?_
   refine Ycut (fun l w=>∃(t49:Bool),l=[(0,sv_ l_),(5,sv_ l_),(6,Vi ((l_.len:Nat):Int)),(7,Vi t7),(49,Vo t49)]∧F_c R t7 again_ t49 w) ?_ ?_
   ·refine zO (id:=4) (ops:=zln) K_ K_ K_ ?_
    refine Qn P1 ?_
    refine Ql h fun v13 h=> ?_
    refine Qn P3 ?_
    refine Qspl 15 h (fun h=> ?_) fun h=> ?_
    ·refine Qf [.skip,.skip,.plain,.plain,.skip,.skip,.skip,.skip,.plain,.plain,.skip,.skip,.skip,.skip,.skip,.skip,.skip,.plain,.plain,.skip,.skip,.skip,.skip,.skip,.skip,.skip,.skip,.skip,.skip,.skip,.skip,.skip,.plain] [0,5,6,7,49] h fun w5 h=> ?_
     exact⟨_,Sub.mk K_,true,rfl,h⟩
    ·refine Ql h fun v17 h=> ?_
     refine Qn [.sure,.plain,.plain,.plain] ?_
     refine Qspl 20 h (fun h=> ?_) fun h=> ?_
     ·refine Qf [.skip,.skip,.skip,.plain,.plain,.skip,.skip,.skip,.skip,.skip,.skip,.skip,.plain,.plain,.skip,.skip,.skip,.skip,.skip,.skip,.skip,.skip,.skip,.skip,.skip,.skip,.skip,.plain] [0,5,6,7,49] h fun w6 h=> ?_
      exact⟨_,Sub.mk K_,true,rfl,h⟩
     ·refine Ql h fun v22 h=> ?_
      refine Qn [.sure,.sure,.plain,.plain,.plain] ?_
      refine Qspl 26 h (fun h=> ?_) fun h=> ?_
      ·refine Qf [.skip,.skip,.skip,.skip,.skip,.skip,.plain,.plain,.skip,.skip,.skip,.skip,.skip,.skip,.skip,.skip,.skip,.skip,.skip,.skip,.skip,.plain] [0,5,6,7,49] h fun w7 h=> ?_
       exact⟨_,Sub.mk K_,true,rfl,h⟩
      ·refine Ql h fun v28 h=> ?_
       refine Qn [.sure,.plain] ?_
       refine Qspl 29 h (fun h=> ?_) fun h=> ?_
       ·refine Ql h fun v31 h=> ?_
        refine Qn [.sure,.sure,.plain,.plain,.plain,.plain,.plain,.plain,.plain,.plain] ?_
        refine Qspl 35 h (fun h=> ?_) fun h=> ?_
        ·refine Qf [.skip,.skip,.skip,.skip,.skip,.skip,.skip,.plain] [0,5,6,7,49] h fun w8 h=> ?_
         exact⟨_,Sub.mk K_,true,rfl,h⟩
        ·refine Qspl 38 h (fun h=> ?_) fun h=> ?_
         ·obtain⟨hp_22,h⟩:=h
          refine Qu 39 (fun pp=> .slice pp l_.len l_.cap) hp_22 ?_
          refine Qi h fun h=> ?_
          refine Qn [.sure] ?_
          refine Ql h fun v44 h=> ?_
          refine Qn [.sure] ?_
          refine Ql h fun v46 h=> ?_
          refine Qf [.sure,.sure,.plain] [0,5,6,7,49] h fun w9 h=> ?_
          exact⟨_,Sub.mk K_,(decide (v44≥v46)),rfl,h⟩
         ·refine Qf [.skip,.skip,.skip,.skip,.skip,.skip,.sure,.plain] [0,5,6,7,49] h fun w10 h=> ?_
          exact⟨_,Sub.mk K_,false,rfl,h⟩
       ·refine Qn [.skip,.skip,.sure,.plain,.plain,.sure,.sure,.sure,.plain,.plain,.plain] ?_
        refine Qspl 38 h (fun h=> ?_) fun h=> ?_
        ·obtain⟨hp_23,h⟩:=h
         refine Qu 39 (fun pp=> .slice pp l_.len l_.cap) hp_23 ?_
         refine Qi h fun h=> ?_
         refine Qn [.sure] ?_
         refine Ql h fun v441 h=> ?_
         refine Qn [.sure] ?_
         refine Ql h fun v461 h=> ?_
         refine Qf [.sure,.sure,.plain] [0,5,6,7,49] h fun w11 h=> ?_
         exact⟨_,Sub.mk K_,(decide (v441≥v461)),rfl,h⟩
        ·refine Qf [.skip,.skip,.skip,.skip,.skip,.skip,.sure,.plain] [0,5,6,7,49] h fun w12 h=> ?_
         exact⟨_,Sub.mk K_,false,rfl,h⟩
   ·rintro _ w4 ⟨t49,rfl,h⟩
    unfold F_c at h
    refine Yc h (fun h=> ?_) fun h=> ?_
    ·refine Yp P1 [2] ?_
     exact YS ⟨1,rfl,h⟩
    ·refine zg (Yr (Yf P2 [0,5,6,7] ?_))
     have hb_:=again__h _ _ h
     exact⟨_,hb_.2,_,Sub.mk K_,(IntKind.i64.wrap (t7+1)),rfl,hb_.1,rfl⟩
  ·refine zM 0 (Yp P1 [2] ?_)
   exact YS ⟨0,rfl,h⟩
end
end Go.Proofs.YtjlfdepkphibgaaGreatDoor
