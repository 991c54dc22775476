/- WRITTEN BY PROGRAM (dec.py): for each Go function the clean formula F, the call's contract C, and the proof S that F gives C. -/
import Derived.Test.YtjlfdepkphibgaaGreatDoorRows
import Derived.Test.YtjlfdepkphibgaaGreatDoorGF
namespace Go.Proofs.YtjlfdepkphibgaaGreatDoor
open Go
set_option linter.unusedVariables false
set_option maxRecDepth 100000
set_option maxHeartbeats 4000000
noncomputable section

/-! ### towpath/towpathref12.May (function 148) -/
def zpt:=cb_ Tryz.f148
def zqt:=cr_ zpt
def zMo:=cr_ zqt
def zNo:=cl_ zMo
def zOo:=cr_ zNo
def zPo:=cl_ zOo
def zQo:=cl_ zPo
def zRo:=cr_ zQo
def zSo:=cl_ zRo
def zTo:=cl_ zSo
def zUo:=cl_ zTo
def zVo:=co_ zUo

theorem S_rc {mark:Int} {beyond:Slc} {w:World} {R:Bool→WP} (h:F_ue mark beyond R w):C_qc mark beyond w R:=by
 unfold F_ue at h
 refine Yh Tryz.func148 ?_
 ·refine Yp P1 [0,1] (Ys (Yp [.plain,.plain,.plain,.plain,.plain,.pick] [0,1,11] ?_))
  refine Yc h (fun h=> ?_) fun h=> ?_
  ·refine Yp P1 [4] ?_
   exact YS ⟨false,rfl,h⟩
  ·refine zg (Ys (Yp P1 [0,1,5] (Yd 0 ?_)))
   obtain⟨I,μ,h0,hr⟩:=h
   refine zN (fun m l w=>∃(i:Int),l=[(0,Vi mark),(1,sv_ beyond),(5,Vi i)]∧I i w∧μ i w=m) ⟨0,rfl,h0,rfl⟩ ?_
   rintro _ _ w1 ⟨i,rfl,hI,rfl⟩
   obtain⟨again_,again__h,h⟩:∃ again_:Int→WP,(∀ i' w',again_ i' w'→I i' w'∧μ i' w'<μ i w1)∧F_9c mark beyond R again_ i w1:=⟨_,fun _ _ h=>h,hr i w1 hI⟩
   clear h0 hI
   unfold F_9c at h
   refine Ys (Yp P4 [0,1,5,15] ?_)
   refine Yc h (fun h=> ?_) fun h=> ?_
   ·refine zg (Ys (Yd 1 ?_))
    refine Ycut (fun l w=>∃(t47:Bool),l=[(0,Vi mark),(1,sv_ beyond),(5,Vi i),(47,Vo t47)]∧F_P R i again_ t47 w) ?_ ?_
    ·refine zO (id:=6) (ops:=zVo) K_ K_ K_ ?_
     refine Qn P2 ?_
     obtain⟨hp_28,h⟩:=h
     refine Qu 18 (fun pp=> .slice pp beyond.len beyond.cap) hp_28 ?_
     refine Qi1 h fun h=> ?_
     refine Ql h fun v21 h=> ?_
     refine Qn (Pl 6) ?_
     refine Qspl 25 h (fun h=> ?_) fun h=> ?_
     ·refine Qf [.skip,.skip,.skip,.plain,.plain,.skip,.skip,.skip,.skip,.skip,.skip,.skip,.skip,.skip,.skip,.skip,.skip,.skip,.skip,.plain] [0,1,5,47] h fun w3 h=> ?_
      exact⟨_,Sub.mk K_,true,rfl,h⟩
     ·obtain⟨hp_29,h⟩:=h
      refine Qu 26 (fun pp=> .slice pp beyond.len beyond.cap) hp_29 ?_
      refine Qi1 h fun h=> ?_
      refine Ql h fun v29 h=> ?_
      refine Qn [.sure,.plain,.plain,.plain,.plain,.plain,.plain,.plain,.plain] ?_
      refine Qspl 32 h (fun h=> ?_) fun h=> ?_
      ·refine Qf [.skip,.skip,.skip,.skip,.skip,.skip,.skip,.skip,.plain] [0,1,5,47] h fun w4 h=> ?_
       exact⟨_,Sub.mk K_,true,rfl,h⟩
      ·refine Qspl 35 h (fun h=> ?_) fun h=> ?_
       ·obtain⟨hp_30,h⟩:=h
        refine Qu 36 (fun pp=> .slice pp beyond.len beyond.cap) hp_30 ?_
        refine Qi1 h fun h=> ?_
        refine Ql h fun v40 h=> ?_
        refine Qn [.sure,.sure] ?_
        obtain⟨hp_31,h⟩:=h
        refine Qu 41 (fun pp=> .slice pp beyond.len beyond.cap) hp_31 ?_
        refine Qi1 h fun h=> ?_
        refine Ql h fun v44 h=> ?_
        refine Qf [.sure,.sure,.plain] [0,1,5,47] h fun w5 h=> ?_
        exact⟨_,Sub.mk K_,(decide (v40≥v44)),rfl,h⟩
       ·refine Qf [.skip,.skip,.skip,.skip,.skip,.skip,.skip,.sure,.plain] [0,1,5,47] h fun w6 h=> ?_
        exact⟨_,Sub.mk K_,false,rfl,h⟩
    ·rintro _ w2 ⟨t47,rfl,h⟩
     unfold F_P at h
     refine Yc h (fun h=> ?_) fun h=> ?_
     ·refine Yp P1 [4] ?_
      exact YS ⟨false,rfl,h⟩
     ·refine zg (Yr (Yf P3 [0,1,5] ?_))
      have hb_:=again__h _ _ h
      exact⟨_,hb_.2,_,Sub.mk K_,(IntKind.i64.wrap (i+1)),rfl,hb_.1,rfl⟩
   ·refine zM 0 (Yp P1 [4] ?_)
    exact YS ⟨true,rfl,h⟩
end
end Go.Proofs.YtjlfdepkphibgaaGreatDoor
