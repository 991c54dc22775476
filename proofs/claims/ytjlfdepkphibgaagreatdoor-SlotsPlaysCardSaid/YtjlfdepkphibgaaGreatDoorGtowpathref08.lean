/- WRITTEN BY PROGRAM (dec.py): for each Go function the clean formula F, the call's contract C, and the proof S that F gives C. -/
import Derived.Test.YtjlfdepkphibgaaGreatDoorRows
import Derived.Test.YtjlfdepkphibgaaGreatDoorGF
namespace Go.Proofs.YtjlfdepkphibgaaGreatDoor
open Go
set_option linter.unusedVariables false
set_option maxRecDepth 100000
set_option maxHeartbeats 4000000
noncomputable section

/-! ### towpath/towpathref08.Check (function 180) -/
def zjt:=cb_ Tryz.f180
def zkt:=cr_ zjt
def zlt:=cl_ zkt
def zmt:=cr_ zlt
def znt:=cl_ zmt
def zot:=cl_ znt
def zHo:=cr_ zot
def zIo:=cl_ zHo
def zJo:=cl_ zIo
def zKo:=cl_ zJo
def zLo:=co_ zKo
def z9c:List Nat:=[0,1,2,3,4,5,6,7,8,9,10,11,12,13,14,15,16,17,18,19,20,21,22,23]

theorem S_7b {l_:Slc} {w:World} {R:Int→WP} (h:F_be l_ R w):C_T l_ w R:=by
 unfold F_be at h
 refine Yh Tryz.func180 ?_
 ·refine Yp P1 [0] (Ys (Yp P1 [0,3] (Yd 0 ?_)))
  obtain⟨I,μ,h0,hr⟩:=h
  refine zN (fun m l w=>∃(i:Int),l=[(0,sv_ l_),(3,Vi i)]∧I i w∧μ i w=m) ⟨0,rfl,h0,rfl⟩ ?_
  rintro _ _ w1 ⟨i,rfl,hI,rfl⟩
  obtain⟨again_,again__h,h⟩:∃ again_:Int→WP,(∀ i' w',again_ i' w'→I i' w'∧μ i' w'<μ i w1)∧F_Bc l_ R again_ i w1:=⟨_,fun _ _ h=>h,hr i w1 hI⟩
  clear h0 hI
  unfold F_Bc at h
  refine Ys (Yp P4 [0,3,7] ?_)
  refine Yc h (fun h=> ?_) fun h=> ?_
  ·refine zg (Ys (Yd 1 ?_))
   refine Ycut (fun l w=>∃(t33:Bool),l=[(0,sv_ l_),(3,Vi i),(33,Vo t33)]∧F_V R i again_ t33 w) ?_ ?_
   ·refine zm (id:=4) (ops:=zLo) z9c K_ K_ K_ K_ (fun w3 hw=> ?_)
    replace h:=h w3 hw
    clear hw
    refine Mn P2 ?_
    obtain⟨hp_21,h⟩:=h
    refine Mu 10 (fun pp=> .slice pp l_.len l_.cap) hp_21 ?_
    refine Mi 2 h fun h=> ?_
    refine ML 3 h fun v13 hc h=> ?_
    refine zo (op:=(Op.call (Call.mk (Callee.value (Operand.func 190)) #[(Operand.tmp 13)] #[130]))) (ty:=4) (dst:=some 14) 4 [3,2,0,1] [] 190 #[Value.agg #[Vi v13.Number,Value.string v13.Val,Vo v13.Drop]] K_ K_ K_ K_ K_ (fun ww=>by kernel_rfl) (Calls.mono h ?_)
    rintro _ w4 ⟨v14,rfl,h⟩
    refine⟨_,rfl,trivial,?_⟩
    refine Mn (Pl 8) ?_
    refine Mspl 16 h (fun h=> ?_) fun h=> ?_
    ·refine Mf [.skip,.skip,.skip,.skip,.skip,.skip,.skip,.skip,.skip,.skip,.plain] [0,3,33] ?_
     exact⟨_,Sub.mk K_,true,rfl,h⟩
    ·refine Mspl 19 h (fun h=> ?_) fun h=> ?_
     ·obtain⟨hp_22,h⟩:=h
      refine Mu 20 (fun pp=> .slice pp l_.len l_.cap) hp_22 ?_
      refine Mi 13 h fun h=> ?_
      refine Mn [.sure] ?_
      refine Ml 15 h fun v25 hc h=> ?_
      refine Mn [.sure,.sure] ?_
      obtain⟨hp_23,h⟩:=h
      refine Mu 26 (fun pp=> .slice pp l_.len l_.cap) hp_23 ?_
      refine Mi 18 h fun h=> ?_
      refine Mn [.sure] ?_
      refine Ml 20 h fun v30 hc h=> ?_
      refine Mf [.sure,.sure,.plain] [0,3,33] ?_
      exact⟨_,Sub.mk K_,(decide (v25≥v30)),rfl,h⟩
     ·refine Mf [.skip,.skip,.skip,.skip,.skip,.skip,.skip,.skip,.skip,.sure,.plain] [0,3,33] ?_
      exact⟨_,Sub.mk K_,false,rfl,h⟩
   ·rintro _ w2 ⟨t33,rfl,h⟩
    unfold F_V at h
    refine Yc h (fun h=> ?_) fun h=> ?_
    ·refine Yp P1 [2] ?_
     exact YS ⟨1,rfl,h⟩
    ·refine zg (Yr (Yf P3 [0,3] ?_))
     have hb_:=again__h _ _ h
     exact⟨_,hb_.2,_,Sub.mk K_,(IntKind.i64.wrap (i+1)),rfl,hb_.1,rfl⟩
  ·refine zM 0 (Yp P1 [2] ?_)
   exact YS ⟨0,rfl,h⟩

/-! ### towpath/towpathref08.May (function 190) -/

theorem S_pc {v:T_c} {w:World} {R:Bool→WP} (h:F_xe v R w):C_vc v w R:=by
 unfold F_xe at h
 refine Yh Tryz.func190 ?_
 ·refine Yt ?_
  refine Yw pv_ h fun b_ w1 h=> ?_
  refine Yf P1 [1] (Yt (Yn P1 ?_))
  refine Yl h fun v4 h=> ?_
  refine Yn P3 ?_
  refine Yspl 6 h (fun h=> ?_) fun h=> ?_
  ·refine Yl h fun v8 h=> ?_
   refine Yn [.sure,.plain,.plain,.plain] ?_
   refine Yspl 11 h (fun h=> ?_) fun h=> ?_
   ·refine Yl h fun v13 h=> ?_
    refine Yn [.sure,.sure,.plain,.plain,.plain] ?_
    refine Yspl 17 h (fun h=> ?_) fun h=> ?_
    ·refine Yl h fun v19 h=> ?_
     refine Yn [.sure,.sure,.plain] ?_
     refine Yspl 21 h (fun h=> ?_) fun h=> ?_
     ·refine Yf [.skip,.skip,.skip,.sure,.plain,.plain] [2] ?_
      exact YS ⟨true,rfl,h⟩
     ·refine Yl h fun v23 h=> ?_
      refine Yf [.sure,.sure,.sure,.plain,.plain] [2] ?_
      exact YS ⟨(((v23.size:Nat):Int)==0),rfl,h⟩
    ·refine Yf [.skip,.skip,.skip,.skip,.skip,.skip,.skip,.skip,.plain,.plain] [2] ?_
     exact YS ⟨false,rfl,h⟩
   ·refine Yf [.skip,.skip,.skip,.plain,.plain,.skip,.skip,.skip,.skip,.skip,.skip,.skip,.skip,.skip,.plain,.plain] [2] ?_
    exact YS ⟨false,rfl,h⟩
  ·refine Yf [.skip,.skip,.plain,.plain,.skip,.skip,.skip,.skip,.plain,.plain,.skip,.skip,.skip,.skip,.skip,.skip,.skip,.skip,.skip,.plain,.plain] [2] ?_
   exact YS ⟨false,rfl,h⟩
end
end Go.Proofs.YtjlfdepkphibgaaGreatDoor
