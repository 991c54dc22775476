/- WRITTEN BY PROGRAM (dec.py): for each Go function the clean formula F, the call's contract C, and the proof S that F gives C. -/
import Derived.Test.YtjlfdepkphibgaaGreatDoorRows
import Derived.Test.YtjlfdepkphibgaaGreatDoorGF
namespace Go.Proofs.YtjlfdepkphibgaaGreatDoor
open Go
set_option linter.unusedVariables false
set_option maxRecDepth 100000
set_option maxHeartbeats 4000000
noncomputable section

/-! ### (*towpath/towpathlaw19.pair).looks (function 9) -/
def c9_0:=cb_ Tryz.f9
def c9_3:=cr_ c9_0
def c9_6:=cr_ c9_3
def c9_9:=cr_ c9_6
def zzv:=cl_ c9_9
def zAv:=cl_ zzv
def zBv:=co_ zAv
def zhc:List Nat:=[0,1,2,3,4,5,6,7,8,9,10,11,12,13,14,15,16,17,18,19,20,21,22,23,24,25,26,27,28,30,31,32,33,29,34,35,36,37,38,39,40,41,43,44,45,46,42,47,48,49,50,51,52,53,54,56,57,58,59,55,60,61,62]

theorem S_ob {p:OA} {k_:OA} {w:World} {R:Bool→WP} (h:F_gd p k_ R w):C_H p k_ w R:=by
 unfold F_gd at h
 refine Yh Tryz.func9 ?_
 ·refine Yp P1 [0,1] (Yt (Yn P1 ?_))
  refine Yv 21 h fun hp_1 h=> ?_
  refine Yn P1 (Yn P1 ?_)
  refine Yl h fun v24 h=> ?_
  refine zkb (op:=(Op.call (Call.mk (Callee.value (Operand.func 28)) #[(Operand.tmp 24)] #[24]))) (ty:=81) (dst:=some 25) 28 #[Vp v24] K_ (fun ww=>by kernel_rfl) (Calls.mono h ?_)
  rintro _ w1 ⟨v25,generation,slot,ok,e,rfl,h⟩
  refine⟨_,rfl,?_⟩
  refine Yn (Pl 6) ?_
  refine Yw pv_ h fun b_ w2 h=> ?_
  refine Yo h fun w3 h=> ?_
  refine Yf P4 [0,1,5,6,7,8,9] (Yt (Yn P1 ?_))
  refine Yv 32 h fun hp_3 h=> ?_
  refine Yn P1 (Yn P1 ?_)
  refine Yl h fun v35 h=> ?_
  refine zkb (op:=(Op.call (Call.mk (Callee.value (Operand.func 29)) #[(Operand.tmp 35)] #[28]))) (ty:=81) (dst:=some 36) 29 #[Vp v35] K_ (fun ww=>by kernel_rfl) (Calls.mono h ?_)
  rintro _ w4 ⟨v36,n_,m_,is,f,rfl,h⟩
  refine⟨_,rfl,?_⟩
  refine Yn (Pl 6) ?_
  refine Yw pv_ h fun b_1 w5 h=> ?_
  refine Yo h fun w6 h=> ?_
  refine Yf P4 [0,1,5,6,7,8,9,10,11,12,13,14] (Ys ?_)
  refine Ycut (fun l w=>∃(t104:Bool),l=[(0,Vp p),(1,Vp k_),(5,pv_ b_),(104,Vo t104)]∧F_d p k_ R b_ t104 w) ?_ ?_
  ·refine zm (id:=3) (ops:=zBv) zhc K_ K_ K_ K_ (fun w14 hw=> ?_)
   replace h:=h w14 hw
   clear hw
   refine Mn [.plain,.plain,.plain,.plain,.plain,.plain,.plain,.pick,.plain,.plain,.plain,.plain,.pick,.plain,.plain,.plain,.plain,.pick,.plain] ?_
   refine Mspl 60 h (fun h=> ?_) fun h=> ?_
   ·refine Mf [.skip,.skip,.skip,.skip,.plain,.plain,.skip,.skip,.skip,.skip,.skip,.skip,.skip,.skip,.skip,.skip,.skip,.plain,.plain,.skip,.skip,.skip,.skip,.skip,.skip,.skip,.skip,.skip,.skip,.skip,.plain,.plain,.skip,.skip,.skip,.skip,.skip,.skip,.skip,.skip,.skip,.skip,.skip,.plain] [0,1,5,104] ?_
    exact⟨_,Sub.mk K_,true,rfl,h⟩
   ·refine ML 19 h fun v61 hc h=> ?_
    refine ML 20 h fun v62 hc h=> ?_
    refine zo (op:=(Op.call (Call.mk (Callee.value (Operand.func 30)) #[(Operand.tmp 61),(Operand.tmp 62)] #[59,59]))) (ty:=4) (dst:=some 63) 21 [18,19,20,13,17,8,12,16,3,7,11,14,15,2,6,9,10,0,1,4,5] [] 30 #[Value.agg #[Vi v61.Mark,sv_ v61.Beyond,sv_ v61.Held],Value.agg #[Vi v62.Mark,sv_ v62.Beyond,sv_ v62.Held]] K_ K_ K_ K_ K_ (fun ww=>by kernel_rfl) (Calls.mono h ?_)
    rintro _ w15 ⟨v63,rfl,h⟩
    refine⟨_,rfl,trivial,?_⟩
    refine Mn [.sure,.plain,.plain,.plain] ?_
    refine Mspl 66 h (fun h=> ?_) fun h=> ?_
    ·refine Mf [.skip,.skip,.skip,.skip,.skip,.skip,.skip,.skip,.skip,.skip,.plain,.plain,.skip,.skip,.skip,.skip,.skip,.skip,.skip,.skip,.skip,.skip,.skip,.plain,.plain,.skip,.skip,.skip,.skip,.skip,.skip,.skip,.skip,.skip,.skip,.skip,.plain] [0,1,5,104] ?_
     exact⟨_,Sub.mk K_,true,rfl,h⟩
    ·refine Mv 67 h fun hp_38 h=> ?_
     refine Mn [.sure] ?_
     refine Mn [.sure] ?_
     refine Ml 28 h fun v70 hc h=> ?_
     refine Mn [.sure] ?_
     refine Mv 72 h fun hp_39 h=> ?_
     refine Mn [.sure] ?_
     refine Mn [.sure] ?_
     refine Ml 33 h fun v75 hc h=> ?_
     refine zo (op:=(Op.call (Call.mk (Callee.value (Operand.func 12)) #[(Operand.tmp 70)] #[32]))) (ty:=3) (dst:=some 71) 29 [24,28,21,23,27,18,19,20,22,26,13,17,25,8,12,16,3,7,11,14,15,2,6,9,10,0,1,4,5] [(33,fun w'=>w'.cell? ⟨(pblk p),(poff p)+3,none⟩=some (Vp v75))] 12 #[Vp v70] K_ K_ K_ K_ K_ (fun ww=>by kernel_rfl) (Calls.mono h ?_)
     rintro _ w16 ⟨v71,rfl,h⟩
     obtain⟨hk0,h⟩:=h
     refine⟨_,rfl,⟨hk0,trivial⟩,?_⟩
     refine zo (op:=(Op.call (Call.mk (Callee.value (Operand.func 31)) #[(Operand.tmp 75)] #[33]))) (ty:=3) (dst:=some 76) 34 [24,29,33,21,23,28,32,18,19,20,22,27,31,13,17,26,30,8,12,16,25,3,7,11,14,15,2,6,9,10,0,1,4,5] [] 31 #[Vp v75] K_ K_ K_ K_ K_ (fun ww=>by kernel_rfl) (Calls.mono h ?_)
     rintro _ w17 ⟨v76,rfl,h⟩
     refine⟨_,rfl,trivial,?_⟩
     refine Mn [.sure,.plain,.plain,.plain] ?_
     refine Mspl 79 h (fun h=> ?_) fun h=> ?_
     ·refine Mf [.skip,.skip,.skip,.skip,.skip,.skip,.skip,.skip,.skip,.skip,.plain,.plain,.skip,.skip,.skip,.skip,.skip,.skip,.skip,.skip,.skip,.skip,.skip,.plain] [0,1,5,104] ?_
      exact⟨_,Sub.mk K_,true,rfl,h⟩
     ·refine Mv 80 h fun hp_40 h=> ?_
      refine Mn [.sure] ?_
      refine Mn [.sure] ?_
      refine Ml 41 h fun v83 hc h=> ?_
      refine Mn [.sure] ?_
      refine Mv 85 h fun hp_41 h=> ?_
      refine Mn [.sure] ?_
      refine Mn [.sure] ?_
      refine Ml 46 h fun v88 hc h=> ?_
      refine zo (op:=(Op.call (Call.mk (Callee.value (Operand.func 32)) #[(Operand.tmp 83)] #[24]))) (ty:=4) (dst:=some 84) 42 [37,41,34,36,40,24,29,33,35,39,21,23,28,32,38,18,19,20,22,27,31,13,17,26,30,8,12,16,25,3,7,11,14,15,2,6,9,10,0,1,4,5] [(46,fun w'=>w'.cell? ⟨(pblk p),(poff p)+2,none⟩=some (Vp v88))] 32 #[Vp v83] K_ K_ K_ K_ K_ (fun ww=>by kernel_rfl) (Calls.mono h ?_)
      rintro _ w18 ⟨v84,rfl,h⟩
      obtain⟨hk0,h⟩:=h
      refine⟨_,rfl,⟨hk0,trivial⟩,?_⟩
      refine zo (op:=(Op.call (Call.mk (Callee.value (Operand.func 33)) #[(Operand.tmp 88)] #[28]))) (ty:=4) (dst:=some 89) 47 [37,42,46,34,36,41,45,24,29,33,35,40,44,21,23,28,32,39,43,18,19,20,22,27,31,38,13,17,26,30,8,12,16,25,3,7,11,14,15,2,6,9,10,0,1,4,5] [] 33 #[Vp v88] K_ K_ K_ K_ K_ (fun ww=>by kernel_rfl) (Calls.mono h ?_)
      rintro _ w19 ⟨v89,rfl,h⟩
      refine⟨_,rfl,trivial,?_⟩
      refine Mn [.sure,.plain,.plain,.plain] ?_
      refine Mspl 92 h (fun h=> ?_) fun h=> ?_
      ·refine Mf [.skip,.skip,.skip,.skip,.skip,.skip,.skip,.skip,.skip,.skip,.plain] [0,1,5,104] ?_
       exact⟨_,Sub.mk K_,true,rfl,h⟩
      ·refine Mv 93 h fun hp_42 h=> ?_
       refine Mn [.sure] ?_
       refine Mn [.sure] ?_
       refine Ml 54 h fun v96 hc h=> ?_
       refine Mn [.sure] ?_
       refine Mv 98 h fun hp_43 h=> ?_
       refine Mn [.sure] ?_
       refine Mn [.sure] ?_
       refine Ml 59 h fun v101 hc h=> ?_
       refine zo (op:=(Op.call (Call.mk (Callee.value (Operand.func 34)) #[(Operand.tmp 96)] #[24]))) (ty:=3) (dst:=some 97) 55 [50,54,47,49,53,37,42,46,48,52,34,36,41,45,51,24,29,33,35,40,44,21,23,28,32,39,43,18,19,20,22,27,31,38,13,17,26,30,8,12,16,25,3,7,11,14,15,2,6,9,10,0,1,4,5] [(59,fun w'=>w'.cell? ⟨(pblk p),(poff p)+2,none⟩=some (Vp v101))] 34 #[Vp v96] K_ K_ K_ K_ K_ (fun ww=>by kernel_rfl) (Calls.mono h ?_)
       rintro _ w20 ⟨v97,rfl,h⟩
       obtain⟨hk0,h⟩:=h
       refine⟨_,rfl,⟨hk0,trivial⟩,?_⟩
       refine zo (op:=(Op.call (Call.mk (Callee.value (Operand.func 35)) #[(Operand.tmp 101)] #[28]))) (ty:=3) (dst:=some 102) 60 [50,55,59,47,49,54,58,37,42,46,48,53,57,34,36,41,45,52,56,24,29,33,35,40,44,51,21,23,28,32,39,43,18,19,20,22,27,31,38,13,17,26,30,8,12,16,25,3,7,11,14,15,2,6,9,10,0,1,4,5] [] 35 #[Vp v101] K_ K_ K_ K_ K_ (fun ww=>by kernel_rfl) (Calls.mono h ?_)
       rintro _ w21 ⟨v102,rfl,h⟩
       refine⟨_,rfl,trivial,?_⟩
       refine Mf [.sure,.plain] [0,1,5,104] ?_
       exact⟨_,Sub.mk K_,(v97 != v102),rfl,h⟩
  ·rintro _ w7 ⟨t104,rfl,h⟩
   unfold F_d at h
   refine Yc h (fun h=> ?_) fun h=> ?_
   ·refine Yp P1 [4] ?_
    exact YS ⟨false,rfl,h⟩
   ·refine zg (Yt (Yn P1 ?_))
    refine YL h fun v106 h=> ?_
    refine Ym0 h fun w8 h=> ?_
    refine Yf [] [0] (Ys (Yp P1 [0,15] (Yd 0 ?_)))
    obtain⟨I,μ,h0,hr⟩:=h
    refine zN (fun m l w=>∃(i:Int),l=[(0,Vp p),(15,Vi i)]∧I i w∧μ i w=m) ⟨0,rfl,h0,rfl⟩ ?_
    rintro _ _ w9 ⟨i,rfl,hI,rfl⟩
    obtain⟨again_,again__h,h⟩:∃ again_:Int→WP,(∀ i' w',again_ i' w'→I i' w'∧μ i' w'<μ i w9)∧F_Ib p R again_ i w9:=⟨_,fun _ _ h=>h,hr i w9 hI⟩
    clear h0 hI
    unfold F_Ib at h
    refine Ys (Yp P2 [0,15,109] ?_)
    refine Yc h (fun h=> ?_) fun h=> ?_
    ·refine zg (Ys (Yd 1 (Yt (Yn P1 ?_))))
     refine Yv 113 h fun hp_35 h=> ?_
     refine Yn P1 (Yn P1 ?_)
     refine Yl h fun v116 h=> ?_
     refine Yn P1 ?_
     refine Ym2 h fun a_ g w10 h=> ?_
     refine Yf (Pl 5) [0,15,16,17] (Yt (Yn P1 ?_))
     refine Yv 122 h fun hp_37 h=> ?_
     refine Yn P1 (Yn P1 ?_)
     refine Yl h fun v125 h=> ?_
     refine Yn P1 ?_
     refine Ym2 h fun b_2 h_ w11 h=> ?_
     refine Yf (Pl 5) [0,15,16,17,18,19] ?_
     refine Ycut (fun l w=>∃(t138:Bool),l=[(0,Vp p),(15,Vi i),(138,Vo t138)]∧F_I R i again_ t138 w) ?_ ?_
     ·refine Yr (Yn (Pl 6) ?_)
      refine Yspl 133 h (fun h=> ?_) fun h=> ?_
      ·refine Yf [.skip,.skip,.plain] [0,15,138] ?_
       exact⟨_,Sub.mk K_,true,rfl,h⟩
      ·refine Ym1 h fun v136 w13 h=> ?_
       refine Yf [.sure,.plain] [0,15,138] ?_
       exact⟨_,Sub.mk K_,(!v136),rfl,h⟩
     ·rintro _ w12 ⟨t138,rfl,h⟩
      unfold F_I at h
      refine Yc h (fun h=> ?_) fun h=> ?_
      ·refine Yp P1 [4] ?_
       exact YS ⟨false,rfl,h⟩
      ·refine zg (Yr (Yf P3 [0,15] ?_))
       have hb_:=again__h _ _ h
       exact⟨_,hb_.2,_,Sub.mk K_,(IntKind.i64.wrap (i+1)),rfl,hb_.1,rfl⟩
    ·refine zM 0 (Yp P1 [4] ?_)
     exact YS ⟨true,rfl,h⟩
end
end Go.Proofs.YtjlfdepkphibgaaGreatDoor
