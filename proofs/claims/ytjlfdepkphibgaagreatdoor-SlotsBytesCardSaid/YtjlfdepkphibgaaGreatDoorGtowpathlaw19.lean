/- WRITTEN BY PROGRAM (dec.py): for each Go function the clean formula F, the call's contract C, and the proof S that F gives C. -/
import Derived.Test.YtjlfdepkphibgaaGreatDoorRows
import Derived.Test.YtjlfdepkphibgaaGreatDoorGF
namespace Go.Proofs.YtjlfdepkphibgaaGreatDoor
open Go
set_option linter.unusedVariables false
set_option maxRecDepth 100000
set_option maxHeartbeats 4000000
noncomputable section

/-! ### (*towpath/towpathlaw19.pair).does (function 8) -/
def c8_0:=cb_ Tryz.f8
def c8_3:=cr_ c8_0
def c8_4:=cl_ c8_3
def c8_7:=cr_ c8_4
def c8_8:=cl_ c8_7
def zyt:=cr_ c8_8
def zFu:=cl_ zyt
def zzt:=cr_ zFu
def zGu:=cl_ zzt
def zHu:=co_ zGu
def zIu:=cr_ zzt
def zJu:=cl_ zIu
def zKu:=co_ zJu
def zLu:=cr_ zyt
def zAt:=cr_ zLu
def zMu:=cl_ zAt
def zNu:=cl_ zMu
def zOu:=co_ zNu
def zPu:=cr_ zAt
def zBt:=cr_ zPu
def zQu:=cl_ zBt
def zRu:=cl_ zQu
def zSu:=co_ zRu
def zTu:=cr_ zBt
def zCt:=cr_ zTu
def zUu:=cl_ zCt
def zVu:=cl_ zUu
def zWu:=co_ zVu
def zXu:=cr_ zCt
def zYu:=cr_ zXu
def zZu:=cl_ zYu
def z0u:=cl_ zZu
def z1u:=co_ z0u
def z2u:=cr_ c8_3
def z3u:=cl_ z2u
def z4u:=co_ z3u
def zpc:List Nat:=[0,1,2,3,4,5,6,7,8,9,10]
def zqc:List Nat:=[0,1,2,3,4,5,6,7,8,9,10,11]
def zrc:List Nat:=[0,1,2,3,4,5,6,7,8,9,11,12,13,14,15,16,17,18,19,20,10,21,22,23]
def zsc:List Nat:=[0,1,2,3,4,5,7,8,9,10,11,12,6,13,14,15]
def ztc:List Nat:=[0,1,2,3,4,5,7,8,9,10,11,12,6,13,14,15]
def zuc:List Nat:=[0,1,2,3,5,6,7,8,4,9,10,11]
def zvc:List Nat:=[0,1,2,3,5,6,7,8,4,9,10,11]

theorem S_j {p:OA} {o_:T_e} {w:World} {R:Bool→WP} (h:F_8b p o_ R w):C_e p o_ w R:=by
 unfold F_8b at h
 refine Yh Tryz.func8 ?_
 ·refine Yt ?_
  refine Yw pv_ h fun b_ w1 h=> ?_
  refine Yf P1 [0,3] (Ys (Yt (Yn P1 ?_)))
  refine Yl h fun v13 h=> ?_
  refine Yf [] [0,3,13] (Yd 0 (Yp P2 [0,3,13,14] ?_))
  refine Yc h (fun h=> ?_) fun h=> ?_
  ·refine Yt (Yn P1 ?_)
   refine YL h fun v17 h=> ?_
   refine Ym1 h fun v18 w2 h=> ?_
   refine Yw pv_ h fun b_1 w3 h=> ?_
   refine Yo h fun w4 h=> ?_
   refine Yf [] [0,3,5] (Ys ?_)
   refine zm (id:=4) (ops:=zHu) zpc K_ K_ K_ K_ (fun w5 hw=> ?_)
   replace h:=h w5 hw
   clear hw
   refine Mn P1 ?_
   refine Mv 20 h fun hp_17 h=> ?_
   refine Mn P1 ?_
   refine Mn P1 ?_
   refine Ml 3 h fun v23 hc h=> ?_
   refine ML 4 h fun v24 hc h=> ?_
   refine zo (op:=(Op.call (Call.mk (Callee.value (Operand.func 15)) #[(Operand.tmp 23),(Operand.tmp 24)] #[24,59]))) (ty:=75) (dst:=some 25) 5 [3,4,2,1,0] [] 15 #[Vp v23,Value.agg #[Vi v24.Mark,sv_ v24.Beyond,sv_ v24.Held]] K_ K_ K_ K_ K_ (fun ww=>by kernel_rfl) (Calls.mono h ?_)
   rintro _ w6 ⟨s,e,rfl,h⟩
   refine⟨_,rfl,trivial,?_⟩
   refine Mf (Pl 5) [0,3,5,6,7] ?_
   refine Ys ?_
   refine zm (id:=5) (ops:=zKu) zqc K_ K_ K_ K_ (fun w7 hw=> ?_)
   replace h:=h w7 hw
   clear hw
   refine Mn P1 ?_
   refine Mv 29 h fun hp_19 h=> ?_
   refine Mn P1 ?_
   refine Mn P1 ?_
   refine Ml 3 h fun v32 hc h=> ?_
   refine Mn P1 ?_
   refine ML 5 h fun v34 hc h=> ?_
   refine zo (op:=(Op.call (Call.mk (Callee.value (Operand.func 16)) #[(Operand.tmp 32),(Operand.tmp 34)] #[28,59]))) (ty:=77) (dst:=some 35) 6 [3,5,2,4,1,0] [] 16 #[Vp v32,Value.agg #[Vi v34.Mark,sv_ v34.Beyond,sv_ v34.Held]] K_ K_ K_ K_ K_ (fun ww=>by kernel_rfl) (Calls.mono h ?_)
   rintro _ w8 ⟨t_,f,rfl,h⟩
   refine⟨_,rfl,trivial,?_⟩
   refine Mf (Pl 5) [0,3,5,6,7,8,9] ?_
   refine Yt ?_
   refine YL h fun v38 h=> ?_
   refine Yn P1 ?_
   refine YL h fun v40 h=> ?_
   refine Ym1 h fun v41 w9 h=> ?_
   refine Yf P1 [0,5,6,7,8,9,10] (Yt (Yn P1 ?_))
   refine Yw pv_ h fun b_2 w10 h=> ?_
   refine Yo h fun w11 h=> ?_
   refine Yf [] [0,5,6,7,8,9,10,11] (Yt ?_)
   refine YL h fun v43 h=> ?_
   refine Ym0 h fun w12 h=> ?_
   refine Yf [] [0,6,7,8,9,10,11] (Yt (Yn P2 ?_))
   refine Yv 45 h fun hp_21 h=> ?_
   refine Yn P1 (Yn P1 ?_)
   refine Yo h fun w13 h=> ?_
   refine Yf [] [0,6,7,8,9,10,11] (Yt (Yn P2 ?_))
   refine Yv 49 h fun hp_23 h=> ?_
   refine Yn P1 (Yn P1 ?_)
   refine Yo h fun w14 h=> ?_
   refine Yf [] [6,7,8,9,10,11] (Yt (Yn (Pl 5) ?_))
   refine Yspl 56 h (fun h=> ?_) fun h=> ?_
   ·refine zN (op:=(Op.binOp BinOp.eql 32 (Operand.tmp 57) (Operand.const (Vp none)) 32)) (ty:=4) (dst:=some 58) (Vo s.isNone) K_ (fun ww=>zB (p:=s) K_ K_ K_ ww) ?_
    refine Yn [.sure] ?_
    refine zN (op:=(Op.binOp BinOp.eql 33 (Operand.tmp 59) (Operand.const (Vp none)) 33)) (ty:=4) (dst:=some 60) (Vo t_.isNone) K_ (fun ww=>zB (p:=t_) K_ K_ K_ ww) ?_
    refine Yn [.sure,.plain,.plain,.plain,.pick,.plain] ?_
    refine Yspl 66 h (fun h=> ?_) fun h=> ?_
    ·refine Ym1 h fun v67 w15 h=> ?_
     refine Yf P2 [4] ?_
     exact YS ⟨v67,rfl,h⟩
    ·refine Yf [.skip,.plain,.plain] [4] ?_
     exact YS ⟨false,rfl,h⟩
   ·refine Yf [.skip,.skip,.skip,.skip,.plain,.plain,.skip,.plain,.plain,.skip,.plain,.plain] [4] ?_
    exact YS ⟨false,rfl,h⟩
  ·refine Yp P2 [0,3,13,69] ?_
   refine Yc h (fun h=> ?_) fun h=> ?_
   ·refine Ys ?_
    refine zm (id:=13) (ops:=zOu) zrc K_ K_ K_ K_ (fun w16 hw=> ?_)
    replace h:=h w16 hw
    clear hw
    refine Mn P1 ?_
    refine Mv 71 h fun hp_24 h=> ?_
    refine Mn P1 ?_
    refine Mn P1 ?_
    refine Ml 3 h fun v74 hc h=> ?_
    refine Mn P1 ?_
    refine Ml 5 h fun v76 hc h=> ?_
    refine Mn P1 ?_
    refine Ml 7 h fun v78 hc h=> ?_
    refine Mn P1 ?_
    refine Ml 9 h fun v80 hc h=> ?_
    refine Mn P1 ?_
    refine Mv 82 h fun hp_25 h=> ?_
    refine Mn P1 ?_
    refine Mn P1 ?_
    refine Ml 14 h fun v85 hc h=> ?_
    refine Mn P1 ?_
    refine Ml 16 h fun v87 hc h=> ?_
    refine Mn P1 ?_
    refine Ml 18 h fun v89 hc h=> ?_
    refine Mn P1 ?_
    refine Ml 20 h fun v91 hc h=> ?_
    refine zo (op:=(Op.call (Call.mk (Callee.value (Operand.func 19)) #[(Operand.tmp 74),(Operand.tmp 76),(Operand.tmp 78),(Operand.tmp 80)] #[24,3,3,38]))) (ty:=25) (dst:=some 81) 10 [3,5,7,9,2,4,6,8,1,0] [(20,fun w'=>w'.cell? ⟨b_,6,none⟩=some (sv_ v91)),(18,fun w'=>w'.cell? ⟨b_,5,none⟩=some (Vi v89)),(16,fun w'=>w'.cell? ⟨b_,4,none⟩=some (Vi v87)),(14,fun w'=>w'.cell? ⟨(pblk p),(poff p)+2,none⟩=some (Vp v85))] 19 #[Vp v74,Vi v76,Vi v78,sv_ v80] K_ K_ K_ K_ K_ (fun ww=>by kernel_rfl) (Calls.mono h ?_)
    rintro _ w17 ⟨v81,rfl,h⟩
    obtain⟨hk0,hk1,hk2,hk3,h⟩:=h
    refine⟨_,rfl,⟨hk0,hk1,hk2,hk3,trivial⟩,?_⟩
    refine zo (op:=(Op.call (Call.mk (Callee.value (Operand.func 20)) #[(Operand.tmp 85),(Operand.tmp 87),(Operand.tmp 89),(Operand.tmp 91)] #[28,3,3,38]))) (ty:=25) (dst:=some 92) 21 [10,14,16,18,20,3,5,7,9,13,15,17,19,2,4,6,8,12,1,11,0] [] 20 #[Vp v85,Vi v87,Vi v89,sv_ v91] K_ K_ K_ K_ K_ (fun ww=>by kernel_rfl) (Calls.mono h ?_)
    rintro _ w18 ⟨v92,rfl,h⟩
    refine⟨_,rfl,trivial,?_⟩
    refine Mf P2 [4] ?_
    exact YS ⟨(v81==v92),rfl,h⟩
   ·refine Yp P2 [0,3,13,94] ?_
    refine Yc h (fun h=> ?_) fun h=> ?_
    ·refine Ys ?_
     refine zm (id:=15) (ops:=zSu) zsc K_ K_ K_ K_ (fun w19 hw=> ?_)
     replace h:=h w19 hw
     clear hw
     refine Mn P1 ?_
     refine Mv 96 h fun hp_26 h=> ?_
     refine Mn P1 ?_
     refine Mn P1 ?_
     refine Ml 3 h fun v99 hc h=> ?_
     refine Mn P1 ?_
     refine Ml 5 h fun v101 hc h=> ?_
     refine Mn P1 ?_
     refine Mv 103 h fun hp_27 h=> ?_
     refine Mn P1 ?_
     refine Mn P1 ?_
     refine Ml 10 h fun v106 hc h=> ?_
     refine Mn P1 ?_
     refine Ml 12 h fun v108 hc h=> ?_
     refine zo (op:=(Op.call (Call.mk (Callee.value (Operand.func 21)) #[(Operand.tmp 99),(Operand.tmp 101)] #[24,3]))) (ty:=25) (dst:=some 102) 6 [3,5,2,4,1,0] [(12,fun w'=>w'.cell? ⟨b_,4,none⟩=some (Vi v108)),(10,fun w'=>w'.cell? ⟨(pblk p),(poff p)+2,none⟩=some (Vp v106))] 21 #[Vp v99,Vi v101] K_ K_ K_ K_ K_ (fun ww=>by kernel_rfl) (Calls.mono h ?_)
     rintro _ w20 ⟨v102,rfl,h⟩
     obtain⟨hk0,hk1,h⟩:=h
     refine⟨_,rfl,⟨hk0,hk1,trivial⟩,?_⟩
     refine zo (op:=(Op.call (Call.mk (Callee.value (Operand.func 22)) #[(Operand.tmp 106),(Operand.tmp 108)] #[28,3]))) (ty:=25) (dst:=some 109) 13 [6,10,12,3,5,9,11,2,4,8,1,7,0] [] 22 #[Vp v106,Vi v108] K_ K_ K_ K_ K_ (fun ww=>by kernel_rfl) (Calls.mono h ?_)
     rintro _ w21 ⟨v109,rfl,h⟩
     refine⟨_,rfl,trivial,?_⟩
     refine Mf P2 [4] ?_
     exact YS ⟨(v102==v109),rfl,h⟩
    ·refine Yp P2 [0,3,13,111] ?_
     refine Yc h (fun h=> ?_) fun h=> ?_
     ·refine Ys ?_
      refine zm (id:=17) (ops:=zWu) ztc K_ K_ K_ K_ (fun w22 hw=> ?_)
      replace h:=h w22 hw
      clear hw
      refine Mn P1 ?_
      refine Mv 113 h fun hp_28 h=> ?_
      refine Mn P1 ?_
      refine Mn P1 ?_
      refine Ml 3 h fun v116 hc h=> ?_
      refine Mn P1 ?_
      refine Ml 5 h fun v118 hc h=> ?_
      refine Mn P1 ?_
      refine Mv 120 h fun hp_29 h=> ?_
      refine Mn P1 ?_
      refine Mn P1 ?_
      refine Ml 10 h fun v123 hc h=> ?_
      refine Mn P1 ?_
      refine Ml 12 h fun v125 hc h=> ?_
      refine zo (op:=(Op.call (Call.mk (Callee.value (Operand.func 23)) #[(Operand.tmp 116),(Operand.tmp 118)] #[24,3]))) (ty:=25) (dst:=some 119) 6 [3,5,2,4,1,0] [(12,fun w'=>w'.cell? ⟨b_,7,none⟩=some (Vi v125)),(10,fun w'=>w'.cell? ⟨(pblk p),(poff p)+2,none⟩=some (Vp v123))] 23 #[Vp v116,Vi v118] K_ K_ K_ K_ K_ (fun ww=>by kernel_rfl) (Calls.mono h ?_)
      rintro _ w23 ⟨v119,rfl,h⟩
      obtain⟨hk0,hk1,h⟩:=h
      refine⟨_,rfl,⟨hk0,hk1,trivial⟩,?_⟩
      refine zo (op:=(Op.call (Call.mk (Callee.value (Operand.func 24)) #[(Operand.tmp 123),(Operand.tmp 125)] #[28,3]))) (ty:=25) (dst:=some 126) 13 [6,10,12,3,5,9,11,2,4,8,1,7,0] [] 24 #[Vp v123,Vi v125] K_ K_ K_ K_ K_ (fun ww=>by kernel_rfl) (Calls.mono h ?_)
      rintro _ w24 ⟨v126,rfl,h⟩
      refine⟨_,rfl,trivial,?_⟩
      refine Mf P2 [4] ?_
      exact YS ⟨(v119==v126),rfl,h⟩
     ·refine Yp P2 [0,128] ?_
      refine Yc h (fun h=> ?_) fun h=> ?_
      ·refine Ys ?_
       refine zm (id:=19) (ops:=z1u) zuc K_ K_ K_ K_ (fun w25 hw=> ?_)
       replace h:=h w25 hw
       clear hw
       refine Mn P1 ?_
       refine Mv 130 h fun hp_30 h=> ?_
       refine Mn P1 ?_
       refine Mn P1 ?_
       refine Ml 3 h fun v133 hc h=> ?_
       refine Mn P1 ?_
       refine Mv 135 h fun hp_31 h=> ?_
       refine Mn P1 ?_
       refine Mn P1 ?_
       refine Ml 8 h fun v138 hc h=> ?_
       refine zo (op:=(Op.call (Call.mk (Callee.value (Operand.func 25)) #[(Operand.tmp 133)] #[24]))) (ty:=25) (dst:=some 134) 4 [3,2,1,0] [(8,fun w'=>w'.cell? ⟨(pblk p),(poff p)+2,none⟩=some (Vp v138))] 25 #[Vp v133] K_ K_ K_ K_ K_ (fun ww=>by kernel_rfl) (Calls.mono h ?_)
       rintro _ w26 ⟨v134,rfl,h⟩
       obtain⟨hk0,h⟩:=h
       refine⟨_,rfl,⟨hk0,trivial⟩,?_⟩
       refine zo (op:=(Op.call (Call.mk (Callee.value (Operand.func 26)) #[(Operand.tmp 138)] #[28]))) (ty:=25) (dst:=some 139) 9 [4,8,3,7,2,6,1,5,0] [] 26 #[Vp v138] K_ K_ K_ K_ K_ (fun ww=>by kernel_rfl) (Calls.mono h ?_)
       rintro _ w27 ⟨v139,rfl,h⟩
       refine⟨_,rfl,trivial,?_⟩
       refine Mf P2 [4] ?_
       exact YS ⟨(v134==v139),rfl,h⟩
      ·refine zg (Ys ?_)
       refine zm (id:=20) (ops:=z4u) zvc K_ K_ K_ K_ (fun w28 hw=> ?_)
       replace h:=h w28 hw
       clear hw
       refine Mn P1 ?_
       refine Mv 141 h fun hp_32 h=> ?_
       refine Mn P1 ?_
       refine Mn P1 ?_
       refine Ml 3 h fun v144 hc h=> ?_
       refine Mn P1 ?_
       refine Mv 146 h fun hp_33 h=> ?_
       refine Mn P1 ?_
       refine Mn P1 ?_
       refine Ml 8 h fun v149 hc h=> ?_
       refine zo (op:=(Op.call (Call.mk (Callee.value (Operand.func 11)) #[(Operand.tmp 144)] #[32]))) (ty:=25) (dst:=some 145) 4 [3,2,1,0] [(8,fun w'=>w'.cell? ⟨(pblk p),(poff p)+3,none⟩=some (Vp v149))] 11 #[Vp v144] K_ K_ K_ K_ K_ (fun ww=>by kernel_rfl) (Calls.mono h ?_)
       rintro _ w29 ⟨v145,rfl,h⟩
       obtain⟨hk0,h⟩:=h
       refine⟨_,rfl,⟨hk0,trivial⟩,?_⟩
       refine zo (op:=(Op.call (Call.mk (Callee.value (Operand.func 27)) #[(Operand.tmp 149)] #[33]))) (ty:=25) (dst:=some 150) 9 [4,8,3,7,2,6,1,5,0] [] 27 #[Vp v149] K_ K_ K_ K_ K_ (fun ww=>by kernel_rfl) (Calls.mono h ?_)
       rintro _ w30 ⟨v150,rfl,h⟩
       refine⟨_,rfl,trivial,?_⟩
       refine Mf P2 [4] ?_
       exact YS ⟨(v145==v150),rfl,h⟩

/-! ### (*towpath/towpathlaw19.pair).looks (function 9) -/
def c9_0:=cb_ Tryz.f9
def c9_3:=cr_ c9_0
def c9_6:=cr_ c9_3
def c9_9:=cr_ c9_6
def z5u:=cl_ c9_9
def z6u:=cl_ z5u
def z7u:=co_ z6u
def zfc:List Nat:=[0,1,2,3,4,5,6,7,8,9,10,11,12,13,14,15,16,17,18,19,20,21,22,23,24,25,26,27,28,30,31,32,33,29,34,35,36,37,38,39,40,41,43,44,45,46,42,47,48,49,50,51,52,53,54,56,57,58,59,55,60,61,62]

theorem S_nb {p:OA} {k_:OA} {w:World} {R:Bool→WP} (h:F_ad p k_ R w):C_G p k_ w R:=by
 unfold F_ad at h
 refine Yh Tryz.func9 ?_
 ·refine Yp P1 [0,1] (Yt (Yn P1 ?_))
  refine Yv 21 h fun hp_1 h=> ?_
  refine Yn P1 (Yn P1 ?_)
  refine Yl h fun v24 h=> ?_
  refine zjb (op:=(Op.call (Call.mk (Callee.value (Operand.func 28)) #[(Operand.tmp 24)] #[24]))) (ty:=81) (dst:=some 25) 28 #[Vp v24] K_ (fun ww=>by kernel_rfl) (Calls.mono h ?_)
  rintro _ w1 ⟨v25,generation,slot,ok,e,rfl,h⟩
  refine⟨_,rfl,?_⟩
  refine Yn (Pl 6) ?_
  refine Yw pv_ h fun b_ w2 h=> ?_
  refine Yo h fun w3 h=> ?_
  refine Yf P4 [0,1,5,6,7,8,9] (Yt (Yn P1 ?_))
  refine Yv 32 h fun hp_3 h=> ?_
  refine Yn P1 (Yn P1 ?_)
  refine Yl h fun v35 h=> ?_
  refine zjb (op:=(Op.call (Call.mk (Callee.value (Operand.func 29)) #[(Operand.tmp 35)] #[28]))) (ty:=81) (dst:=some 36) 29 #[Vp v35] K_ (fun ww=>by kernel_rfl) (Calls.mono h ?_)
  rintro _ w4 ⟨v36,n_,m_,is,f,rfl,h⟩
  refine⟨_,rfl,?_⟩
  refine Yn (Pl 6) ?_
  refine Yw pv_ h fun b_1 w5 h=> ?_
  refine Yo h fun w6 h=> ?_
  refine Yf P4 [0,1,5,6,7,8,9,10,11,12,13,14] (Ys ?_)
  refine Ycut (fun l w=>∃(t104:Bool),l=[(0,Vp p),(1,Vp k_),(5,pv_ b_),(104,Vo t104)]∧F_d p k_ R b_ t104 w) ?_ ?_
  ·refine zm (id:=3) (ops:=z7u) zfc K_ K_ K_ K_ (fun w14 hw=> ?_)
   replace h:=h w14 hw
   clear hw
   refine Mn [.plain,.plain,.plain,.plain,.plain,.plain,.plain,.pick,.plain,.plain,.plain,.plain,.pick,.plain,.plain,.plain,.plain,.pick,.plain] ?_
   refine Mspl 60 h (fun h=> ?_) fun h=> ?_
   ·refine Mf [.skip,.skip,.skip,.skip,.plain,.plain,.skip,.skip,.skip,.skip,.skip,.skip,.skip,.skip,.skip,.skip,.skip,.plain,.plain,.skip,.skip,.skip,.skip,.skip,.skip,.skip,.skip,.skip,.skip,.skip,.plain,.plain,.skip,.skip,.skip,.skip,.skip,.skip,.skip,.skip,.skip,.skip,.skip,.plain] [0,1,5,104] ?_
    exact⟨_,Sub.mk K_,true,rfl,h⟩
   ·refine ML 19 h fun v61 hc h=> ?_
    refine ML 20 h fun v62 hc h=> ?_
    refine zo (op:=(Op.call (Call.mk (Callee.value (Operand.func 30)) #[(Operand.tmp 61),(Operand.tmp 62)] #[59,59]))) (ty:=4) (dst:=some 63) 21 [18,19,20,13,17,8,12,16,3,7,11,14,15,2,6,9,10,0,1,4,5] [] 30 #[Value.agg #[Vi v61.Mark,sv_ v61.Beyond,sv_ v61.Held],Value.agg #[Vi v62.Mark,sv_ v62.Beyond,sv_ v62.Held]] K_ K_ K_ K_ K_ (fun ww=>by kernel_rfl) (Calls.mono h ?_)
    rintro _ w15 ⟨v63,rfl,h⟩
    refine⟨_,rfl,trivial,?_⟩
    refine Mn [.sure,.plain,.plain,.plain] ?_
    refine Mspl 66 h (fun h=> ?_) fun h=> ?_
    ·refine Mf [.skip,.skip,.skip,.skip,.skip,.skip,.skip,.skip,.skip,.skip,.plain,.plain,.skip,.skip,.skip,.skip,.skip,.skip,.skip,.skip,.skip,.skip,.skip,.plain,.plain,.skip,.skip,.skip,.skip,.skip,.skip,.skip,.skip,.skip,.skip,.skip,.plain] [0,1,5,104] ?_
     exact⟨_,Sub.mk K_,true,rfl,h⟩
    ·refine Mv 67 h fun hp_38 h=> ?_
     refine Mn [.sure] ?_
     refine Mn [.sure] ?_
     refine Ml 28 h fun v70 hc h=> ?_
     refine Mn [.sure] ?_
     refine Mv 72 h fun hp_39 h=> ?_
     refine Mn [.sure] ?_
     refine Mn [.sure] ?_
     refine Ml 33 h fun v75 hc h=> ?_
     refine zo (op:=(Op.call (Call.mk (Callee.value (Operand.func 12)) #[(Operand.tmp 70)] #[32]))) (ty:=3) (dst:=some 71) 29 [24,28,21,23,27,18,19,20,22,26,13,17,25,8,12,16,3,7,11,14,15,2,6,9,10,0,1,4,5] [(33,fun w'=>w'.cell? ⟨(pblk p),(poff p)+3,none⟩=some (Vp v75))] 12 #[Vp v70] K_ K_ K_ K_ K_ (fun ww=>by kernel_rfl) (Calls.mono h ?_)
     rintro _ w16 ⟨v71,rfl,h⟩
     obtain⟨hk0,h⟩:=h
     refine⟨_,rfl,⟨hk0,trivial⟩,?_⟩
     refine zo (op:=(Op.call (Call.mk (Callee.value (Operand.func 31)) #[(Operand.tmp 75)] #[33]))) (ty:=3) (dst:=some 76) 34 [24,29,33,21,23,28,32,18,19,20,22,27,31,13,17,26,30,8,12,16,25,3,7,11,14,15,2,6,9,10,0,1,4,5] [] 31 #[Vp v75] K_ K_ K_ K_ K_ (fun ww=>by kernel_rfl) (Calls.mono h ?_)
     rintro _ w17 ⟨v76,rfl,h⟩
     refine⟨_,rfl,trivial,?_⟩
     refine Mn [.sure,.plain,.plain,.plain] ?_
     refine Mspl 79 h (fun h=> ?_) fun h=> ?_
     ·refine Mf [.skip,.skip,.skip,.skip,.skip,.skip,.skip,.skip,.skip,.skip,.plain,.plain,.skip,.skip,.skip,.skip,.skip,.skip,.skip,.skip,.skip,.skip,.skip,.plain] [0,1,5,104] ?_
      exact⟨_,Sub.mk K_,true,rfl,h⟩
     ·refine Mv 80 h fun hp_40 h=> ?_
      refine Mn [.sure] ?_
      refine Mn [.sure] ?_
      refine Ml 41 h fun v83 hc h=> ?_
      refine Mn [.sure] ?_
      refine Mv 85 h fun hp_41 h=> ?_
      refine Mn [.sure] ?_
      refine Mn [.sure] ?_
      refine Ml 46 h fun v88 hc h=> ?_
      refine zo (op:=(Op.call (Call.mk (Callee.value (Operand.func 32)) #[(Operand.tmp 83)] #[24]))) (ty:=4) (dst:=some 84) 42 [37,41,34,36,40,24,29,33,35,39,21,23,28,32,38,18,19,20,22,27,31,13,17,26,30,8,12,16,25,3,7,11,14,15,2,6,9,10,0,1,4,5] [(46,fun w'=>w'.cell? ⟨(pblk p),(poff p)+2,none⟩=some (Vp v88))] 32 #[Vp v83] K_ K_ K_ K_ K_ (fun ww=>by kernel_rfl) (Calls.mono h ?_)
      rintro _ w18 ⟨v84,rfl,h⟩
      obtain⟨hk0,h⟩:=h
      refine⟨_,rfl,⟨hk0,trivial⟩,?_⟩
      refine zo (op:=(Op.call (Call.mk (Callee.value (Operand.func 33)) #[(Operand.tmp 88)] #[28]))) (ty:=4) (dst:=some 89) 47 [37,42,46,34,36,41,45,24,29,33,35,40,44,21,23,28,32,39,43,18,19,20,22,27,31,38,13,17,26,30,8,12,16,25,3,7,11,14,15,2,6,9,10,0,1,4,5] [] 33 #[Vp v88] K_ K_ K_ K_ K_ (fun ww=>by kernel_rfl) (Calls.mono h ?_)
      rintro _ w19 ⟨v89,rfl,h⟩
      refine⟨_,rfl,trivial,?_⟩
      refine Mn [.sure,.plain,.plain,.plain] ?_
      refine Mspl 92 h (fun h=> ?_) fun h=> ?_
      ·refine Mf [.skip,.skip,.skip,.skip,.skip,.skip,.skip,.skip,.skip,.skip,.plain] [0,1,5,104] ?_
       exact⟨_,Sub.mk K_,true,rfl,h⟩
      ·refine Mv 93 h fun hp_42 h=> ?_
       refine Mn [.sure] ?_
       refine Mn [.sure] ?_
       refine Ml 54 h fun v96 hc h=> ?_
       refine Mn [.sure] ?_
       refine Mv 98 h fun hp_43 h=> ?_
       refine Mn [.sure] ?_
       refine Mn [.sure] ?_
       refine Ml 59 h fun v101 hc h=> ?_
       refine zo (op:=(Op.call (Call.mk (Callee.value (Operand.func 34)) #[(Operand.tmp 96)] #[24]))) (ty:=3) (dst:=some 97) 55 [50,54,47,49,53,37,42,46,48,52,34,36,41,45,51,24,29,33,35,40,44,21,23,28,32,39,43,18,19,20,22,27,31,38,13,17,26,30,8,12,16,25,3,7,11,14,15,2,6,9,10,0,1,4,5] [(59,fun w'=>w'.cell? ⟨(pblk p),(poff p)+2,none⟩=some (Vp v101))] 34 #[Vp v96] K_ K_ K_ K_ K_ (fun ww=>by kernel_rfl) (Calls.mono h ?_)
       rintro _ w20 ⟨v97,rfl,h⟩
       obtain⟨hk0,h⟩:=h
       refine⟨_,rfl,⟨hk0,trivial⟩,?_⟩
       refine zo (op:=(Op.call (Call.mk (Callee.value (Operand.func 35)) #[(Operand.tmp 101)] #[28]))) (ty:=3) (dst:=some 102) 60 [50,55,59,47,49,54,58,37,42,46,48,53,57,34,36,41,45,52,56,24,29,33,35,40,44,51,21,23,28,32,39,43,18,19,20,22,27,31,38,13,17,26,30,8,12,16,25,3,7,11,14,15,2,6,9,10,0,1,4,5] [] 35 #[Vp v101] K_ K_ K_ K_ K_ (fun ww=>by kernel_rfl) (Calls.mono h ?_)
       rintro _ w21 ⟨v102,rfl,h⟩
       refine⟨_,rfl,trivial,?_⟩
       refine Mf [.sure,.plain] [0,1,5,104] ?_
       exact⟨_,Sub.mk K_,(v97 != v102),rfl,h⟩
  ·rintro _ w7 ⟨t104,rfl,h⟩
   unfold F_d at h
   refine Yc h (fun h=> ?_) fun h=> ?_
   ·refine Yp P1 [4] ?_
    exact YS ⟨false,rfl,h⟩
   ·refine zg (Yt (Yn P1 ?_))
    refine YL h fun v106 h=> ?_
    refine Ym0 h fun w8 h=> ?_
    refine Yf [] [0] (Ys (Yp P1 [0,15] (Yd 0 ?_)))
    obtain⟨I,μ,h0,hr⟩:=h
    refine zM (fun m l w=>∃(i:Int),l=[(0,Vp p),(15,Vi i)]∧I i w∧μ i w=m) ⟨0,rfl,h0,rfl⟩ ?_
    rintro _ _ w9 ⟨i,rfl,hI,rfl⟩
    obtain⟨again_,again__h,h⟩:∃ again_:Int→WP,(∀ i' w',again_ i' w'→I i' w'∧μ i' w'<μ i w9)∧F_Gb p R again_ i w9:=⟨_,fun _ _ h=>h,hr i w9 hI⟩
    clear h0 hI
    unfold F_Gb at h
    refine Ys (Yp P2 [0,15,109] ?_)
    refine Yc h (fun h=> ?_) fun h=> ?_
    ·refine zg (Ys (Yd 1 (Yt (Yn P1 ?_))))
     refine Yv 113 h fun hp_35 h=> ?_
     refine Yn P1 (Yn P1 ?_)
     refine Yl h fun v116 h=> ?_
     refine Yn P1 ?_
     refine Ym2 h fun a_ g w10 h=> ?_
     refine Yf (Pl 5) [0,15,16,17] (Yt (Yn P1 ?_))
     refine Yv 122 h fun hp_37 h=> ?_
     refine Yn P1 (Yn P1 ?_)
     refine Yl h fun v125 h=> ?_
     refine Yn P1 ?_
     refine Ym2 h fun b_2 h_ w11 h=> ?_
     refine Yf (Pl 5) [0,15,16,17,18,19] ?_
     refine Ycut (fun l w=>∃(t138:Bool),l=[(0,Vp p),(15,Vi i),(138,Vo t138)]∧F_G R i again_ t138 w) ?_ ?_
     ·refine Yr (Yn (Pl 6) ?_)
      refine Yspl 133 h (fun h=> ?_) fun h=> ?_
      ·refine Yf [.skip,.skip,.plain] [0,15,138] ?_
       exact⟨_,Sub.mk K_,true,rfl,h⟩
      ·refine Ym1 h fun v136 w13 h=> ?_
       refine Yf [.sure,.plain] [0,15,138] ?_
       exact⟨_,Sub.mk K_,(!v136),rfl,h⟩
     ·rintro _ w12 ⟨t138,rfl,h⟩
      unfold F_G at h
      refine Yc h (fun h=> ?_) fun h=> ?_
      ·refine Yp P1 [4] ?_
       exact YS ⟨false,rfl,h⟩
      ·refine zg (Yr (Yf P3 [0,15] ?_))
       have hb_:=again__h _ _ h
       exact⟨_,hb_.2,_,Sub.mk K_,(IntKind.i64.wrap (i+1)),rfl,hb_.1,rfl⟩
    ·refine zL 0 (Yp P1 [4] ?_)
     exact YS ⟨true,rfl,h⟩
end
end Go.Proofs.YtjlfdepkphibgaaGreatDoor
