/- WRITTEN BY PROGRAM (dec.py): for each Go function the clean formula F, the call's contract C, and the proof S that F gives C. -/
import Derived.Test.YtjlfdepkphibgaaGreatDoorRows
import Derived.Test.YtjlfdepkphibgaaGreatDoorGF
namespace Go.Proofs.YtjlfdepkphibgaaGreatDoor
open Go
set_option linter.unusedVariables false
set_option maxRecDepth 100000
set_option maxHeartbeats 4000000
noncomputable section

/-! ### towpath/towpathlaw19.beyond (function 5) -/
def c5_0:=cb_ Tryz.f5
def c5_3:=cr_ c5_0
def c5_6:=cr_ c5_3
def c5_7:=cl_ c5_6
def z1u:=cr_ c5_7
def z2u:=cl_ z1u
def z3u:=cl_ z2u
def z4u:=cr_ z3u
def z5u:=cl_ z4u
def z6u:=cl_ z5u
def z7u:=cl_ z6u
def z8u:=co_ z7u
def zYc:List Nat:=[0,1,2,3,4,5,6,7,8,9,10,11,12,13,14,15,16]

theorem S_Xb {l_:Slc} {w:World} {R:Bool→WP} (h:F_Ge l_ R w):C_ac l_ w R:=by
 unfold F_Ge at h
 refine Yh Tryz.func5 ?_
 ·refine Yp P1 [0] (Yp P1 [0,3] (Ys (Yp P1 [0,3,4] (Yd 0 ?_))))
  obtain⟨I,μ,h0,hr⟩:=h
  refine zN (fun m l w=>∃(n_:Int) (i:Int),l=[(0,sv_ l_),(3,Vi n_),(4,Vi i)]∧I n_ i w∧μ n_ i w=m) ⟨0,0,rfl,h0,rfl⟩ ?_
  rintro _ _ w1 ⟨n_,i,rfl,hI,rfl⟩
  obtain⟨again_,again__h,h⟩:∃ again_:Int→Int→WP,(∀ n_' i' w',again_ n_' i' w'→I n_' i' w'∧μ n_' i' w'<μ n_ i w1)∧F_bc l_ R again_ n_ i w1:=⟨_,fun _ _ _ h=>h,hr n_ i w1 hI⟩
  clear h0 hI
  unfold F_bc at h
  refine Ys (Yp P4 [0,3,4,8] ?_)
  refine Yc h (fun h=> ?_) fun h=> ?_
  ·refine zg (Ys (Yd 1 (Ys ?_)))
   refine zm (id:=5) (ops:=z8u) zYc K_ K_ K_ K_ (fun w2 hw=> ?_)
   replace h:=h w2 hw
   clear hw
   refine Mn P4 ?_
   obtain⟨hp_14,h⟩:=h
   refine Mu 13 (fun pp=> .slice pp l_.len l_.cap) hp_14 ?_
   refine Mi 4 h fun h=> ?_
   refine Mn P1 ?_
   refine Ml 6 h fun v17 hc h=> ?_
   refine Mn P4 ?_
   obtain⟨hp_15,h⟩:=h
   refine Mu 20 (fun pp=> .slice pp l_.len l_.cap) hp_15 ?_
   refine Mi 11 h fun h=> ?_
   refine Mn P1 ?_
   refine ML 13 h fun v24 hc h=> ?_
   refine zo (op:=(Op.call (Call.mk (Callee.value (Operand.func 13)) #[(Operand.tmp 24)] #[59]))) (ty:=3) (dst:=some 25) 14 [13,12,11,9,10] [(6,fun w'=>w'.cell? ⟨(pblk l_.ptr),((poff l_.ptr)+i.toNat*8)+6,none⟩=some (sv_ v17))] 13 #[Value.agg #[Vi v24.Mark,sv_ v24.Beyond,sv_ v24.Held]] K_ K_ K_ K_ K_ (fun ww=>by kernel_rfl) (Calls.mono h ?_)
   rintro _ w3 ⟨v25,rfl,h⟩
   obtain⟨hk0,h⟩:=h
   refine⟨_,rfl,⟨hk0,trivial⟩,?_⟩
   refine Mf P2 [0,3,4] ?_
   refine Yp P2 [0,3,4,28] ?_
   refine Yc h (fun h=> ?_) fun h=> ?_
   ·refine Yp P1 [2] ?_
    exact YS ⟨true,rfl,h⟩
   ·refine zg (Yr (Yf P3 [0,3,4] ?_))
    have hb_:=again__h _ _ _ h
    exact⟨_,hb_.2,_,Sub.mk K_,(IntKind.i64.wrap ((IntKind.i64.wrap ((IntKind.i64.wrap (n_+1))+((v17.len:Nat):Int)))+v25)),(IntKind.i64.wrap (i+1)),rfl,hb_.1,rfl⟩
  ·refine zM 0 (Yp P1 [2] ?_)
   exact YS ⟨false,rfl,h⟩

/-! ### (*towpath/towpathlaw19.pair).does (function 8) -/
def c8_0:=cb_ Tryz.f8
def c8_3:=cr_ c8_0
def c8_4:=cl_ c8_3
def c8_7:=cr_ c8_4
def c8_8:=cl_ c8_7
def zLt:=cr_ c8_8
def z9u:=cl_ zLt
def zMt:=cr_ z9u
def zav:=cl_ zMt
def zbv:=co_ zav
def zcv:=cr_ zMt
def zdv:=cl_ zcv
def zev:=co_ zdv
def zfv:=cr_ zLt
def zNt:=cr_ zfv
def zgv:=cl_ zNt
def zhv:=cl_ zgv
def ziv:=co_ zhv
def zjv:=cr_ zNt
def zOt:=cr_ zjv
def zkv:=cl_ zOt
def zlv:=cl_ zkv
def zmv:=co_ zlv
def znv:=cr_ zOt
def zPt:=cr_ znv
def zov:=cl_ zPt
def zpv:=cl_ zov
def zqv:=co_ zpv
def zrv:=cr_ zPt
def zsv:=cr_ zrv
def ztv:=cl_ zsv
def zuv:=cl_ ztv
def zvv:=co_ zuv
def zwv:=cr_ c8_3
def zxv:=cl_ zwv
def zyv:=co_ zxv
def zpc:List Nat:=[0,1,2,3,4,5,6,7,8,9,10]
def zqc:List Nat:=[0,1,2,3,4,5,6,7,8,9,10,11]
def zrc:List Nat:=[0,1,2,3,4,5,6,7,8,9,11,12,13,14,15,16,17,18,19,20,10,21,22,23]
def zsc:List Nat:=[0,1,2,3,4,5,7,8,9,10,11,12,6,13,14,15]
def ztc:List Nat:=[0,1,2,3,4,5,7,8,9,10,11,12,6,13,14,15]
def zuc:List Nat:=[0,1,2,3,5,6,7,8,4,9,10,11]
def zvc:List Nat:=[0,1,2,3,5,6,7,8,4,9,10,11]

theorem S_l {p:OA} {o_:T_e} {w:World} {R:Bool→WP} (h:F_cc p o_ R w):C_N p o_ w R:=by
 unfold F_cc at h
 refine Yh Tryz.func8 ?_
 ·refine Yt ?_
  refine Yw pv_ h fun b_ w1 h=> ?_
  refine Yf P1 [0,3] (Ys (Yt (Yn P1 ?_)))
  refine Yl h fun v13 h=> ?_
  refine Yf [] [0,3,13] (Yd 0 (Yp P2 [0,3,13,14] ?_))
  refine Yc h (fun h=> ?_) fun h=> ?_
  ·refine Yt (Yn P1 ?_)
   refine YL h fun v17 h=> ?_
   refine Ym1 h fun v18 w2 h=> ?_
   refine Yw pv_ h fun b_1 w3 h=> ?_
   refine Yo h fun w4 h=> ?_
   refine Yf [] [0,3,5] (Ys ?_)
   refine zm (id:=4) (ops:=zbv) zpc K_ K_ K_ K_ (fun w5 hw=> ?_)
   replace h:=h w5 hw
   clear hw
   refine Mn P1 ?_
   refine Mv 20 h fun hp_17 h=> ?_
   refine Mn P1 ?_
   refine Mn P1 ?_
   refine Ml 3 h fun v23 hc h=> ?_
   refine ML 4 h fun v24 hc h=> ?_
   refine zo (op:=(Op.call (Call.mk (Callee.value (Operand.func 15)) #[(Operand.tmp 23),(Operand.tmp 24)] #[24,59]))) (ty:=75) (dst:=some 25) 5 [3,4,2,1,0] [] 15 #[Vp v23,Value.agg #[Vi v24.Mark,sv_ v24.Beyond,sv_ v24.Held]] K_ K_ K_ K_ K_ (fun ww=>by kernel_rfl) (Calls.mono h ?_)
   rintro _ w6 ⟨s,e,rfl,h⟩
   refine⟨_,rfl,trivial,?_⟩
   refine Mf (Pl 5) [0,3,5,6,7] ?_
   refine Ys ?_
   refine zm (id:=5) (ops:=zev) zqc K_ K_ K_ K_ (fun w7 hw=> ?_)
   replace h:=h w7 hw
   clear hw
   refine Mn P1 ?_
   refine Mv 29 h fun hp_19 h=> ?_
   refine Mn P1 ?_
   refine Mn P1 ?_
   refine Ml 3 h fun v32 hc h=> ?_
   refine Mn P1 ?_
   refine ML 5 h fun v34 hc h=> ?_
   refine zo (op:=(Op.call (Call.mk (Callee.value (Operand.func 16)) #[(Operand.tmp 32),(Operand.tmp 34)] #[28,59]))) (ty:=77) (dst:=some 35) 6 [3,5,2,4,1,0] [] 16 #[Vp v32,Value.agg #[Vi v34.Mark,sv_ v34.Beyond,sv_ v34.Held]] K_ K_ K_ K_ K_ (fun ww=>by kernel_rfl) (Calls.mono h ?_)
   rintro _ w8 ⟨t_,f,rfl,h⟩
   refine⟨_,rfl,trivial,?_⟩
   refine Mf (Pl 5) [0,3,5,6,7,8,9] ?_
   refine Yt ?_
   refine YL h fun v38 h=> ?_
   refine Yn P1 ?_
   refine YL h fun v40 h=> ?_
   refine Ym1 h fun v41 w9 h=> ?_
   refine Yf P1 [0,5,6,7,8,9,10] (Yt (Yn P1 ?_))
   refine Yw pv_ h fun b_2 w10 h=> ?_
   refine Yo h fun w11 h=> ?_
   refine Yf [] [0,5,6,7,8,9,10,11] (Yt ?_)
   refine YL h fun v43 h=> ?_
   refine Ym0 h fun w12 h=> ?_
   refine Yf [] [0,6,7,8,9,10,11] (Yt (Yn P2 ?_))
   refine Yv 45 h fun hp_21 h=> ?_
   refine Yn P1 (Yn P1 ?_)
   refine Yo h fun w13 h=> ?_
   refine Yf [] [0,6,7,8,9,10,11] (Yt (Yn P2 ?_))
   refine Yv 49 h fun hp_23 h=> ?_
   refine Yn P1 (Yn P1 ?_)
   refine Yo h fun w14 h=> ?_
   refine Yf [] [6,7,8,9,10,11] (Yt (Yn (Pl 5) ?_))
   refine Yspl 56 h (fun h=> ?_) fun h=> ?_
   ·refine zP (op:=(Op.binOp BinOp.eql 32 (Operand.tmp 57) (Operand.const (Vp none)) 32)) (ty:=4) (dst:=some 58) (Vo s.isNone) K_ (fun ww=>zz (p:=s) K_ K_ K_ ww) ?_
    refine Yn [.sure] ?_
    refine zP (op:=(Op.binOp BinOp.eql 33 (Operand.tmp 59) (Operand.const (Vp none)) 33)) (ty:=4) (dst:=some 60) (Vo t_.isNone) K_ (fun ww=>zz (p:=t_) K_ K_ K_ ww) ?_
    refine Yn [.sure,.plain,.plain,.plain,.pick,.plain] ?_
    refine Yspl 66 h (fun h=> ?_) fun h=> ?_
    ·refine Ym1 h fun v67 w15 h=> ?_
     refine Yf P2 [4] ?_
     exact YS ⟨v67,rfl,h⟩
    ·refine Yf [.skip,.plain,.plain] [4] ?_
     exact YS ⟨false,rfl,h⟩
   ·refine Yf [.skip,.skip,.skip,.skip,.plain,.plain,.skip,.plain,.plain,.skip,.plain,.plain] [4] ?_
    exact YS ⟨false,rfl,h⟩
  ·refine Yp P2 [0,3,13,69] ?_
   refine Yc h (fun h=> ?_) fun h=> ?_
   ·refine Ys ?_
    refine zm (id:=13) (ops:=ziv) zrc K_ K_ K_ K_ (fun w16 hw=> ?_)
    replace h:=h w16 hw
    clear hw
    refine Mn P1 ?_
    refine Mv 71 h fun hp_24 h=> ?_
    refine Mn P1 ?_
    refine Mn P1 ?_
    refine Ml 3 h fun v74 hc h=> ?_
    refine Mn P1 ?_
    refine Ml 5 h fun v76 hc h=> ?_
    refine Mn P1 ?_
    refine Ml 7 h fun v78 hc h=> ?_
    refine Mn P1 ?_
    refine Ml 9 h fun v80 hc h=> ?_
    refine Mn P1 ?_
    refine Mv 82 h fun hp_25 h=> ?_
    refine Mn P1 ?_
    refine Mn P1 ?_
    refine Ml 14 h fun v85 hc h=> ?_
    refine Mn P1 ?_
    refine Ml 16 h fun v87 hc h=> ?_
    refine Mn P1 ?_
    refine Ml 18 h fun v89 hc h=> ?_
    refine Mn P1 ?_
    refine Ml 20 h fun v91 hc h=> ?_
    refine zo (op:=(Op.call (Call.mk (Callee.value (Operand.func 19)) #[(Operand.tmp 74),(Operand.tmp 76),(Operand.tmp 78),(Operand.tmp 80)] #[24,3,3,38]))) (ty:=25) (dst:=some 81) 10 [3,5,7,9,2,4,6,8,1,0] [(20,fun w'=>w'.cell? ⟨b_,6,none⟩=some (sv_ v91)),(18,fun w'=>w'.cell? ⟨b_,5,none⟩=some (Vi v89)),(16,fun w'=>w'.cell? ⟨b_,4,none⟩=some (Vi v87)),(14,fun w'=>w'.cell? ⟨(pblk p),(poff p)+2,none⟩=some (Vp v85))] 19 #[Vp v74,Vi v76,Vi v78,sv_ v80] K_ K_ K_ K_ K_ (fun ww=>by kernel_rfl) (Calls.mono h ?_)
    rintro _ w17 ⟨v81,rfl,h⟩
    obtain⟨hk0,hk1,hk2,hk3,h⟩:=h
    refine⟨_,rfl,⟨hk0,hk1,hk2,hk3,trivial⟩,?_⟩
    refine zo (op:=(Op.call (Call.mk (Callee.value (Operand.func 20)) #[(Operand.tmp 85),(Operand.tmp 87),(Operand.tmp 89),(Operand.tmp 91)] #[28,3,3,38]))) (ty:=25) (dst:=some 92) 21 [10,14,16,18,20,3,5,7,9,13,15,17,19,2,4,6,8,12,1,11,0] [] 20 #[Vp v85,Vi v87,Vi v89,sv_ v91] K_ K_ K_ K_ K_ (fun ww=>by kernel_rfl) (Calls.mono h ?_)
    rintro _ w18 ⟨v92,rfl,h⟩
    refine⟨_,rfl,trivial,?_⟩
    refine Mf P2 [4] ?_
    exact YS ⟨(v81==v92),rfl,h⟩
   ·refine Yp P2 [0,3,13,94] ?_
    refine Yc h (fun h=> ?_) fun h=> ?_
    ·refine Ys ?_
     refine zm (id:=15) (ops:=zmv) zsc K_ K_ K_ K_ (fun w19 hw=> ?_)
     replace h:=h w19 hw
     clear hw
     refine Mn P1 ?_
     refine Mv 96 h fun hp_26 h=> ?_
     refine Mn P1 ?_
     refine Mn P1 ?_
     refine Ml 3 h fun v99 hc h=> ?_
     refine Mn P1 ?_
     refine Ml 5 h fun v101 hc h=> ?_
     refine Mn P1 ?_
     refine Mv 103 h fun hp_27 h=> ?_
     refine Mn P1 ?_
     refine Mn P1 ?_
     refine Ml 10 h fun v106 hc h=> ?_
     refine Mn P1 ?_
     refine Ml 12 h fun v108 hc h=> ?_
     refine zo (op:=(Op.call (Call.mk (Callee.value (Operand.func 21)) #[(Operand.tmp 99),(Operand.tmp 101)] #[24,3]))) (ty:=25) (dst:=some 102) 6 [3,5,2,4,1,0] [(12,fun w'=>w'.cell? ⟨b_,4,none⟩=some (Vi v108)),(10,fun w'=>w'.cell? ⟨(pblk p),(poff p)+2,none⟩=some (Vp v106))] 21 #[Vp v99,Vi v101] K_ K_ K_ K_ K_ (fun ww=>by kernel_rfl) (Calls.mono h ?_)
     rintro _ w20 ⟨v102,rfl,h⟩
     obtain⟨hk0,hk1,h⟩:=h
     refine⟨_,rfl,⟨hk0,hk1,trivial⟩,?_⟩
     refine zo (op:=(Op.call (Call.mk (Callee.value (Operand.func 22)) #[(Operand.tmp 106),(Operand.tmp 108)] #[28,3]))) (ty:=25) (dst:=some 109) 13 [6,10,12,3,5,9,11,2,4,8,1,7,0] [] 22 #[Vp v106,Vi v108] K_ K_ K_ K_ K_ (fun ww=>by kernel_rfl) (Calls.mono h ?_)
     rintro _ w21 ⟨v109,rfl,h⟩
     refine⟨_,rfl,trivial,?_⟩
     refine Mf P2 [4] ?_
     exact YS ⟨(v102==v109),rfl,h⟩
    ·refine Yp P2 [0,3,13,111] ?_
     refine Yc h (fun h=> ?_) fun h=> ?_
     ·refine Ys ?_
      refine zm (id:=17) (ops:=zqv) ztc K_ K_ K_ K_ (fun w22 hw=> ?_)
      replace h:=h w22 hw
      clear hw
      refine Mn P1 ?_
      refine Mv 113 h fun hp_28 h=> ?_
      refine Mn P1 ?_
      refine Mn P1 ?_
      refine Ml 3 h fun v116 hc h=> ?_
      refine Mn P1 ?_
      refine Ml 5 h fun v118 hc h=> ?_
      refine Mn P1 ?_
      refine Mv 120 h fun hp_29 h=> ?_
      refine Mn P1 ?_
      refine Mn P1 ?_
      refine Ml 10 h fun v123 hc h=> ?_
      refine Mn P1 ?_
      refine Ml 12 h fun v125 hc h=> ?_
      refine zo (op:=(Op.call (Call.mk (Callee.value (Operand.func 23)) #[(Operand.tmp 116),(Operand.tmp 118)] #[24,3]))) (ty:=25) (dst:=some 119) 6 [3,5,2,4,1,0] [(12,fun w'=>w'.cell? ⟨b_,7,none⟩=some (Vi v125)),(10,fun w'=>w'.cell? ⟨(pblk p),(poff p)+2,none⟩=some (Vp v123))] 23 #[Vp v116,Vi v118] K_ K_ K_ K_ K_ (fun ww=>by kernel_rfl) (Calls.mono h ?_)
      rintro _ w23 ⟨v119,rfl,h⟩
      obtain⟨hk0,hk1,h⟩:=h
      refine⟨_,rfl,⟨hk0,hk1,trivial⟩,?_⟩
      refine zo (op:=(Op.call (Call.mk (Callee.value (Operand.func 24)) #[(Operand.tmp 123),(Operand.tmp 125)] #[28,3]))) (ty:=25) (dst:=some 126) 13 [6,10,12,3,5,9,11,2,4,8,1,7,0] [] 24 #[Vp v123,Vi v125] K_ K_ K_ K_ K_ (fun ww=>by kernel_rfl) (Calls.mono h ?_)
      rintro _ w24 ⟨v126,rfl,h⟩
      refine⟨_,rfl,trivial,?_⟩
      refine Mf P2 [4] ?_
      exact YS ⟨(v119==v126),rfl,h⟩
     ·refine Yp P2 [0,128] ?_
      refine Yc h (fun h=> ?_) fun h=> ?_
      ·refine Ys ?_
       refine zm (id:=19) (ops:=zvv) zuc K_ K_ K_ K_ (fun w25 hw=> ?_)
       replace h:=h w25 hw
       clear hw
       refine Mn P1 ?_
       refine Mv 130 h fun hp_30 h=> ?_
       refine Mn P1 ?_
       refine Mn P1 ?_
       refine Ml 3 h fun v133 hc h=> ?_
       refine Mn P1 ?_
       refine Mv 135 h fun hp_31 h=> ?_
       refine Mn P1 ?_
       refine Mn P1 ?_
       refine Ml 8 h fun v138 hc h=> ?_
       refine zo (op:=(Op.call (Call.mk (Callee.value (Operand.func 25)) #[(Operand.tmp 133)] #[24]))) (ty:=25) (dst:=some 134) 4 [3,2,1,0] [(8,fun w'=>w'.cell? ⟨(pblk p),(poff p)+2,none⟩=some (Vp v138))] 25 #[Vp v133] K_ K_ K_ K_ K_ (fun ww=>by kernel_rfl) (Calls.mono h ?_)
       rintro _ w26 ⟨v134,rfl,h⟩
       obtain⟨hk0,h⟩:=h
       refine⟨_,rfl,⟨hk0,trivial⟩,?_⟩
       refine zo (op:=(Op.call (Call.mk (Callee.value (Operand.func 26)) #[(Operand.tmp 138)] #[28]))) (ty:=25) (dst:=some 139) 9 [4,8,3,7,2,6,1,5,0] [] 26 #[Vp v138] K_ K_ K_ K_ K_ (fun ww=>by kernel_rfl) (Calls.mono h ?_)
       rintro _ w27 ⟨v139,rfl,h⟩
       refine⟨_,rfl,trivial,?_⟩
       refine Mf P2 [4] ?_
       exact YS ⟨(v134==v139),rfl,h⟩
      ·refine zg (Ys ?_)
       refine zm (id:=20) (ops:=zyv) zvc K_ K_ K_ K_ (fun w28 hw=> ?_)
       replace h:=h w28 hw
       clear hw
       refine Mn P1 ?_
       refine Mv 141 h fun hp_32 h=> ?_
       refine Mn P1 ?_
       refine Mn P1 ?_
       refine Ml 3 h fun v144 hc h=> ?_
       refine Mn P1 ?_
       refine Mv 146 h fun hp_33 h=> ?_
       refine Mn P1 ?_
       refine Mn P1 ?_
       refine Ml 8 h fun v149 hc h=> ?_
       refine zo (op:=(Op.call (Call.mk (Callee.value (Operand.func 11)) #[(Operand.tmp 144)] #[32]))) (ty:=25) (dst:=some 145) 4 [3,2,1,0] [(8,fun w'=>w'.cell? ⟨(pblk p),(poff p)+3,none⟩=some (Vp v149))] 11 #[Vp v144] K_ K_ K_ K_ K_ (fun ww=>by kernel_rfl) (Calls.mono h ?_)
       rintro _ w29 ⟨v145,rfl,h⟩
       obtain⟨hk0,h⟩:=h
       refine⟨_,rfl,⟨hk0,trivial⟩,?_⟩
       refine zo (op:=(Op.call (Call.mk (Callee.value (Operand.func 27)) #[(Operand.tmp 149)] #[33]))) (ty:=25) (dst:=some 150) 9 [4,8,3,7,2,6,1,5,0] [] 27 #[Vp v149] K_ K_ K_ K_ K_ (fun ww=>by kernel_rfl) (Calls.mono h ?_)
       rintro _ w30 ⟨v150,rfl,h⟩
       refine⟨_,rfl,trivial,?_⟩
       refine Mf P2 [4] ?_
       exact YS ⟨(v145==v150),rfl,h⟩
end
end Go.Proofs.YtjlfdepkphibgaaGreatDoor
