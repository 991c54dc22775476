/- WRITTEN BY PROGRAM (dec.py): for each Go function the clean formula F, the call's contract C, and the proof S that F gives C. -/
import Derived.Test.YtjlfdepkphibgaaGreatDoorRows
import Derived.Test.YtjlfdepkphibgaaGreatDoorGF
namespace Go.Proofs.YtjlfdepkphibgaaGreatDoor
open Go
set_option linter.unusedVariables false
set_option maxRecDepth 100000
set_option maxHeartbeats 4000000
noncomputable section

/-! ### towpath/towpathref18.Decode (function 139) -/
def zft:=cb_ Tryz.f139
def zgt:=cr_ zft
def zht:=cr_ zgt
def zit:=cr_ zht
def zjk:=cr_ zit
def zro:=cl_ zjk
def zso:=cr_ zro
def zto:=cl_ zso
def zuo:=cl_ zto
def zvo:=cr_ zuo
def zwo:=cl_ zvo
def zxo:=cl_ zwo
def zyo:=co_ zxo
def zzo:=cr_ zjk
def zAo:=cr_ zzo
def zBo:=cr_ zAo
def zCo:=cl_ zBo
def zDo:=cr_ zCo
def zEo:=cl_ zDo
def zFo:=cl_ zEo
def zGo:=co_ zFo
def zWc:List Nat:=[0,1,2,3,4,5,6,7]
def zXc:List Nat:=[0,1,2,3,4,5,6]

theorem S_Wb {b_:Slc} {w:World} {R:T_b→Int→WP} (h:F_Ud b_ R w):C_dc b_ w R:=by
 unfold F_Ud at h
 refine Yh Tryz.func139 ?_
 ·refine Yt ?_
  refine Yw pv_ h fun b_1 w1 h=> ?_
  refine Yf P1 [0,2] (Yt (Yn P3 ?_))
  refine Yw pv_ h fun b_2 w2 h=> ?_
  refine Yf P1 [2,4] (Yt (Yn P1 ?_))
  refine Ym1 h fun v19 w3 h=> ?_
  refine Yn P1 ?_
  refine Yw pv_ h fun b_3 w4 h=> ?_
  refine Yo h fun w5 h=> ?_
  refine Yf [] [2,4,5] (Yt (Yn P1 ?_))
  refine Ym1 h fun v22 w6 h=> ?_
  refine Yf P1 [2,4,5,6] (Ys (Yp P1 [2,4,5,6,7] (Yd 0 ?_)))
  obtain⟨I,μ,h0,hr⟩:=h
  refine zN (fun m l w=>∃(i:Int),l=[(2,pv_ b_1),(4,pv_ b_2),(5,pv_ b_3),(6,Vi v22),(7,Vi i)]∧I i w∧μ i w=m) ⟨0,rfl,h0,rfl⟩ ?_
  rintro _ _ w7 ⟨i,rfl,hI,rfl⟩
  obtain⟨again_,again__h,h⟩:∃ again_:Int→WP,(∀ i' w',again_ i' w'→I i' w'∧μ i' w'<μ i w7)∧F_jc R b_1 b_2 b_3 v22 again_ i w7:=⟨_,fun _ _ h=>h,hr i w7 hI⟩
  clear h0 hI
  unfold F_jc at h
  refine Ys ?_
  refine Ycut (fun l w=>∃(t32:Bool),l=[(2,pv_ b_1),(4,pv_ b_2),(5,pv_ b_3),(6,Vi v22),(7,Vi i),(32,Vo t32)]∧F_t R b_1 b_2 b_3 i again_ t32 w) ?_ ?_
  ·refine Yr (Yn (Pl 7) ?_)
   refine Yspl 26 h (fun h=> ?_) fun h=> ?_
   ·refine Yl h fun v30 h=> ?_
    refine Yf [.sure,.plain] [2,4,5,6,7,32] ?_
    exact⟨_,Sub.mk K_,(v30==0),rfl,h⟩
   ·refine Yf [.skip,.skip,.plain] [2,4,5,6,7,32] ?_
    exact⟨_,Sub.mk K_,false,rfl,h⟩
  ·rintro _ w8 ⟨t32,rfl,h⟩
   unfold F_t at h
   refine Yc h (fun h=> ?_) fun h=> ?_
   ·refine zg (Ys (Yd 1 ?_))
    refine zm (id:=7) (ops:=zyo) zWc K_ K_ K_ K_ (fun w9 hw=> ?_)
    replace h:=h w9 hw
    clear hw
    refine Mn P1 ?_
    refine Ml 1 h fun v36 hc h=> ?_
    refine Mn P1 ?_
    refine zo (op:=(Op.call (Call.mk (Callee.value (Operand.func 165)) #[(Operand.tmp 37)] #[216]))) (ty:=3) (dst:=some 38) 3 [2] [(1,fun w'=>w'.cell? ⟨b_3,1,none⟩=some (sv_ v36))] 165 #[pv_ b_2] K_ K_ K_ K_ K_ (fun ww=>by kernel_rfl) (Calls.mono h ?_)
    rintro _ w10 ⟨v38,rfl,h⟩
    obtain⟨hk0,h⟩:=h
    refine⟨_,rfl,⟨hk0,trivial⟩,?_⟩
    refine zzd (op:=(Op.buildSlice 56 1 #[(0,(Operand.tmp 38))])) (ty:=56) (dst:=some 39) 4 [3,2] [(1,fun w'=>w'.cell? ⟨b_3,1,none⟩=some (sv_ v36))] (fun bb=>Value.slice (some ⟨bb,0,none⟩) 1 1) (Obj.cells ([Vi v38]).toArray y_i (0,0)) K_ K_ K_ K_ K_ K_ (fun b_4 w11 hb hw=> ?_)
    replace h:=h b_4 w11 hb hw
    clear hb hw
    obtain⟨hk0,h⟩:=h
    refine⟨⟨hk0,trivial⟩,?_⟩
    obtain⟨src,hs,h⟩:=h
    refine z1b (t:=56) (tx:=56) (e:=3) (a:=(Operand.tmp 36)) (xo:=(Operand.tmp 39)) (s:=v36) (x:=(Slc.mk (some ⟨b_4,0,none⟩) 1 1)) (sz:=1) (by_:=8) (zs:=[Vi 0]) (ty:=56) (dst:=some 40) 5 [1,3,4,0,2] [] src K_ K_ K_ K_ K_ K_ K_ K_ K_ K_ K_ K_ K_ hs (zj.mono h (fun v40 w12 h=> ?_))
    refine⟨trivial,?_⟩
    refine Mn P1 ?_
    refine zoc 7 [0,1,2,3,4,5,6] [] h fun w13 h=> ?_
    refine⟨trivial,?_⟩
    refine Mf [] [2,4,5,6,7] ?_
    refine Yr (Yf P3 [2,4,5,6,7] ?_)
    have hb_:=again__h _ _ h
    exact⟨_,hb_.2,_,Sub.mk K_,(IntKind.i64.wrap (i+1)),rfl,hb_.1,rfl⟩
   ·refine zM 0 (Yt (Yn P1 ?_))
    refine Ym1 h fun v43 w14 h=> ?_
    refine Yf P1 [2,4,5,8] (Ys (Yp P1 [2,4,5,8,9] (Yd 2 ?_)))
    obtain⟨I,μ,h0,hr⟩:=h
    refine zN (fun m l w=>∃(i1:Int),l=[(2,pv_ b_1),(4,pv_ b_2),(5,pv_ b_3),(8,Value.int .u64 v43),(9,Value.int .u64 i1)]∧I i1 w∧μ i1 w=m) ⟨0,rfl,h0,rfl⟩ ?_
    rintro _ _ w15 ⟨i1,rfl,hI,rfl⟩
    obtain⟨again_1,again_1_h,h⟩:∃ again_1:Int→WP,(∀ i1' w',again_1 i1' w'→I i1' w'∧μ i1' w'<μ i1 w15)∧F_Fb R b_1 b_2 b_3 v43 again_1 i1 w15:=⟨_,fun _ _ h=>h,hr i1 w15 hI⟩
    clear h0 hI
    unfold F_Fb at h
    refine Ys ?_
    refine Ycut (fun l w=>∃(t53:Bool),l=[(2,pv_ b_1),(4,pv_ b_2),(5,pv_ b_3),(8,Value.int .u64 v43),(9,Value.int .u64 i1),(53,Vo t53)]∧F_i R b_1 b_2 b_3 i1 again_1 t53 w) ?_ ?_
    ·refine Yr (Yn (Pl 7) ?_)
     refine Yspl 47 h (fun h=> ?_) fun h=> ?_
     ·refine Yl h fun v51 h=> ?_
      refine Yf [.sure,.plain] [2,4,5,8,9,53] ?_
      exact⟨_,Sub.mk K_,(v51==0),rfl,h⟩
     ·refine Yf [.skip,.skip,.plain] [2,4,5,8,9,53] ?_
      exact⟨_,Sub.mk K_,false,rfl,h⟩
    ·rintro _ w16 ⟨t53,rfl,h⟩
     unfold F_i at h
     refine Yc h (fun h=> ?_) fun h=> ?_
     ·refine zg (Ys (Yd 3 (Yt (Yn P1 ?_))))
      refine Ym1 h fun v57 w17 h=> ?_
      refine Yn P1 ?_
      refine Yw pv_ h fun b_5 w18 h=> ?_
      refine Yo h fun w19 h=> ?_
      refine Yf [] [2,4,5,8,9,10] (Yt (Yn P1 ?_))
      refine Ym1 h fun v60 w20 h=> ?_
      refine Yf P1 [2,4,5,8,9,10,11] (Ys (Yp P1 [2,4,5,8,9,10,11,12] (Yd 4 ?_)))
      obtain⟨I,μ,h0,hr⟩:=h
      refine zN (fun m l w=>∃(k_:Int),l=[(2,pv_ b_1),(4,pv_ b_2),(5,pv_ b_3),(8,Value.int .u64 v43),(9,Value.int .u64 i1),(10,pv_ b_5),(11,Vi v60),(12,Vi k_)]∧I k_ w∧μ k_ w=m) ⟨0,rfl,h0,rfl⟩ ?_
      rintro _ _ w21 ⟨k_,rfl,hI,rfl⟩
      obtain⟨again_2,again_2_h,h⟩:∃ again_2:Int→WP,(∀ k_' w',again_2 k_' w'→I k_' w'∧μ k_' w'<μ k_ w21)∧F_Eb b_2 b_3 i1 again_1 b_5 v60 again_2 k_ w21:=⟨_,fun _ _ h=>h,hr k_ w21 hI⟩
      clear h0 hI
      unfold F_Eb at h
      refine Ys ?_
      refine Ycut (fun l w=>∃(t70:Bool),l=[(2,pv_ b_1),(4,pv_ b_2),(5,pv_ b_3),(8,Value.int .u64 v43),(9,Value.int .u64 i1),(10,pv_ b_5),(11,Vi v60),(12,Vi k_),(70,Vo t70)]∧F_s b_2 b_3 i1 again_1 b_5 k_ again_2 t70 w) ?_ ?_
      ·refine Yr (Yn (Pl 7) ?_)
       refine Yspl 64 h (fun h=> ?_) fun h=> ?_
       ·refine Yl h fun v68 h=> ?_
        refine Yf [.sure,.plain] [2,4,5,8,9,10,11,12,70] ?_
        exact⟨_,Sub.mk K_,(v68==0),rfl,h⟩
       ·refine Yf [.skip,.skip,.plain] [2,4,5,8,9,10,11,12,70] ?_
        exact⟨_,Sub.mk K_,false,rfl,h⟩
      ·rintro _ w22 ⟨t70,rfl,h⟩
       unfold F_s at h
       refine Yc h (fun h=> ?_) fun h=> ?_
       ·refine zg (Ys (Yd 5 (Yt (Yn P1 ?_))))
        refine Ym1 h fun v74 w23 h=> ?_
        refine Yn P1 ?_
        refine Yw pv_ h fun b_6 w24 h=> ?_
        refine Yo h fun w25 h=> ?_
        refine Yf [] [2,4,5,8,9,10,11,12,13] (Yt (Yn P1 ?_))
        refine Ym1 h fun v77 w26 h=> ?_
        refine Yn P1 ?_
        refine Yo h fun w27 h=> ?_
        refine Yf [] [2,4,5,8,9,10,11,12,13] ?_
        refine Ycut (fun l w=>l=[(2,pv_ b_1),(4,pv_ b_2),(5,pv_ b_3),(8,Value.int .u64 v43),(9,Value.int .u64 i1),(10,pv_ b_5),(11,Vi v60),(12,Vi k_),(13,pv_ b_6)]∧F_O b_5 k_ again_2 b_6 w) ?_ ?_
        ·refine Yt (Yn P1 ?_)
         refine Yl h fun v80 h=> ?_
         refine Yf P1 [2,4,5,8,9,10,11,12,13,81] ?_
         refine Yc h (fun h=> ?_) fun h=> ?_
         ·refine Yr (Yn P1 ?_)
          refine Ym1 h fun v83 w32 h=> ?_
          refine Yn P1 ?_
          refine Yo h fun w33 h=> ?_
          refine Yf [] [2,4,5,8,9,10,11,12,13] ?_
          exact⟨_,Sub.mk K_,rfl,h⟩
         ·refine zg ?_
          exact⟨_,Sub.mk K_,rfl,h⟩
        ·rintro _ w28 ⟨rfl,h⟩
         unfold F_O at h
         refine Yr (Yn P1 ?_)
         refine Yl h fun v86 h=> ?_
         refine YL h fun v87 h=> ?_
         refine Yw (sl_ 1 1) h fun b_7 w29 h=> ?_
         obtain⟨src,hs,h⟩:=h
         refine zH (t:=126) (tx:=126) (e:=130) (a:=(Operand.tmp 86)) (xo:=(Operand.tmp 88)) (s:=v86) (x:=(Slc.mk (some ⟨b_7,0,none⟩) 1 1)) (sz:=3) (by_:=32) (zs:=[Vi 0,Value.string ByteArray.empty,Vo false]) (ty:=126) (dst:=some 89)  src K_ K_ K_ K_ K_ K_ K_ K_ K_ hs (zj.mono h (fun v89 w30 h=> ?_))
         refine Yn P1 ?_
         refine Yo h fun w31 h=> ?_
         refine Yf [] [2,4,5,8,9,10,11,12] (Yr (Yf P3 [2,4,5,8,9,10,11,12] ?_))
         have hb_:=again_2_h _ _ h
         exact⟨_,hb_.2,_,Sub.mk K_,(IntKind.i64.wrap (k_+1)),rfl,hb_.1,rfl⟩
       ·refine zM 4 (Yr (Yn P1 ?_))
        refine Yl h fun v92 h=> ?_
        refine YL h fun v93 h=> ?_
        refine Yw (sl_ 1 1) h fun b_8 w34 h=> ?_
        obtain⟨src,hs,h⟩:=h
        refine zH (t:=57) (tx:=57) (e:=141) (a:=(Operand.tmp 92)) (xo:=(Operand.tmp 94)) (s:=v92) (x:=(Slc.mk (some ⟨b_8,0,none⟩) 1 1)) (sz:=2) (by_:=40) (zs:=[Value.string ByteArray.empty,Value.slice none 0 0]) (ty:=57) (dst:=some 95)  src K_ K_ K_ K_ K_ K_ K_ K_ K_ hs (zj.mono h (fun v95 w35 h=> ?_))
        refine Yn P1 ?_
        refine Yo h fun w36 h=> ?_
        refine Yf [] [2,4,5,8,9] (Yr (Yf P3 [2,4,5,8,9] ?_))
        have hb_:=again_1_h _ _ h
        exact⟨_,hb_.2,_,Sub.mk K_,(IntKind.u64.wrap (i1+1)),rfl,hb_.1,rfl⟩
     ·refine zM 2 (Ys (Yt (Yn P3 ?_)))
      refine Yl h fun v100 h=> ?_
      refine Yf P1 [2,4,5,101] ?_
      refine Yc h (fun h=> ?_) fun h=> ?_
      ·refine Ys ?_
       refine zm (id:=24) (ops:=zGo) zXc K_ K_ K_ K_ (fun w37 hw=> ?_)
       replace h:=h w37 hw
       clear hw
       refine Mn P4 ?_
       refine Ml 4 h fun v106 hc h=> ?_
       refine zoc 5 [0] [(4,fun w'=>w'.cell? ⟨b_2,4,none⟩=some (Vi v106))] h fun w38 h=> ?_
       obtain⟨hk0,h⟩:=h
       refine⟨⟨hk0,trivial⟩,?_⟩
       refine Mf P1 [2,3] ?_
       obtain⟨res,hc_res,h⟩:=h
       exact YTg (rs:=[(ResultVar.cell 2 59),(ResultVar.tmp 3)]) (vs:=[Value.agg #[Vi res.Mark,sv_ res.Beyond,sv_ res.Held],Vi v106]) (⟨b_1,0,[Vi res.Mark,sv_ res.Beyond,sv_ res.Held],K_,hc_res,(zx (k:=3) K_ K_),.inl ⟨K_,rfl⟩,⟨K_,trivial⟩⟩) ⟨res,v106,rfl,h⟩
      ·refine zg (Ys (Yt (Yn P3 ?_)))
       refine YL h fun v110 h=> ?_
       refine Ym1 h fun v111 w39 h=> ?_
       refine Yf P1 [2,5,112] ?_
       refine Yc h (fun h=> ?_) fun h=> ?_
       ·refine Yt (Yn P1 ?_)
        refine Yo h fun w40 h=> ?_
        refine Yf P1 [2,3] ?_
        obtain⟨res1,hc_res1,h⟩:=h
        exact YTg (rs:=[(ResultVar.cell 2 59),(ResultVar.tmp 3)]) (vs:=[Value.agg #[Vi res1.Mark,sv_ res1.Beyond,sv_ res1.Held],Vi 4]) (⟨b_1,0,[Vi res1.Mark,sv_ res1.Beyond,sv_ res1.Held],K_,hc_res1,(zx (k:=3) K_ K_),.inl ⟨K_,rfl⟩,⟨K_,trivial⟩⟩) ⟨res1,4,rfl,h⟩
       ·refine zg (Ys (Yt ?_))
        refine YL h fun v114 h=> ?_
        refine Ym1 h fun v115 w41 h=> ?_
        refine Yf P1 [2,5,116] ?_
        refine Yc h (fun h=> ?_) fun h=> ?_
        ·refine Yt (Yn P1 ?_)
         refine Yo h fun w42 h=> ?_
         refine Yf P1 [2,3] ?_
         obtain⟨res2,hc_res2,h⟩:=h
         exact YTg (rs:=[(ResultVar.cell 2 59),(ResultVar.tmp 3)]) (vs:=[Value.agg #[Vi res2.Mark,sv_ res2.Beyond,sv_ res2.Held],Vi 1]) (⟨b_1,0,[Vi res2.Mark,sv_ res2.Beyond,sv_ res2.Held],K_,hc_res2,(zx (k:=3) K_ K_),.inl ⟨K_,rfl⟩,⟨K_,trivial⟩⟩) ⟨res2,1,rfl,h⟩
        ·refine zg (Yt ?_)
         refine YL h fun v118 h=> ?_
         refine Yo h fun w43 h=> ?_
         refine Yf P1 [2,3] ?_
         obtain⟨res3,hc_res3,h⟩:=h
         exact YTg (rs:=[(ResultVar.cell 2 59),(ResultVar.tmp 3)]) (vs:=[Value.agg #[Vi res3.Mark,sv_ res3.Beyond,sv_ res3.Held],Vi 0]) (⟨b_1,0,[Vi res3.Mark,sv_ res3.Beyond,sv_ res3.Held],K_,hc_res3,(zx (k:=3) K_ K_),.inl ⟨K_,rfl⟩,⟨K_,trivial⟩⟩) ⟨res3,0,rfl,h⟩

/-! ### towpath/towpathref18.among (function 150) -/

theorem S_6b {l_:Slc} {n_:Int} {w:World} {R:Bool→WP} (h:F_9d l_ n_ R w):C_gc l_ n_ w R:=by
 unfold F_9d at h
 refine Yh Tryz.func150 ?_
 ·refine Yp P1 [0,1] (Ys (Yp P1 [0,1,5] (Yd 0 ?_)))
  obtain⟨I,μ,h0,hr⟩:=h
  refine zN (fun m l w=>∃(i:Int),l=[(0,sv_ l_),(1,Vi n_),(5,Vi i)]∧I i w∧μ i w=m) ⟨0,rfl,h0,rfl⟩ ?_
  rintro _ _ w1 ⟨i,rfl,hI,rfl⟩
  obtain⟨again_,again__h,h⟩:∃ again_:Int→WP,(∀ i' w',again_ i' w'→I i' w'∧μ i' w'<μ i w1)∧F_zc l_ n_ R again_ i w1:=⟨_,fun _ _ h=>h,hr i w1 hI⟩
  clear h0 hI
  unfold F_zc at h
  refine Ys (Yp P4 [0,1,5,9] ?_)
  refine Yc h (fun h=> ?_) fun h=> ?_
  ·refine zg (Ys (Yd 1 (Yt (Yn P2 ?_))))
   obtain⟨hp_7,h⟩:=h
   refine Yu 12 (fun pp=> .slice pp l_.len l_.cap) hp_7 ?_
   refine Yi1 h fun h=> ?_
   refine Yl h fun v15 h=> ?_
   refine Yf P2 [0,1,5,17] ?_
   refine Yc h (fun h=> ?_) fun h=> ?_
   ·refine Yp P1 [4] ?_
    exact YS ⟨true,rfl,h⟩
   ·refine zg (Yr (Yf P3 [0,1,5] ?_))
    have hb_:=again__h _ _ h
    exact⟨_,hb_.2,_,Sub.mk K_,(IntKind.i64.wrap (i+1)),rfl,hb_.1,rfl⟩
  ·refine zM 0 (Yp P1 [4] ?_)
   exact YS ⟨false,rfl,h⟩

/-! ### (*towpath/towpathref18.taker).number (function 165) -/

theorem S_9 {t_:OA} {w:World} {R:Int→WP} (h:F_2c t_ R w):C_d t_ w R:=by
 unfold F_2c at h
 refine Yh Tryz.func165 ?_
 ·refine Yp P1 [0] (Ys (Yt (Yn P1 ?_)))
  refine Yv 5 h fun hp_3 h=> ?_
  refine Yn P1 (Yn P1 ?_)
  refine Yl h fun v8 h=> ?_
  refine Yf P1 [0,9] ?_
  refine Yc h (fun h=> ?_) fun h=> ?_
  ·refine Yp P1 [2] ?_
   exact YS ⟨0,rfl,h⟩
  ·refine zg (Yt (Yn P1 ?_))
   refine Yv 11 h fun hp_5 h=> ?_
   refine Yn P1 (Yn P1 ?_)
   refine YL h fun v14 h=> ?_
   refine Ym2 h fun v15 n_ w1 h=> ?_
   refine Yn P3 ?_
   refine Yw pv_ h fun b_ w2 h=> ?_
   refine Yo h fun w3 h=> ?_
   refine Yf P1 [0,3,4] (Yt (Yn P1 ?_))
   refine YL h fun v19 h=> ?_
   refine Yv 18 h fun hp_7 h=> ?_
   refine Yn P1 (Yn P1 ?_)
   refine Yo h fun w4 h=> ?_
   refine Yf [] [0,3,4] (Yt (Yn P2 ?_))
   refine Yl h fun v24 h=> ?_
   refine Yv 22 h fun hp_9 h=> ?_
   refine Yn P1 (Yn P1 ?_)
   refine Yo h fun w5 h=> ?_
   refine Yf [] [0,4] ?_
   refine Ycut (fun l w=>l=[(4,Value.int .u64 n_)]∧F_j R n_ w) ?_ ?_
   ·refine Yt (Yn P1 ?_)
    refine Yv 27 h fun hp_14 h=> ?_
    refine Yn P1 (Yn P1 ?_)
    refine Yl h fun v30 h=> ?_
    refine Yf [.plain,.plain,.plain,.plain,.pick] [0,4,35] ?_
    refine Yc h (fun h=> ?_) fun h=> ?_
    ·refine Yr (Yn P1 ?_)
     refine Yv 36 h fun hp_15 h=> ?_
     refine Yn P1 (Yn P1 ?_)
     refine Yo h fun w7 h=> ?_
     refine Yf [] [4] ?_
     exact⟨_,Sub.mk K_,rfl,h⟩
    ·refine zg ?_
     exact⟨_,Sub.mk K_,rfl,h⟩
   ·rintro _ w6 ⟨rfl,h⟩
    unfold F_j at h
    refine Yp P4 [2] ?_
    exact YS ⟨(IntKind.i64.wrap (Int.tmod n_ 65537)),rfl,h⟩

/-! ### (*towpath/towpathref18.taker).keys (function 166) -/

theorem S_lb {t_:OA} {w:World} {R:Int→WP} (h:F_nd t_ R w):C_Hb t_ w R:=by
 unfold F_nd at h
 refine Yh Tryz.func166 ?_
 ·refine Yp P1 [0] (Ys (Yt (Yn P1 ?_)))
  refine Yv 5 h fun hp_3 h=> ?_
  refine Yn P1 (Yn P1 ?_)
  refine Yl h fun v8 h=> ?_
  refine Yf P1 [0,9] ?_
  refine Yc h (fun h=> ?_) fun h=> ?_
  ·refine Yp P1 [2] ?_
   exact YS ⟨0,rfl,h⟩
  ·refine zg (Yt (Yn P1 ?_))
   refine Yv 11 h fun hp_5 h=> ?_
   refine Yn P1 (Yn P1 ?_)
   refine YL h fun v14 h=> ?_
   refine Ym2 h fun v15 n_ w1 h=> ?_
   refine Yn P3 ?_
   refine Yw pv_ h fun b_ w2 h=> ?_
   refine Yo h fun w3 h=> ?_
   refine Yf P1 [0,3,4] (Yt (Yn P1 ?_))
   refine YL h fun v19 h=> ?_
   refine Yv 18 h fun hp_7 h=> ?_
   refine Yn P1 (Yn P1 ?_)
   refine Yo h fun w4 h=> ?_
   refine Yf [] [0,3,4] (Yt (Yn P2 ?_))
   refine Yl h fun v24 h=> ?_
   refine Yv 22 h fun hp_9 h=> ?_
   refine Yn P1 (Yn P1 ?_)
   refine Yo h fun w5 h=> ?_
   refine Yf [] [4] (Yp P2 [2] ?_)
   exact YS ⟨n_,rfl,h⟩
end
end Go.Proofs.YtjlfdepkphibgaaGreatDoor
