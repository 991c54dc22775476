/- WRITTEN BY PROGRAM (dec.py): for each Go function the clean formula F, the call's contract C, and the proof S that F gives C. -/
import Derived.Test.YtjlfdepkphibgaaGreatDoorRows
import Derived.Test.YtjlfdepkphibgaaGreatDoorGF
namespace Go.Proofs.YtjlfdepkphibgaaGreatDoor
open Go
set_option linter.unusedVariables false
set_option maxRecDepth 100000
set_option maxHeartbeats 4000000
noncomputable section

/-! ### towpath/dump.Decode (function 136) -/
def z4s:=cb_ Tryz.f136
def z5s:=cr_ z4s
def z6s:=cr_ z5s
def z7s:=cr_ z6s
def zyn:=cr_ z7s
def zzn:=cr_ zyn
def zAn:=cr_ zzn
def zgk:=cr_ zAn
def zBn:=cl_ zgk
def zCn:=cr_ zBn
def zDn:=cl_ zCn
def zEn:=cl_ zDn
def zFn:=cr_ zEn
def zGn:=cl_ zFn
def zHn:=cl_ zGn
def zIn:=co_ zHn
def zJn:=cr_ zgk
def zKn:=cr_ zJn
def zhk:=cr_ zKn
def zLn:=cl_ zhk
def zMn:=cl_ zLn
def zNn:=cl_ zMn
def zOn:=cr_ zNn
def zPn:=cl_ zOn
def zQn:=cl_ zPn
def zRn:=cr_ zQn
def zSn:=cr_ zRn
def zTn:=cl_ zSn
def zUn:=cr_ zTn
def zVn:=cl_ zUn
def zWn:=cl_ zVn
def zXn:=cr_ zWn
def zYn:=cl_ zXn
def zZn:=cl_ zYn
def z0n:=co_ zZn
def z1n:=cr_ zhk
def z2n:=cl_ z1n
def z3n:=cl_ z2n
def zYk:=cr_ z3n
def zZk:=cl_ zYk
def z0k:=cl_ zZk
def z1k:=co_ z0k
def zIe:List Nat:=[0,1,2,3,4,5,6,7]
def zJe:List Nat:=[0,1,2,3,4,5,6,7]
def zxe:List Nat:=[0,1,2,3]

theorem S_Jc {b_:Slc} {w:World} {R:T_b→Int→WP} (h:F_9e b_ R w):C_Kc b_ w R:=by
 unfold F_9e at h
 refine Yh Tryz.func136 ?_
 ·refine Yt ?_
  refine Yw pv_ h fun b_1 w1 h=> ?_
  refine Yw pv_ h fun b_2 w2 h=> ?_
  refine Yf [] [0,2,3] (Yt (Yn P1 ?_))
  refine Ym1 h fun v14 w3 h=> ?_
  refine Yw pv_ h fun b_3 w4 h=> ?_
  refine Yo h fun w5 h=> ?_
  refine Yf [] [0,2,3,4] (Yt (Yn P2 ?_))
  refine Yw pv_ h fun b_4 w6 h=> ?_
  refine Yo h fun w7 h=> ?_
  refine Yf [] [2,3,4,5] (Yt (Yn P1 ?_))
  refine Yw pv_ h fun b_5 w8 h=> ?_
  refine Yo h fun w9 h=> ?_
  refine Yf [] [2,3,4,6] (Yt (Yn P1 ?_))
  refine Yw pv_ h fun b_6 w10 h=> ?_
  refine Yo h fun w11 h=> ?_
  refine Yf [] [2,3,4,6,7] (Yp P2 [2,3,4,6,7,8] (Yt ?_))
  refine Yl h fun v20 h=> ?_
  refine zgb (fo:=(Operand.tmp 20)) (aa:=#[]) (ts:=#[]) (fv:=v20) (ty:=3) (dst:=some 21) #[] K_ K_ K_ (zU.mono h ?_)
  rintro _ w12 ⟨v21,rfl,h⟩
  refine⟨_,rfl,?_⟩
  refine Yn P1 ?_
  refine Yo h fun w13 h=> ?_
  refine Yf [] [2,3,4,6,7,8] (Ys (Yt ?_))
  refine Yl h fun v23 h=> ?_
  refine zgb (fo:=(Operand.tmp 23)) (aa:=#[]) (ts:=#[]) (fv:=v23) (ty:=3) (dst:=some 24) #[] K_ K_ K_ (zU.mono h ?_)
  rintro _ w14 ⟨v24,rfl,h⟩
  refine⟨_,rfl,?_⟩
  refine Yf P1 [2,3,4,6,7,8,9] (Yd 0 ?_)
  obtain⟨I,μ,h0,hr⟩:=h
  refine zN (fun m l w=>∃(n_:Int),l=[(2,pv_ b_1),(3,pv_ b_2),(4,pv_ b_3),(6,pv_ b_5),(7,pv_ b_6),(8,Value.func (.func 160) #[] #[pv_ b_6,pv_ b_2,pv_ b_3,pv_ b_5]),(9,Vi n_)]∧I n_ w∧μ n_ w=m) ⟨v24,rfl,h0,rfl⟩ ?_
  rintro _ _ w15 ⟨n_,rfl,hI,rfl⟩
  obtain⟨again_,again__h,h⟩:∃ again_:Int→WP,(∀ n_' w',again_ n_' w'→I n_' w'∧μ n_' w'<μ n_ w15)∧F_Ed R b_1 b_2 b_3 b_5 b_6 again_ n_ w15:=⟨_,fun _ _ h=>h,hr n_ w15 hI⟩
  clear h0 hI
  unfold F_Ed at h
  refine Ys ?_
  refine Ycut (fun l w=>∃(t30:Bool),l=[(2,pv_ b_1),(3,pv_ b_2),(4,pv_ b_3),(6,pv_ b_5),(7,pv_ b_6),(8,Value.func (.func 160) #[] #[pv_ b_6,pv_ b_2,pv_ b_3,pv_ b_5]),(9,Vi n_),(30,Vo t30)]∧F_3b R b_1 b_2 b_3 b_5 b_6 n_ again_ t30 w) ?_ ?_
  ·refine Yr (Yn P3 ?_)
   refine Yspl 27 h (fun h=> ?_) fun h=> ?_
   ·refine Yl h fun v28 h=> ?_
    refine Yf [.sure,.plain] [2,3,4,6,7,8,9,30] ?_
    exact⟨_,Sub.mk K_,(v28==0),rfl,h⟩
   ·refine Yf [.skip,.skip,.plain] [2,3,4,6,7,8,9,30] ?_
    exact⟨_,Sub.mk K_,false,rfl,h⟩
  ·rintro _ w16 ⟨t30,rfl,h⟩
   unfold F_3b at h
   refine Yc h (fun h=> ?_) fun h=> ?_
   ·refine zg (Ys (Yd 1 ?_))
    refine zm (id:=10) (ops:=zIn) zIe K_ K_ K_ K_ (fun w17 hw=> ?_)
    replace h:=h w17 hw
    clear hw
    refine Mn P1 ?_
    refine Ml 1 h fun v34 hc h=> ?_
    refine Ml 2 h fun v35 hc h=> ?_
    refine zEh (fo:=(Operand.tmp 35)) (aa:=#[]) (ts:=#[]) (fv:=v35) (ty:=3) (dst:=some 36) 3 [2] [(1,fun w'=>w'.cell? ⟨b_1,1,none⟩=some (sv_ v34))] #[] K_ K_ K_ K_ K_ K_ K_ (zU.mono h ?_)
    rintro _ w18 ⟨v36,rfl,h⟩
    obtain⟨hk0,h⟩:=h
    refine⟨_,rfl,⟨hk0,trivial⟩,?_⟩
    refine zzd (op:=(Op.buildSlice 56 1 #[(0,(Operand.tmp 36))])) (ty:=56) (dst:=some 37) 4 [3,2] [(1,fun w'=>w'.cell? ⟨b_1,1,none⟩=some (sv_ v34))] (fun bb=>Value.slice (some ⟨bb,0,none⟩) 1 1) (Obj.cells ([Vi v36]).toArray y_i (0,0)) K_ K_ K_ K_ K_ K_ (fun b_7 w19 hb hw=> ?_)
    replace h:=h b_7 w19 hb hw
    clear hb hw
    obtain⟨hk0,h⟩:=h
    refine⟨⟨hk0,trivial⟩,?_⟩
    obtain⟨src,hs,h⟩:=h
    refine z1b (t:=56) (tx:=56) (e:=3) (a:=(Operand.tmp 34)) (xo:=(Operand.tmp 37)) (s:=v34) (x:=(Slc.mk (some ⟨b_7,0,none⟩) 1 1)) (sz:=1) (by_:=8) (zs:=[Vi 0]) (ty:=56) (dst:=some 38) 5 [1,3,4,0,2] [] src K_ K_ K_ K_ K_ K_ K_ K_ K_ K_ K_ K_ K_ hs (zj.mono h (fun v38 w20 h=> ?_))
    refine⟨trivial,?_⟩
    refine Mn P1 ?_
    refine zoc 7 [0,1,2,3,4,5,6] [] h fun w21 h=> ?_
    refine⟨trivial,?_⟩
    refine Mf [] [2,3,4,6,7,8,9] ?_
    refine Yr (Yf P3 [2,3,4,6,7,8,9] ?_)
    have hb_:=again__h _ _ h
    exact⟨_,hb_.2,_,Sub.mk K_,(IntKind.i64.wrap (n_ - 1)),rfl,hb_.1,rfl⟩
   ·refine zM 0 (Yt ?_)
    refine Yl h fun v40 h=> ?_
    refine Ym1 h fun v41 w22 h=> ?_
    refine Yf P1 [2,3,4,6,7,8,10] ?_
    refine Ycut (fun l w=>l=[(2,pv_ b_1),(3,pv_ b_2),(4,pv_ b_3),(6,pv_ b_5),(7,pv_ b_6),(8,Value.func (.func 160) #[] #[pv_ b_6,pv_ b_2,pv_ b_3,pv_ b_5]),(10,Value.int .u64 v41)]∧F_2b R b_1 b_2 b_3 b_5 b_6 v41 w) ?_ ?_
    ·refine Yt ?_
     refine Yl h fun v42 h=> ?_
     refine Yf P1 [2,3,4,6,7,8,10,43] ?_
     refine Yc h (fun h=> ?_) fun h=> ?_
     ·refine Yr ?_
      refine Yl h fun v44 h=> ?_
      refine zgb (fo:=(Operand.tmp 44)) (aa:=#[(Operand.const (Vo false)),(Operand.const (Value.int IntKind.i64 0))]) (ts:=#[4,25]) (fv:=v44) (ty:=4) (dst:=some 45) #[Vo false,Vi 0] K_ K_ K_ (zU.mono h ?_)
      rintro _ w53 ⟨v45,rfl,h⟩
      refine⟨_,rfl,?_⟩
      refine Yf [] [2,3,4,6,7,8,10] ?_
      exact⟨_,Sub.mk K_,rfl,h⟩
     ·refine zg ?_
      exact⟨_,Sub.mk K_,rfl,h⟩
    ·rintro _ w23 ⟨rfl,h⟩
     unfold F_2b at h
     refine Ycut (fun l w=>l=[(2,pv_ b_1),(3,pv_ b_2),(4,pv_ b_3)]∧F_Db R b_1 b_2 b_3 w) ?_ ?_
     ·refine Yd 2 ?_
      obtain⟨I,μ,h0,hr⟩:=h
      refine zN (fun m l w=>∃(keys:Int),l=[(2,pv_ b_1),(3,pv_ b_2),(4,pv_ b_3),(6,pv_ b_5),(7,pv_ b_6),(8,Value.func (.func 160) #[] #[pv_ b_6,pv_ b_2,pv_ b_3,pv_ b_5]),(10,Value.int .u64 keys)]∧I keys w∧μ keys w=m) ⟨v41,rfl,h0,rfl⟩ ?_
      rintro _ _ w36 ⟨keys,rfl,hI,rfl⟩
      obtain⟨again_1,again_1_h,h⟩:∃ again_1:Int→WP,(∀ keys' w',again_1 keys' w'→I keys' w'∧μ keys' w'<μ keys w36)∧F_8d R b_1 b_2 b_3 b_5 b_6 again_1 keys w36:=⟨_,fun _ _ h=>h,hr keys w36 hI⟩
      clear h0 hI
      unfold F_8d at h
      refine Ys ?_
      refine Ycut (fun l w=>∃(t51:Bool),l=[(2,pv_ b_1),(3,pv_ b_2),(4,pv_ b_3),(6,pv_ b_5),(7,pv_ b_6),(8,Value.func (.func 160) #[] #[pv_ b_6,pv_ b_2,pv_ b_3,pv_ b_5]),(10,Value.int .u64 keys),(51,Vo t51)]∧F_1b R b_1 b_2 b_3 b_5 b_6 keys again_1 t51 w) ?_ ?_
      ·refine Yr (Yn P3 ?_)
       refine Yspl 48 h (fun h=> ?_) fun h=> ?_
       ·refine Yl h fun v49 h=> ?_
        refine Yf [.sure,.plain] [2,3,4,6,7,8,10,51] ?_
        exact⟨_,Sub.mk K_,(v49==0),rfl,h⟩
       ·refine Yf [.skip,.skip,.plain] [2,3,4,6,7,8,10,51] ?_
        exact⟨_,Sub.mk K_,false,rfl,h⟩
      ·rintro _ w37 ⟨t51,rfl,h⟩
       unfold F_1b at h
       refine Yc h (fun h=> ?_) fun h=> ?_
       ·refine zg (Ys (Yd 3 (Yt ?_)))
        refine Yl h fun v54 h=> ?_
        refine Ym1 h fun v55 w38 h=> ?_
        refine Yn P1 ?_
        refine Yw pv_ h fun b_8 w39 h=> ?_
        refine Yo h fun w40 h=> ?_
        refine Yf [] [2,3,4,6,7,8,10,11] (Ys (Yt ?_))
        refine Yl h fun v57 h=> ?_
        refine zgb (fo:=(Operand.tmp 57)) (aa:=#[(Operand.const (Vo false)),(Operand.const (Value.int IntKind.i64 0))]) (ts:=#[4,25]) (fv:=v57) (ty:=4) (dst:=some 58) #[Vo false,Vi 0] K_ K_ K_ (zU.mono h ?_)
        rintro _ w41 ⟨v58,rfl,h⟩
        refine⟨_,rfl,?_⟩
        refine Yf [] [2,3,4,6,7,8,10,11,58] ?_
        refine Yc h (fun h=> ?_) fun h=> ?_
        ·refine zM 2 ?_
         exact⟨_,Sub.mk K_,rfl,h⟩
        ·refine zg (Ys (Yt ?_))
         refine Yl h fun v59 h=> ?_
         refine zgb (fo:=(Operand.tmp 59)) (aa:=#[]) (ts:=#[]) (fv:=v59) (ty:=3) (dst:=some 60) #[] K_ K_ K_ (zU.mono h ?_)
         rintro _ w42 ⟨v60,rfl,h⟩
         refine⟨_,rfl,?_⟩
         refine Yf P1 [2,3,4,6,7,8,10,11,12] (Yd 4 ?_)
         obtain⟨I,μ,h0,hr⟩:=h
         refine zN (fun m l w=>∃(k_:Int),l=[(2,pv_ b_1),(3,pv_ b_2),(4,pv_ b_3),(6,pv_ b_5),(7,pv_ b_6),(8,Value.func (.func 160) #[] #[pv_ b_6,pv_ b_2,pv_ b_3,pv_ b_5]),(10,Value.int .u64 keys),(11,pv_ b_8),(12,Vi k_)]∧I k_ w∧μ k_ w=m) ⟨v60,rfl,h0,rfl⟩ ?_
         rintro _ _ w43 ⟨k_,rfl,hI,rfl⟩
         obtain⟨again_2,again_2_h,h⟩:∃ again_2:Int→WP,(∀ k_' w',again_2 k_' w'→I k_' w'∧μ k_' w'<μ k_ w43)∧F_Dd b_1 b_2 b_3 b_5 b_6 keys again_1 b_8 again_2 k_ w43:=⟨_,fun _ _ h=>h,hr k_ w43 hI⟩
         clear h0 hI
         unfold F_Dd at h
         refine Ys ?_
         refine Ycut (fun l w=>∃(t66:Bool),l=[(2,pv_ b_1),(3,pv_ b_2),(4,pv_ b_3),(6,pv_ b_5),(7,pv_ b_6),(8,Value.func (.func 160) #[] #[pv_ b_6,pv_ b_2,pv_ b_3,pv_ b_5]),(10,Value.int .u64 keys),(11,pv_ b_8),(12,Vi k_),(66,Vo t66)]∧F_0b b_1 b_2 b_3 b_5 b_6 keys again_1 b_8 k_ again_2 t66 w) ?_ ?_
         ·refine Yr (Yn P3 ?_)
          refine Yspl 63 h (fun h=> ?_) fun h=> ?_
          ·refine Yl h fun v64 h=> ?_
           refine Yf [.sure,.plain] [2,3,4,6,7,8,10,11,12,66] ?_
           exact⟨_,Sub.mk K_,(v64==0),rfl,h⟩
          ·refine Yf [.skip,.skip,.plain] [2,3,4,6,7,8,10,11,12,66] ?_
           exact⟨_,Sub.mk K_,false,rfl,h⟩
         ·rintro _ w44 ⟨t66,rfl,h⟩
          unfold F_0b at h
          refine Yc h (fun h=> ?_) fun h=> ?_
          ·refine zg (Ys (Yd 5 ?_))
           refine zm (id:=21) (ops:=z0n) zJe K_ K_ K_ K_ (fun w45 hw=> ?_)
           replace h:=h w45 hw
           clear hw
           refine Mn P1 ?_
           refine Ml 1 h fun v70 hc h=> ?_
           refine Mn P1 ?_
           refine zo (op:=(Op.call (Call.mk (Callee.value (Operand.tmp 71)) #[] #[]))) (ty:=130) (dst:=some 72) 3 [2] [(1,fun w'=>w'.cell? ⟨b_8,1,none⟩=some (sv_ v70))] 160 #[pv_ b_6,pv_ b_2,pv_ b_3,pv_ b_5] K_ K_ K_ K_ K_ (fun ww=>by kernel_rfl) (Calls.mono h ?_)
           rintro _ w46 ⟨v72,rfl,h⟩
           obtain⟨hk0,h⟩:=h
           refine⟨_,rfl,⟨hk0,trivial⟩,?_⟩
           refine zzd (op:=(Op.buildSlice 126 1 #[(0,(Operand.tmp 72))])) (ty:=126) (dst:=some 73) 4 [3,2] [(1,fun w'=>w'.cell? ⟨b_8,1,none⟩=some (sv_ v70))] (fun bb=>Value.slice (some ⟨bb,0,none⟩) 1 1) (Obj.cells ([Vi v72.Number,Value.string v72.Val,Vo v72.Drop]).toArray y_c (0,0)) K_ K_ K_ K_ K_ K_ (fun b_9 w47 hb hw=> ?_)
           replace h:=h b_9 w47 hb hw
           clear hb hw
           obtain⟨hk0,h⟩:=h
           refine⟨⟨hk0,trivial⟩,?_⟩
           obtain⟨src,hs,h⟩:=h
           refine z1b (t:=126) (tx:=126) (e:=130) (a:=(Operand.tmp 70)) (xo:=(Operand.tmp 73)) (s:=v70) (x:=(Slc.mk (some ⟨b_9,0,none⟩) 1 1)) (sz:=3) (by_:=32) (zs:=[Vi 0,Value.string ByteArray.empty,Vo false]) (ty:=126) (dst:=some 74) 5 [1,3,4,0,2] [] src K_ K_ K_ K_ K_ K_ K_ K_ K_ K_ K_ K_ K_ hs (zj.mono h (fun v74 w48 h=> ?_))
           refine⟨trivial,?_⟩
           refine Mn P1 ?_
           refine zoc 7 [0,1,2,3,4,5,6] [] h fun w49 h=> ?_
           refine⟨trivial,?_⟩
           refine Mf [] [2,3,4,6,7,8,10,11,12] ?_
           refine Yr (Yf P3 [2,3,4,6,7,8,10,11,12] ?_)
           have hb_:=again_2_h _ _ h
           exact⟨_,hb_.2,_,Sub.mk K_,(IntKind.i64.wrap (k_ - 1)),rfl,hb_.1,rfl⟩
          ·refine zM 4 (Yr (Yn P1 ?_))
           refine Yl h fun v77 h=> ?_
           refine YL h fun v78 h=> ?_
           refine Yw (sl_ 1 1) h fun b_10 w50 h=> ?_
           obtain⟨src,hs,h⟩:=h
           refine zH (t:=57) (tx:=57) (e:=141) (a:=(Operand.tmp 77)) (xo:=(Operand.tmp 79)) (s:=v77) (x:=(Slc.mk (some ⟨b_10,0,none⟩) 1 1)) (sz:=2) (by_:=40) (zs:=[Value.string ByteArray.empty,Value.slice none 0 0]) (ty:=57) (dst:=some 80)  src K_ K_ K_ K_ K_ K_ K_ K_ K_ hs (zj.mono h (fun v80 w51 h=> ?_))
           refine Yn P1 ?_
           refine Yo h fun w52 h=> ?_
           refine Yf [] [2,3,4,6,7,8,10] (Yr (Yf P3 [2,3,4,6,7,8,10] ?_))
           have hb_:=again_1_h _ _ h
           exact⟨_,hb_.2,_,Sub.mk K_,(IntKind.u64.wrap (keys - 1)),rfl,hb_.1,rfl⟩
       ·refine zM 2 ?_
        exact⟨_,Sub.mk K_,rfl,h⟩
     ·rintro _ w24 ⟨rfl,h⟩
      unfold F_Db at h
      refine Ys (Yd 6 (Yt ?_))
      refine Yl h fun v83 h=> ?_
      refine Yf P2 [2,3,4,82] ?_
      refine Yc h (fun h=> ?_) fun h=> ?_
      ·refine Ys ?_
       refine zm (id:=24) (ops:=z1k) zxe K_ K_ K_ K_ (fun w25 hw=> ?_)
       replace h:=h w25 hw
       clear hw
       refine Mn P1 ?_
       refine Ml 1 h fun v86 hc h=> ?_
       refine zoc 2 [0] [(1,fun w'=>w'.cell? ⟨b_2,0,none⟩=some (Vi v86))] h fun w26 h=> ?_
       obtain⟨hk0,h⟩:=h
       refine⟨⟨hk0,trivial⟩,?_⟩
       refine zoc 3 [0,1,2] [] h fun w27 h=> ?_
       refine⟨trivial,?_⟩
       refine Mf [] [2,3] ?_
       obtain⟨res,hc_res,h⟩:=h
       obtain⟨res1,hc_res1,h⟩:=h
       exact YTg (rs:=[(ResultVar.cell 2 59),(ResultVar.cell 3 25)]) (vs:=[Value.agg #[Vi res.Mark,sv_ res.Beyond,sv_ res.Held],Vi res1]) (⟨b_1,0,[Vi res.Mark,sv_ res.Beyond,sv_ res.Held],K_,hc_res,(zx (k:=3) K_ K_),.inl ⟨K_,rfl⟩,⟨b_2,0,[Vi res1],K_,hc_res1,(zx (k:=1) K_ K_),.inr ⟨K_,rfl⟩,trivial⟩⟩) ⟨res,res1,rfl,h⟩
      ·refine Yt ?_
       refine Yl h fun v88 h=> ?_
       refine Ym1 h fun v89 w28 h=> ?_
       refine Yf P2 [2,3,87] ?_
       refine Yc h (fun h=> ?_) fun h=> ?_
       ·refine Yt (Yn P1 ?_)
        refine Yo h fun w29 h=> ?_
        refine Yo h fun w30 h=> ?_
        refine Yf [] [2,3] ?_
        obtain⟨res2,hc_res2,h⟩:=h
        obtain⟨res3,hc_res3,h⟩:=h
        exact YTg (rs:=[(ResultVar.cell 2 59),(ResultVar.cell 3 25)]) (vs:=[Value.agg #[Vi res2.Mark,sv_ res2.Beyond,sv_ res2.Held],Vi res3]) (⟨b_1,0,[Vi res2.Mark,sv_ res2.Beyond,sv_ res2.Held],K_,hc_res2,(zx (k:=3) K_ K_),.inl ⟨K_,rfl⟩,⟨b_2,0,[Vi res3],K_,hc_res3,(zx (k:=1) K_ K_),.inr ⟨K_,rfl⟩,trivial⟩⟩) ⟨res2,res3,rfl,h⟩
       ·refine Yt ?_
        refine YL h fun v93 h=> ?_
        refine Ym1 h fun v94 w31 h=> ?_
        refine Yf P2 [2,3,92] ?_
        refine Yc h (fun h=> ?_) fun h=> ?_
        ·refine Yt (Yn P1 ?_)
         refine Yo h fun w32 h=> ?_
         refine Yo h fun w33 h=> ?_
         refine Yf [] [2,3] ?_
         obtain⟨res4,hc_res4,h⟩:=h
         obtain⟨res5,hc_res5,h⟩:=h
         exact YTg (rs:=[(ResultVar.cell 2 59),(ResultVar.cell 3 25)]) (vs:=[Value.agg #[Vi res4.Mark,sv_ res4.Beyond,sv_ res4.Held],Vi res5]) (⟨b_1,0,[Vi res4.Mark,sv_ res4.Beyond,sv_ res4.Held],K_,hc_res4,(zx (k:=3) K_ K_),.inl ⟨K_,rfl⟩,⟨b_2,0,[Vi res5],K_,hc_res5,(zx (k:=1) K_ K_),.inr ⟨K_,rfl⟩,trivial⟩⟩) ⟨res4,res5,rfl,h⟩
        ·refine zg (Yt ?_)
         refine YL h fun v97 h=> ?_
         refine Yo h fun w34 h=> ?_
         refine Yo h fun w35 h=> ?_
         refine Yf [] [2,3] ?_
         obtain⟨res6,hc_res6,h⟩:=h
         obtain⟨res7,hc_res7,h⟩:=h
         exact YTg (rs:=[(ResultVar.cell 2 59),(ResultVar.cell 3 25)]) (vs:=[Value.agg #[Vi res6.Mark,sv_ res6.Beyond,sv_ res6.Held],Vi res7]) (⟨b_1,0,[Vi res6.Mark,sv_ res6.Beyond,sv_ res6.Held],K_,hc_res6,(zx (k:=3) K_ K_),.inl ⟨K_,rfl⟩,⟨b_2,0,[Vi res7],K_,hc_res7,(zx (k:=1) K_ K_),.inr ⟨K_,rfl⟩,trivial⟩⟩) ⟨res6,res7,rfl,h⟩

/-! ### towpath/dump.Decode$1 (function 155) -/
def z8s:=cb_ Tryz.f155
def z9s:=cr_ z8s
def zat:=cl_ z9s
def zbt:=cl_ zat
def zct:=cr_ zbt
def z4n:=cr_ zct
def z5n:=cl_ z4n
def z6n:=co_ z5n
def zhe:List Nat:=[0,2,1,3,4]

theorem S_Ac {is:Bool} {f:Int} {t2:OA} {t3:OA} {t4:OA} {w:World} {R:Bool→WP} (h:F_Le is f t2 t3 t4 R w):C_Dc is f t2 t3 t4 w R:=by
 unfold F_Le at h
 refine Yh Tryz.func155 ?_
 ·refine Yp P1 [0,1,2,3,4] ?_
  refine Ycut (fun l w=>l=[(2,Vp t2),(3,Vp t3),(4,Vp t4)]∧F_x t2 t3 t4 R w) ?_ ?_
  ·refine Yd 0 (Yt ?_)
   refine Yv 2 h fun hp_20 h=> ?_
   refine Yl h fun v9 h=> ?_
   refine Yn P2 (Yu 2 (fun pp=> .pointer pp) hp_20.symm ?_)
   refine Yf [] [0,1,2,3,4,8] ?_
   refine Yc h (fun h=> ?_) fun h=> ?_
   ·refine zg ?_
    exact⟨_,Sub.mk K_,rfl,h⟩
   ·refine Ys ?_
    refine zm (id:=2) (ops:=z6n) zhe K_ K_ K_ K_ (fun w4 hw=> ?_)
    replace h:=h w4 hw
    clear hw
    refine Mv 3 h fun hp_23 h=> ?_
    refine Ml 0 h fun v12 hc h=> ?_
    refine Mv 4 h fun hp_24 h=> ?_
    refine Ml 2 h fun v14 hc h=> ?_
    refine zo (op:=(Op.call (Call.mk (Callee.value (Operand.func 156)) #[(Operand.tmp 12)] #[210]))) (ty:=3) (dst:=some 13) 1 [0] [(2,fun w'=>w'.cell? ⟨(pblk t4),(poff t4),none⟩=some (Vi v14))] 156 #[Vp v12] K_ K_ K_ K_ K_ (fun ww=>by kernel_rfl) (Calls.mono h ?_)
    rintro _ w5 ⟨v13,rfl,h⟩
    obtain⟨hk0,h⟩:=h
    refine⟨_,rfl,⟨hk0,trivial⟩,?_⟩
    refine Mn P2 ?_
    refine Mu 3 (fun pp=> .pointer pp) hp_23.symm ?_
    refine Mu 4 (fun pp=> .pointer pp) hp_24.symm ?_
    refine Mf [] [0,1,2,3,4,11] ?_
    refine Yc h (fun h=> ?_) fun h=> ?_
    ·refine Yt ?_
     refine Yv 3 h fun hp_27 h=> ?_
     refine Yl h fun v16 h=> ?_
     refine Ym1 h fun v17 w6 h=> ?_
     refine Yv 2 h fun hp_28 h=> ?_
     refine Yo h fun w7 h=> ?_
     refine Yu 3 (fun pp=> .pointer pp) hp_27.symm ?_
     refine Yu 2 (fun pp=> .pointer pp) hp_28.symm ?_
     refine Yf [] [2,3,4] (Yt ?_)
     refine Yv 2 h fun hp_30 h=> ?_
     refine Yl h fun v18 h=> ?_
     refine Yn P1 (Yu 2 (fun pp=> .pointer pp) hp_30.symm ?_)
     refine Yf [] [2,3,4,19] ?_
     refine Yc h (fun h=> ?_) fun h=> ?_
     ·refine Yr ?_
      refine Yv 2 h fun hp_31 h=> ?_
      refine Yo h fun w8 h=> ?_
      refine Yu 2 (fun pp=> .pointer pp) hp_31.symm ?_
      refine Yf [] [2,3,4] ?_
      exact⟨_,Sub.mk K_,rfl,h⟩
     ·refine zg ?_
      exact⟨_,Sub.mk K_,rfl,h⟩
    ·refine Yp P2 [1,2,3,4,20] ?_
     refine Yc h (fun h=> ?_) fun h=> ?_
     ·refine Yr (Yn P1 ?_)
      refine Yv 2 h fun hp_32 h=> ?_
      refine Yo h fun w9 h=> ?_
      refine Yu 2 (fun pp=> .pointer pp) hp_32.symm ?_
      refine Yf [] [2,3,4] ?_
      exact⟨_,Sub.mk K_,rfl,h⟩
     ·refine zg ?_
      exact⟨_,Sub.mk K_,rfl,h⟩
  ·rintro _ w1 ⟨rfl,h⟩
   unfold F_x at h
   refine Yt ?_
   refine Yv 3 h fun hp_16 h=> ?_
   refine Yl h fun v23 h=> ?_
   refine Ym1 h fun v24 w2 h=> ?_
   refine Yv 4 h fun hp_17 h=> ?_
   refine Yo h fun w3 h=> ?_
   refine Yf [] [2] (Yt ?_)
   refine Yv 2 h fun hp_18 h=> ?_
   refine Yl h fun v25 h=> ?_
   refine Yf P2 [7] ?_
   exact YS ⟨(v25 != 0),rfl,h⟩
end
end Go.Proofs.YtjlfdepkphibgaaGreatDoor
