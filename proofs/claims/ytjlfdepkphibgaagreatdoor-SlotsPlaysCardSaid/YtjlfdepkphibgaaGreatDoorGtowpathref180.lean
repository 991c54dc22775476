/- WRITTEN BY PROGRAM (dec.py): for each Go function the clean formula F, the call's contract C, and the proof S that F gives C. -/
import Derived.Test.YtjlfdepkphibgaaGreatDoorRows
import Derived.Test.YtjlfdepkphibgaaGreatDoorGF
namespace Go.Proofs.YtjlfdepkphibgaaGreatDoor
open Go
set_option linter.unusedVariables false
set_option maxRecDepth 100000
set_option maxHeartbeats 4000000
noncomputable section

/-! ### towpath/towpathref18.Encode (function 78) -/

theorem S_Vb {s:T_b} {w:World} {R:Slc→Int→WP} (h:F_Rd s R w):C_cc s w R:=by
 unfold F_Rd at h
 refine Yh Tryz.func78 ?_
 ·refine Yt ?_
  refine Yw pv_ h fun b_ w1 h=> ?_
  refine Yf P2 [1] (Ys (Yt ?_))
  refine YL h fun v9 h=> ?_
  refine Ym1 h fun v10 w2 h=> ?_
  refine Yf P1 [1,11] ?_
  refine Yc h (fun h=> ?_) fun h=> ?_
  ·refine Yp P2 [2,3] ?_
   exact YT2 ⟨(Slc.mk none 0 0),1,rfl,h⟩
  ·refine zg (Yt (Yn P1 ?_))
   refine Yl h fun v13 h=> ?_
   refine Yn P1 ?_
   refine Ym1 h fun v15 w3 h=> ?_
   refine Yf P1 [1,4] (Yt (Yn P2 ?_))
   refine Yl h fun v18 h=> ?_
   refine Yn P2 ?_
   refine Ym1 h fun v21 w4 h=> ?_
   refine Yf P1 [1,4] (Ys (Yp P1 [1,4,5] (Yd 0 ?_)))
   obtain⟨I,μ,h0,hr⟩:=h
   refine zN (fun m l w=>∃(b_1:Slc) (i:Int),l=[(1,pv_ b_),(4,sv_ b_1),(5,Vi i)]∧I b_1 i w∧μ b_1 i w=m) ⟨v21,0,rfl,h0,rfl⟩ ?_
   rintro _ _ w5 ⟨b_1,i,rfl,hI,rfl⟩
   obtain⟨again_,again__h,h⟩:∃ again_:Slc→Int→WP,(∀ b_1' i' w',again_ b_1' i' w'→I b_1' i' w'∧μ b_1' i' w'<μ b_1 i w5)∧F_ic R b_ again_ b_1 i w5:=⟨_,fun _ _ _ h=>h,hr b_1 i w5 hI⟩
   clear h0 hI
   unfold F_ic at h
   refine Ys (Yt (Yn P2 ?_))
   refine Yl h fun v24 h=> ?_
   refine Yf P2 [1,4,5,26] ?_
   refine Yc h (fun h=> ?_) fun h=> ?_
   ·refine zg (Ys (Yd 1 (Yr (Yn P2 ?_))))
    refine Yl h fun v31 h=> ?_
    refine Yn P1 ?_
    obtain⟨hp_3,h⟩:=h
    refine Yu 31 (fun pp=> .slice pp v31.len v31.cap) hp_3 ?_
    refine Yi1 h fun h=> ?_
    refine Yl h fun v34 h=> ?_
    refine Yn P1 ?_
    refine Ym1 h fun v36 w6 h=> ?_
    refine Yf P1 [1,4,5] (Yr (Yf P3 [1,4,5] ?_))
    have hb_:=again__h _ _ _ h
    exact⟨_,hb_.2,_,Sub.mk K_,v36,(IntKind.i64.wrap (i+1)),rfl,hb_.1,rfl⟩
   ·refine zM 0 (Yt (Yn P2 ?_))
    refine Yl h fun v39 h=> ?_
    refine Yn P2 ?_
    refine Ym1 h fun v42 w7 h=> ?_
    refine Yf P1 [1,4] (Ys (Yp P1 [1,4,6] (Yd 2 ?_)))
    obtain⟨I,μ,h0,hr⟩:=h
    refine zN (fun m l w=>∃(b_2:Slc) (i1:Int),l=[(1,pv_ b_),(4,sv_ b_2),(6,Vi i1)]∧I b_2 i1 w∧μ b_2 i1 w=m) ⟨v42,0,rfl,h0,rfl⟩ ?_
    rintro _ _ w8 ⟨b_2,i1,rfl,hI,rfl⟩
    obtain⟨again_1,again_1_h,h⟩:∃ again_1:Slc→Int→WP,(∀ b_2' i1' w',again_1 b_2' i1' w'→I b_2' i1' w'∧μ b_2' i1' w'<μ b_2 i1 w8)∧F_hc R b_ again_1 b_2 i1 w8:=⟨_,fun _ _ _ h=>h,hr b_2 i1 w8 hI⟩
    clear h0 hI
    unfold F_hc at h
    refine Ys (Yt (Yn P2 ?_))
    refine Yl h fun v45 h=> ?_
    refine Yf P2 [1,4,6,47] ?_
    refine Yc h (fun h=> ?_) fun h=> ?_
    ·refine zg (Ys (Yd 3 (Yt (Yn P2 ?_))))
     refine Yl h fun v52 h=> ?_
     refine Yn P1 ?_
     obtain⟨hp_59,h⟩:=h
     refine Yu 52 (fun pp=> .slice pp v52.len v52.cap) hp_59 ?_
     refine Yi h fun h=> ?_
     refine Yn P1 ?_
     refine Yl h fun v56 h=> ?_
     refine Ym1 h fun v57 w9 h=> ?_
     refine Yf P1 [1,4,6] (Yt (Yn P1 ?_))
     refine Yl h fun v59 h=> ?_
     refine Yn P1 ?_
     obtain⟨hp_61,h⟩:=h
     refine Yu 59 (fun pp=> .slice pp v59.len v59.cap) hp_61 ?_
     refine Yi h fun h=> ?_
     refine Yn P1 ?_
     refine Yl h fun v h=> ?_
     refine Yf P1 [1,4,6,7] (Yt (Yn P4 ?_))
     refine Ym1 h fun v68 w10 h=> ?_
     refine Yf P1 [1,4,6,7] (Yp P1 [1,4,6,7,8] (Yd 4 ?_))
     obtain⟨I,μ,h0,hr⟩:=h
     refine zN (fun m l w=>∃(b_3:Slc) (k_:Int),l=[(1,pv_ b_),(4,sv_ b_3),(6,Vi i1),(7,sv_ v),(8,Vi k_)]∧I b_3 k_ w∧μ b_3 k_ w=m) ⟨v68,0,rfl,h0,rfl⟩ ?_
     rintro _ _ w11 ⟨b_3,k_,rfl,hI,rfl⟩
     obtain⟨again_2,again_2_h,h⟩:∃ again_2:Slc→Int→WP,(∀ b_3' k_' w',again_2 b_3' k_' w'→I b_3' k_' w'∧μ b_3' k_' w'<μ b_3 k_ w11)∧F_Bb i1 again_1 v again_2 b_3 k_ w11:=⟨_,fun _ _ _ h=>h,hr b_3 k_ w11 hI⟩
     clear h0 hI
     unfold F_Bb at h
     refine Ys (Yp P4 [1,4,6,7,8,72] ?_)
     refine Yc h (fun h=> ?_) fun h=> ?_
     ·refine zg ?_
      refine Ycut (fun l w=>∃(b_4:Slc),l=[(1,pv_ b_),(4,sv_ b_4),(6,Vi i1),(7,sv_ v),(8,Vi k_)]∧F_N k_ again_2 b_4 w) ?_ ?_
      ·refine Yd 5 (Yt (Yn P3 ?_))
       obtain⟨hp_70,h⟩:=h
       refine Yu 76 (fun pp=> .slice pp v.len v.cap) hp_70 ?_
       refine Yi h fun h=> ?_
       refine Yn P1 ?_
       refine Yl h fun v80 h=> ?_
       refine Yn P1 ?_
       refine Ym1 h fun v82 w13 h=> ?_
       refine Yf P1 [1,4,6,7,8] (Ys (Yt (Yn P2 ?_)))
       obtain⟨hp_74,h⟩:=h
       refine Yu 83 (fun pp=> .slice pp v.len v.cap) hp_74 ?_
       refine Yi h fun h=> ?_
       refine Yn P1 ?_
       refine Yl h fun v87 h=> ?_
       refine Yf [] [1,4,6,7,8,87] ?_
       refine Yc h (fun h=> ?_) fun h=> ?_
       ·refine Yt (Yn P1 ?_)
        refine Yw (sl_ 1 1) h fun b_5 w14 h=> ?_
        obtain⟨src,hs,h⟩:=h
        refine zH (t:=38) (tx:=38) (e:=5) (a:=(Operand.tmp 88)) (xo:=(Operand.tmp 89)) (s:=v82) (x:=(Slc.mk (some ⟨b_5,0,none⟩) 1 1)) (sz:=1) (by_:=1) (zs:=[Value.int .u8 0]) (ty:=38) (dst:=some 90)  src K_ K_ K_ K_ K_ K_ K_ K_ K_ hs (zj.mono h (fun b_6 w15 h=> ?_))
        refine Yf P1 [1,4,6,7,8] (zM 5 ?_)
        exact⟨_,Sub.mk K_,b_6,rfl,h⟩
       ·refine zg (Yt (Yn P1 ?_))
        refine Yw (sl_ 1 1) h fun b_7 w16 h=> ?_
        obtain⟨src,hs,h⟩:=h
        refine zH (t:=38) (tx:=38) (e:=5) (a:=(Operand.tmp 91)) (xo:=(Operand.tmp 92)) (s:=v82) (x:=(Slc.mk (some ⟨b_7,0,none⟩) 1 1)) (sz:=1) (by_:=1) (zs:=[Value.int .u8 0]) (ty:=38) (dst:=some 93)  src K_ K_ K_ K_ K_ K_ K_ K_ K_ hs (zj.mono h (fun b_8 w17 h=> ?_))
        refine Yf P1 [1,4,6,7,8] (Yr (Yn P3 ?_))
        obtain⟨hp_75,h⟩:=h
        refine Yu 95 (fun pp=> .slice pp v.len v.cap) hp_75 ?_
        refine Yi h fun h=> ?_
        refine Yn P1 ?_
        refine Yl h fun v99 h=> ?_
        refine Ym1 h fun v100 w18 h=> ?_
        refine Yf P1 [1,4,6,7,8] ?_
        exact⟨_,Sub.mk K_,v100,rfl,h⟩
      ·rintro _ w12 ⟨b_4,rfl,h⟩
       unfold F_N at h
       refine Yr (Yf P3 [1,4,6,7,8] ?_)
       have hb_:=again_2_h _ _ _ h
       exact⟨_,hb_.2,_,Sub.mk K_,b_4,(IntKind.i64.wrap (k_+1)),rfl,hb_.1,rfl⟩
     ·refine zM 4 (Yr (Yf P3 [1,4,6] ?_))
      have hb_:=again_1_h _ _ _ h
      exact⟨_,hb_.2,_,Sub.mk K_,b_3,(IntKind.i64.wrap (i1+1)),rfl,hb_.1,rfl⟩
    ·refine zM 2 (Yp P3 [2,3] ?_)
     exact YT2 ⟨b_2,0,rfl,h⟩

/-! ### towpath/towpathref18.Check (function 126) -/
def zdt:=cb_ Tryz.f126
def zet:=cr_ zdt
def z7n:=cr_ zet
def z8n:=cl_ z7n
def z9n:=cr_ z8n
def zao:=cl_ z9n
def zbo:=cl_ zao
def zco:=cr_ zbo
def zdo:=cl_ zco
def zeo:=cl_ zdo
def zfo:=cr_ zeo
def zgo:=cr_ zfo
def zho:=cl_ zgo
def zio:=cl_ zho
def zjo:=cr_ zio
def zko:=cl_ zjo
def zik:=cl_ zko
def zlo:=cl_ zik
def zmo:=co_ zlo
def zno:=cr_ zik
def zoo:=cr_ zno
def zpo:=cl_ zoo
def zqo:=co_ zpo
def z8c:List Nat:=[0,1,2,3,4,5,6,7,8]

theorem S_5b {s:T_b} {w:World} {R:Int→WP} (h:F_6d s R w):C_Gb s w R:=by
 unfold F_6d at h
 refine Yh Tryz.func126 ?_
 ·refine Yt ?_
  refine Yw pv_ h fun b_ w1 h=> ?_
  refine Yf P1 [1] (Ys ?_)
  refine Ycut (fun l w=>∃(t17:Bool),l=[(1,pv_ b_),(17,Vo t17)]∧F_u R b_ t17 w) ?_ ?_
  ·refine Yr (Yn P1 ?_)
   refine Yl h fun v7 h=> ?_
   refine Yn P1 ?_
   refine Yl h fun v9 h=> ?_
   refine Ym1 h fun v10 w10 h=> ?_
   refine Yn P3 ?_
   refine Yspl 12 h (fun h=> ?_) fun h=> ?_
   ·refine Yf [.skip,.skip,.skip,.plain] [1,17] ?_
    exact⟨_,Sub.mk K_,true,rfl,h⟩
   ·refine Yl h fun v14 h=> ?_
    refine Ym1 h fun v15 w11 h=> ?_
    refine Yf [.sure,.plain] [1,17] ?_
    exact⟨_,Sub.mk K_,(!v15),rfl,h⟩
  ·rintro _ w2 ⟨t17,rfl,h⟩
   unfold F_u at h
   refine Yc h (fun h=> ?_) fun h=> ?_
   ·refine Yp P1 [2] ?_
    exact YS ⟨1,rfl,h⟩
   ·refine zg (Ys (Yp P1 [1,3] (Yd 0 ?_)))
    obtain⟨I,μ,h0,hr⟩:=h
    refine zN (fun m l w=>∃(i:Int),l=[(1,pv_ b_),(3,Vi i)]∧I i w∧μ i w=m) ⟨0,rfl,h0,rfl⟩ ?_
    rintro _ _ w3 ⟨i,rfl,hI,rfl⟩
    obtain⟨again_,again__h,h⟩:∃ again_:Int→WP,(∀ i' w',again_ i' w'→I i' w'∧μ i' w'<μ i w3)∧F_xc R b_ again_ i w3:=⟨_,fun _ _ h=>h,hr i w3 hI⟩
    clear h0 hI
    unfold F_xc at h
    refine Ys (Yt (Yn P2 ?_))
    refine Yl h fun v20 h=> ?_
    refine Yf P2 [1,3,22] ?_
    refine Yc h (fun h=> ?_) fun h=> ?_
    ·refine zg (Ys (Yd 1 (Yt (Yn P1 ?_))))
     refine Yl h fun v26 h=> ?_
     refine Yn P1 ?_
     obtain⟨hp_43,h⟩:=h
     refine Yu 26 (fun pp=> .slice pp v26.len v26.cap) hp_43 ?_
     refine Yi h fun h=> ?_
     refine Yn P1 ?_
     refine Yl h fun v h=> ?_
     refine Yf P1 [1,3,4] (Yp P1 [1,3,4,5] (Yd 2 ?_))
     obtain⟨I,μ,h0,hr⟩:=h
     refine zN (fun m l w=>∃(k_:Int),l=[(1,pv_ b_),(3,Vi i),(4,sv_ v),(5,Vi k_)]∧I k_ w∧μ k_ w=m) ⟨0,rfl,h0,rfl⟩ ?_
     rintro _ _ w4 ⟨k_,rfl,hI,rfl⟩
     obtain⟨again_1,again_1_h,h⟩:∃ again_1:Int→WP,(∀ k_' w',again_1 k_' w'→I k_' w'∧μ k_' w'<μ k_ w4)∧F_wc R b_ i again_ v again_1 k_ w4:=⟨_,fun _ _ h=>h,hr k_ w4 hI⟩
     clear h0 hI
     unfold F_wc at h
     refine Ys (Yp P4 [1,3,4,5,34] ?_)
     refine Yc h (fun h=> ?_) fun h=> ?_
     ·refine zg ?_
      refine Ycut (fun l w=>l=[(1,pv_ b_),(3,Vi i),(4,sv_ v),(5,Vi k_)]∧F_T k_ again_1 w) ?_ ?_
      ·refine Yd 3 (Ys ?_)
       refine zO (id:=10) (ops:=zmo) K_ K_ K_ ?_
       refine Qn P2 ?_
       obtain⟨hp_51,h⟩:=h
       refine Qu 37 (fun pp=> .slice pp v.len v.cap) hp_51 ?_
       refine Qi h fun h=> ?_
       refine Qn P1 ?_
       refine Ql h fun v41 h=> ?_
       refine Qn P1 ?_
       refine Ql h fun v43 h=> ?_
       refine Qf P1 [1,3,4,5,44] h fun w6 h=> ?_
       refine Yc h (fun h=> ?_) fun h=> ?_
       ·refine Ycut (fun l w=>∃(t53:Bool),l=[(1,pv_ b_),(3,Vi i),(4,sv_ v),(5,Vi k_),(53,Vo t53)]∧F_U R k_ again_1 t53 w) ?_ ?_
        ·refine Yr (Yn (Pl 5) ?_)
         refine Yspl 47 h (fun h=> ?_) fun h=> ?_
         ·refine Yf [.skip,.skip,.skip,.plain] [1,3,4,5,53] ?_
          exact⟨_,Sub.mk K_,true,rfl,h⟩
         ·obtain⟨hp_53,h⟩:=h
          refine Yu 48 (fun pp=> .slice pp v.len v.cap) hp_53 ?_
          refine Yi h fun h=> ?_
          refine Yn [.sure] ?_
          refine Yl h fun v52 h=> ?_
          refine Yf P1 [1,3,4,5,53] ?_
          exact⟨_,Sub.mk K_,v52,rfl,h⟩
        ·rintro _ w7 ⟨t53,rfl,h⟩
         unfold F_U at h
         refine Yc h (fun h=> ?_) fun h=> ?_
         ·refine Yp P1 [2] ?_
          exact YS ⟨1,rfl,h⟩
         ·refine zg ?_
          exact⟨_,Sub.mk K_,rfl,h⟩
       ·refine Ys ?_
        refine zm (id:=13) (ops:=zqo) z8c K_ K_ K_ K_ (fun w8 hw=> ?_)
        replace h:=h w8 hw
        clear hw
        refine Mn P1 ?_
        refine Ml 1 h fun v55 hc h=> ?_
        refine Mn P2 ?_
        obtain⟨hp_55,h⟩:=h
        refine Mu 56 (fun pp=> .slice pp v.len v.cap) hp_55 ?_
        refine Mi 4 h fun h=> ?_
        refine Mn P1 ?_
        refine Ml 6 h fun v60 hc h=> ?_
        refine zo (op:=(Op.call (Call.mk (Callee.value (Operand.func 150)) #[(Operand.tmp 55),(Operand.tmp 60)] #[56,3]))) (ty:=4) (dst:=some 61) 7 [1,6,0,5,4,2,3] [] 150 #[sv_ v55,Vi v60] K_ K_ K_ K_ K_ (fun ww=>by kernel_rfl) (Calls.mono h ?_)
        rintro _ w9 ⟨v61,rfl,h⟩
        refine⟨_,rfl,trivial,?_⟩
        refine Mf P1 [1,3,4,5,62] ?_
        refine Yc h (fun h=> ?_) fun h=> ?_
        ·refine Yp P1 [2] ?_
         exact YS ⟨1,rfl,h⟩
        ·refine zg ?_
         exact⟨_,Sub.mk K_,rfl,h⟩
      ·rintro _ w5 ⟨rfl,h⟩
       unfold F_T at h
       refine Yr (Yf P3 [1,3,4,5] ?_)
       have hb_:=again_1_h _ _ h
       exact⟨_,hb_.2,_,Sub.mk K_,(IntKind.i64.wrap (k_+1)),rfl,hb_.1,rfl⟩
     ·refine zM 2 (Yr (Yf P3 [1,3] ?_))
      have hb_:=again__h _ _ h
      exact⟨_,hb_.2,_,Sub.mk K_,(IntKind.i64.wrap (i+1)),rfl,hb_.1,rfl⟩
    ·refine zM 0 (Yp P1 [2] ?_)
     exact YS ⟨0,rfl,h⟩
end
end Go.Proofs.YtjlfdepkphibgaaGreatDoor
