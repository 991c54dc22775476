/- WRITTEN BY PROGRAM (dec.py): for each Go function the clean formula F, the call's contract C, and the proof S that F gives C. -/
import Derived.Test.YtjlfdepkphibgaaGreatDoorRows
import Derived.Test.YtjlfdepkphibgaaGreatDoorGF
namespace Go.Proofs.YtjlfdepkphibgaaGreatDoor
open Go
set_option linter.unusedVariables false
set_option maxRecDepth 100000
set_option maxHeartbeats 4000000
noncomputable section

/-! ### towpath/dump.Encode (function 75) -/

theorem S_Ic {s:T_b} {w:World} {R:Slc→Int→WP} (h:F_7e s R w):C_Jc s w R:=by
 unfold F_7e at h
 refine Yh Tryz.func75 ?_
 ·refine Yt ?_
  refine Yw pv_ h fun b_ w1 h=> ?_
  refine Yf P2 [1] (Ys (Yt ?_))
  refine YL h fun v12 h=> ?_
  refine Ym1 h fun v13 w2 h=> ?_
  refine Yf P1 [1,4] (Yp P2 [1,4,15] ?_)
  refine Yc h (fun h=> ?_) fun h=> ?_
  ·refine Yp P3 [2,3] ?_
   exact YT2 ⟨(Slc.mk none 0 0),v13,rfl,h⟩
  ·refine zg (Yt ?_)
   refine Ym1 h fun v17 w3 h=> ?_
   refine Yf P1 [1,5] (Yt (Yn P2 ?_))
   refine Yl h fun v20 h=> ?_
   refine Yn P1 ?_
   refine Ym0 h fun w4 h=> ?_
   refine Yf [] [1,5] (Yt (Yn P2 ?_))
   refine Yl h fun v25 h=> ?_
   refine Yn P2 ?_
   refine Ym0 h fun w5 h=> ?_
   refine Yf [] [1,5] (Ys (Yt (Yn P1 ?_)))
   refine Yl h fun v30 h=> ?_
   refine Yf P2 [1,5,30,31,32] (Yd 0 ?_)
   obtain⟨I,μ,h0,hr⟩:=h
   refine zN (fun m l w=>∃(t32:Int),l=[(1,pv_ b_),(5,Vp v17),(30,sv_ v30),(31,Vi ((v30.len:Nat):Int)),(32,Vi t32)]∧I t32 w∧μ t32 w=m) ⟨0,rfl,h0,rfl⟩ ?_
   rintro _ _ w6 ⟨t32,rfl,hI,rfl⟩
   obtain⟨again_,again__h,h⟩:∃ again_:Int→WP,(∀ t32' w',again_ t32' w'→I t32' w'∧μ t32' w'<μ t32 w6)∧F_0d R b_ v17 v30 again_ t32 w6:=⟨_,fun _ _ h=>h,hr t32 w6 hI⟩
   clear h0 hI
   unfold F_0d at h
   refine Yp P1 [1,5,30,31,32,33] (Ys ?_)
   refine Yc h (fun h=> ?_) fun h=> ?_
   ·refine zg (Ys (Yd 1 (Yt ?_)))
    obtain⟨hp_7,h⟩:=h
    refine Yu 30 (fun pp=> .slice pp v30.len v30.cap) hp_7 ?_
    refine Yi1 h fun h=> ?_
    refine Yl h fun n_ h=> ?_
    refine Yn P1 (Yu 30 (fun pp=> .slice pp v30.len v30.cap) hp_7.symm ?_)
    refine Yf [] [1,5,7,30,31,32] (Yr (Yn P3 ?_))
    refine Ym0 h fun w7 h=> ?_
    refine Yf [] [1,5,30,31,32] (Yr (Yf P2 [1,5,30,31,32] ?_))
    have hb_:=again__h _ _ h
    exact⟨_,hb_.2,_,Sub.mk K_,(IntKind.i64.wrap (t32+1)),rfl,hb_.1,rfl⟩
   ·refine zM 0 (Yt (Yn P2 ?_))
    refine Yl h fun v43 h=> ?_
    refine Yn P2 ?_
    refine Ym0 h fun w8 h=> ?_
    refine Yf [] [1,5] (Ys (Yt (Yn P1 ?_)))
    refine Yl h fun v48 h=> ?_
    refine Yf P2 [5,48,49,50] (Yd 2 ?_)
    obtain⟨I,μ,h0,hr⟩:=h
    refine zN (fun m l w=>∃(t50:Int),l=[(5,Vp v17),(48,sv_ v48),(49,Vi ((v48.len:Nat):Int)),(50,Vi t50)]∧I t50 w∧μ t50 w=m) ⟨0,rfl,h0,rfl⟩ ?_
    rintro _ _ w9 ⟨t50,rfl,hI,rfl⟩
    obtain⟨again_1,again_1_h,h⟩:∃ again_1:Int→WP,(∀ t50' w',again_1 t50' w'→I t50' w'∧μ t50' w'<μ t50 w9)∧F_Zd R v17 v48 again_1 t50 w9:=⟨_,fun _ _ h=>h,hr t50 w9 hI⟩
    clear h0 hI
    unfold F_Zd at h
    refine Yp P1 [5,48,49,50,51] (Ys ?_)
    refine Yc h (fun h=> ?_) fun h=> ?_
    ·refine zg (Ys (Yd 3 (Yt ?_)))
     obtain⟨hp_27,h⟩:=h
     refine Yu 48 (fun pp=> .slice pp v48.len v48.cap) hp_27 ?_
     refine Yi h fun h=> ?_
     refine YL h fun v53 h=> ?_
     refine Yw pv_ h fun b_1 w10 h=> ?_
     refine Yo h fun w11 h=> ?_
     refine Yu 48 (fun pp=> .slice pp v48.len v48.cap) hp_27.symm ?_
     refine Yf [] [5,9,48,49,50] (Yt (Yn P2 ?_))
     refine Yl h fun v56 h=> ?_
     refine Ym0 h fun w12 h=> ?_
     refine Yf [] [5,9,48,49,50] (Yt (Yn P2 ?_))
     refine Yl h fun v60 h=> ?_
     refine Yn P2 ?_
     refine Ym0 h fun w13 h=> ?_
     refine Yf [] [5,9,48,49,50] (Yt (Yn P1 ?_))
     refine Yl h fun v65 h=> ?_
     refine Yf P2 [5,48,49,50,65,66,67] (Yd 4 ?_)
     obtain⟨I,μ,h0,hr⟩:=h
     refine zN (fun m l w=>∃(t67:Int),l=[(5,Vp v17),(48,sv_ v48),(49,Vi ((v48.len:Nat):Int)),(50,Vi t50),(65,sv_ v65),(66,Vi ((v65.len:Nat):Int)),(67,Vi t67)]∧I t67 w∧μ t67 w=m) ⟨0,rfl,h0,rfl⟩ ?_
     rintro _ _ w14 ⟨t67,rfl,hI,rfl⟩
     obtain⟨again_2,again_2_h,h⟩:∃ again_2:Int→WP,(∀ t67' w',again_2 t67' w'→I t67' w'∧μ t67' w'<μ t67 w14)∧F_xd v17 t50 again_1 v65 again_2 t67 w14:=⟨_,fun _ _ h=>h,hr t67 w14 hI⟩
     clear h0 hI
     unfold F_xd at h
     refine Yp P1 [5,48,49,50,65,66,67,68] (Ys ?_)
     refine Yc h (fun h=> ?_) fun h=> ?_
     ·refine zg ?_
      refine Ycut (fun l w=>l=[(5,Vp v17),(48,sv_ v48),(49,Vi ((v48.len:Nat):Int)),(50,Vi t50),(65,sv_ v65),(66,Vi ((v65.len:Nat):Int)),(67,Vi t67)]∧F_Lc t67 again_2 w) ?_ ?_
      ·refine Yd 5 (Yt ?_)
       obtain⟨hp_31,h⟩:=h
       refine Yu 65 (fun pp=> .slice pp v65.len v65.cap) hp_31 ?_
       refine Yi h fun h=> ?_
       refine YL h fun v70 h=> ?_
       refine Yw pv_ h fun b_2 w16 h=> ?_
       refine Yo h fun w17 h=> ?_
       refine Yu 65 (fun pp=> .slice pp v65.len v65.cap) hp_31.symm ?_
       refine Yf [] [5,11,48,49,50,65,66,67] (Yt (Yn P2 ?_))
       refine Yl h fun v73 h=> ?_
       refine Yn P1 ?_
       refine Ym0 h fun w18 h=> ?_
       refine Yf [] [5,11,48,49,50,65,66,67] (Ys (Yt (Yn P1 ?_)))
       refine Yl h fun v77 h=> ?_
       refine Yf [] [5,11,48,49,50,65,66,67,77] ?_
       refine Yc h (fun h=> ?_) fun h=> ?_
       ·refine Yt (Yn P1 ?_)
        refine Ym1 h fun v79 w19 h=> ?_
        refine Yf [] [5,48,49,50,65,66,67] (zM 5 ?_)
        exact⟨_,Sub.mk K_,rfl,h⟩
       ·refine zg (Yt (Yn P1 ?_))
        refine Ym1 h fun v81 w20 h=> ?_
        refine Yf [] [5,11,48,49,50,65,66,67] (Yr (Yn P2 ?_))
        refine Yl h fun v84 h=> ?_
        refine Ym0 h fun w21 h=> ?_
        refine Yf [] [5,48,49,50,65,66,67] ?_
        exact⟨_,Sub.mk K_,rfl,h⟩
      ·rintro _ w15 ⟨rfl,h⟩
       unfold F_Lc at h
       refine Yr (Yf P2 [5,48,49,50,65,66,67] ?_)
       have hb_:=again_2_h _ _ h
       exact⟨_,hb_.2,_,Sub.mk K_,(IntKind.i64.wrap (t67+1)),rfl,hb_.1,rfl⟩
     ·refine zM 4 (Yr (Yf P2 [5,48,49,50] ?_))
      have hb_:=again_1_h _ _ h
      exact⟨_,hb_.2,_,Sub.mk K_,(IntKind.i64.wrap (t50+1)),rfl,hb_.1,rfl⟩
    ·refine zM 2 (Yt (Yn P1 ?_))
     refine Ym1 h fun v89 w22 h=> ?_
     refine Yf P2 [2,3] ?_
     exact YT2 ⟨v89,0,rfl,h⟩

/-! ### towpath/dump.Check (function 118) -/

theorem S_Lc {s:T_b} {w:World} {R:Int→WP} (h:F_if s R w):C_Bc s w R:=by
 unfold F_if at h
 refine Yh Tryz.func118 ?_
 ·refine Yt ?_
  refine Yw pv_ h fun b_ w1 h=> ?_
  refine Yf P1 [1] (Ys ?_)
  refine Ycut (fun l w=>∃(t21:Bool),l=[(1,pv_ b_),(21,Vo t21)]∧F_5c R b_ t21 w) ?_ ?_
  ·refine Yr (Yn P1 ?_)
   refine Yl h fun v15 h=> ?_
   refine Yn P3 ?_
   refine Yspl 17 h (fun h=> ?_) fun h=> ?_
   ·refine Yf [.skip,.skip,.plain] [1,21] ?_
    exact⟨_,Sub.mk K_,true,rfl,h⟩
   ·refine Yl h fun v19 h=> ?_
    refine Yf [.sure,.plain] [1,21] ?_
    exact⟨_,Sub.mk K_,(decide (v19>65536)),rfl,h⟩
  ·rintro _ w2 ⟨t21,rfl,h⟩
   unfold F_5c at h
   refine Yc h (fun h=> ?_) fun h=> ?_
   ·refine Yp P1 [2] ?_
    exact YS ⟨1,rfl,h⟩
   ·refine zg (Yt (Yn P1 ?_))
    refine Yl h fun v23 h=> ?_
    refine Yf P2 [1,3] (Ys (Yt (Yn P1 ?_)))
    refine Yl h fun v26 h=> ?_
    refine Yf P2 [1,3,26,27,28] (Yd 0 ?_)
    obtain⟨I,μ,h0,hr⟩:=h
    refine zN (fun m l w=>∃(least:Int) (t28:Int),l=[(1,pv_ b_),(3,Vi least),(26,sv_ v26),(27,Vi ((v26.len:Nat):Int)),(28,Vi t28)]∧I least t28 w∧μ least t28 w=m) ⟨(IntKind.i64.wrap (v23+2)),0,rfl,h0,rfl⟩ ?_
    rintro _ _ w3 ⟨least,t28,rfl,hI,rfl⟩
    obtain⟨again_,again__h,h⟩:∃ again_:Int→Int→WP,(∀ least' t28' w',again_ least' t28' w'→I least' t28' w'∧μ least' t28' w'<μ least t28 w3)∧F_me R b_ v26 again_ least t28 w3:=⟨_,fun _ _ _ h=>h,hr least t28 w3 hI⟩
    clear h0 hI
    unfold F_me at h
    refine Yp P1 [1,3,26,27,28,29] (Ys ?_)
    refine Yc h (fun h=> ?_) fun h=> ?_
    ·refine zg (Ys (Yd 1 (Yt ?_)))
     obtain⟨hp_7,h⟩:=h
     refine Yu 26 (fun pp=> .slice pp v26.len v26.cap) hp_7 ?_
     refine Yi1 h fun h=> ?_
     refine Yl h fun n_ h=> ?_
     refine Yn P1 (Yu 26 (fun pp=> .slice pp v26.len v26.cap) hp_7.symm ?_)
     refine Yf [] [1,3,5,26,27,28] (Ys (Yp [.plain,.plain,.plain,.plain,.plain,.plain,.pick] [1,5,26,27,28,38] ?_))
     refine Yc h (fun h=> ?_) fun h=> ?_
     ·refine Yp P1 [2] ?_
      exact YS ⟨1,rfl,h⟩
     ·refine zg (Yr (Yf P3 [1,3,26,27,28] (Yr (Yf P2 [1,3,26,27,28] ?_))))
      have hb_:=again__h _ _ _ h
      exact⟨_,hb_.2,_,Sub.mk K_,(IntKind.i64.wrap (n_+1)),(IntKind.i64.wrap (t28+1)),rfl,hb_.1,rfl⟩
    ·refine zM 0 (Ys (Yt (Yn P1 ?_)))
     refine Yl h fun v44 h=> ?_
     refine Ym2 h fun v45 e w4 h=> ?_
     refine Yf (Pl 5) [1,7] (Yp P2 [1,49] ?_)
     refine Yc h (fun h=> ?_) fun h=> ?_
     ·refine Yp P1 [2] ?_
      exact YS ⟨1,rfl,h⟩
     ·refine zg (Ys (Yt (Yn P1 ?_)))
      refine Yl h fun v51 h=> ?_
      refine Yf P2 [1,51,52,53] (Yd 2 ?_)
      obtain⟨I,μ,h0,hr⟩:=h
      refine zN (fun m l w=>∃(t53:Int),l=[(1,pv_ b_),(51,sv_ v51),(52,Vi ((v51.len:Nat):Int)),(53,Vi t53)]∧I t53 w∧μ t53 w=m) ⟨0,rfl,h0,rfl⟩ ?_
      rintro _ _ w5 ⟨t53,rfl,hI,rfl⟩
      obtain⟨again_1,again_1_h,h⟩:∃ again_1:Int→WP,(∀ t53' w',again_1 t53' w'→I t53' w'∧μ t53' w'<μ t53 w5)∧F_le R b_ v51 again_1 t53 w5:=⟨_,fun _ _ h=>h,hr t53 w5 hI⟩
      clear h0 hI
      unfold F_le at h
      refine Yp P1 [1,51,52,53,54] (Ys ?_)
      refine Yc h (fun h=> ?_) fun h=> ?_
      ·refine zg (Ys (Yd 3 (Yt ?_)))
       obtain⟨hp_27,h⟩:=h
       refine Yu 51 (fun pp=> .slice pp v51.len v51.cap) hp_27 ?_
       refine Yi h fun h=> ?_
       refine YL h fun v56 h=> ?_
       refine Yw pv_ h fun b_1 w6 h=> ?_
       refine Yo h fun w7 h=> ?_
       refine Yu 51 (fun pp=> .slice pp v51.len v51.cap) hp_27.symm ?_
       refine Yf [] [1,9,51,52,53] (Yt (Yn P1 ?_))
       refine Yl h fun v58 h=> ?_
       refine Yf P2 [1,51,52,53,58,59,60] (Yd 4 ?_)
       obtain⟨I,μ,h0,hr⟩:=h
       refine zN (fun m l w=>∃(t60:Int),l=[(1,pv_ b_),(51,sv_ v51),(52,Vi ((v51.len:Nat):Int)),(53,Vi t53),(58,sv_ v58),(59,Vi ((v58.len:Nat):Int)),(60,Vi t60)]∧I t60 w∧μ t60 w=m) ⟨0,rfl,h0,rfl⟩ ?_
       rintro _ _ w8 ⟨t60,rfl,hI,rfl⟩
       obtain⟨again_2,again_2_h,h⟩:∃ again_2:Int→WP,(∀ t60' w',again_2 t60' w'→I t60' w'∧μ t60' w'<μ t60 w8)∧F_Od R b_ t53 again_1 v58 again_2 t60 w8:=⟨_,fun _ _ h=>h,hr t60 w8 hI⟩
       clear h0 hI
       unfold F_Od at h
       refine Yp P1 [1,51,52,53,58,59,60,61] (Ys ?_)
       refine Yc h (fun h=> ?_) fun h=> ?_
       ·refine zg (Ys (Yd 5 (Yt (Yn P1 ?_))))
        obtain⟨hp_31,h⟩:=h
        refine Yu 58 (fun pp=> .slice pp v58.len v58.cap) hp_31 ?_
        refine Yi h fun h=> ?_
        refine YL h fun v64 h=> ?_
        refine Yw pv_ h fun b_2 w9 h=> ?_
        refine Yn P1 ?_
        refine Yo h fun w10 h=> ?_
        refine Yu 58 (fun pp=> .slice pp v58.len v58.cap) hp_31.symm ?_
        refine Yf [] [1,10,11,51,52,53,58,59,60] (Ys ?_)
        refine Ycut (fun l w=>∃(t77:Bool),l=[(1,pv_ b_),(11,pv_ b_2),(51,sv_ v51),(52,Vi ((v51.len:Nat):Int)),(53,Vi t53),(58,sv_ v58),(59,Vi ((v58.len:Nat):Int)),(60,Vi t60),(77,Vo t77)]∧F_vb R b_ t60 again_2 b_2 t77 w) ?_ ?_
        ·refine Yr (Yn P1 ?_)
         refine Yl h fun v66 h=> ?_
         refine Yn P1 ?_
         refine Yl h fun v68 h=> ?_
         refine Yn (Pl 6) ?_
         refine Yspl 70 h (fun h=> ?_) fun h=> ?_
         ·refine Yspl 73 h (fun h=> ?_) fun h=> ?_
          ·refine Yf [.skip,.sure,.plain] [1,11,51,52,53,58,59,60,77] ?_
           exact⟨_,Sub.mk K_,true,rfl,h⟩
          ·refine Yl h fun v75 h=> ?_
           refine Yf [.sure,.plain] [1,11,51,52,53,58,59,60,77] ?_
           exact⟨_,Sub.mk K_,v75,rfl,h⟩
         ·refine Yf [.skip,.skip,.plain] [1,11,51,52,53,58,59,60,77] ?_
          exact⟨_,Sub.mk K_,false,rfl,h⟩
        ·rintro _ w11 ⟨t77,rfl,h⟩
         unfold F_vb at h
         refine Yc h (fun h=> ?_) fun h=> ?_
         ·refine Yp P1 [2] ?_
          exact YS ⟨1,rfl,h⟩
         ·refine zg (Yt (Yn P1 ?_))
          refine Yl h fun v80 h=> ?_
          refine Yn P1 ?_
          refine Yl h fun v82 h=> ?_
          refine Ym2 h fun v83 ok w12 h=> ?_
          refine Yf (Pl 5) [1,11,13,51,52,53,58,59,60] (Yt (Yn P1 ?_))
          refine Yl h fun v87 h=> ?_
          refine Yn P1 ?_
          refine Yl h fun v89 h=> ?_
          refine Yf [.plain,.plain,.plain,.plain,.pick] [1,51,52,53,58,59,60,94] ?_
          refine Yc h (fun h=> ?_) fun h=> ?_
          ·refine Yp P1 [2] ?_
           exact YS ⟨1,rfl,h⟩
          ·refine zg (Yr (Yf P2 [1,51,52,53,58,59,60] ?_))
           have hb_:=again_2_h _ _ h
           exact⟨_,hb_.2,_,Sub.mk K_,(IntKind.i64.wrap (t60+1)),rfl,hb_.1,rfl⟩
       ·refine zM 4 (Yr (Yf P2 [1,51,52,53] ?_))
        have hb_:=again_1_h _ _ h
        exact⟨_,hb_.2,_,Sub.mk K_,(IntKind.i64.wrap (t53+1)),rfl,hb_.1,rfl⟩
      ·refine zM 2 (Yp P1 [2] ?_)
       exact YS ⟨0,rfl,h⟩
end
end Go.Proofs.YtjlfdepkphibgaaGreatDoor
