/- WRITTEN BY PROGRAM (dec.py): for each Go function the clean formula F, the call's contract C, and the proof S that F gives C. -/
import Derived.Test.YtjlfdepkphibgaaGreatDoorRows
import Derived.Test.YtjlfdepkphibgaaGreatDoorGF
namespace Go.Proofs.YtjlfdepkphibgaaGreatDoor
open Go
set_option linter.unusedVariables false
set_option maxRecDepth 100000
set_option maxHeartbeats 4000000
noncomputable section

/-! ### towpath/towpathlaw19.SlotsPlays (function 3) -/

theorem S_pb {capacity:Int} {script:Slc} {w:World} {R:Bool→WP} (h:F_fd capacity script R w):C_mc capacity script w R:=by
 unfold F_fd at h
 refine Yh Tryz.func3 ?_
 ·refine Yp P1 [0,1] (Ys (Yt (Yn P1 ?_)))
  refine Ym1 h fun v14 w1 h=> ?_
  refine Yf [] [0,1,14] ?_
  refine Yc h (fun h=> ?_) fun h=> ?_
  ·refine Yp P1 [4] ?_
   exact YS ⟨true,rfl,h⟩
  ·refine zg (Yt (Yn P1 ?_))
   refine Ym2 h fun d e w2 h=> ?_
   refine Yf (Pl 5) [0,1,5,6] (Yt (Yn P1 ?_))
   refine Ym2 h fun r f w3 h=> ?_
   refine Yf (Pl 5) [1,5,6,7,8] (Ys ?_)
   refine Ycut (fun l w=>∃(t34:Bool),l=[(1,sv_ script),(5,Vp d),(7,Vp r),(34,Vo t34)]∧F_n script R d r t34 w) ?_ ?_
   ·refine Yr (Yn (Pl 5) ?_)
    refine Yspl 28 h (fun h=> ?_) fun h=> ?_
    ·refine Yf [.skip,.skip,.skip,.skip,.plain] [1,5,7,34] ?_
     exact⟨_,Sub.mk K_,true,rfl,h⟩
    ·refine zP (op:=(Op.binOp BinOp.eql 24 (Operand.tmp 29) (Operand.const (Vp none)) 24)) (ty:=4) (dst:=some 30) (Vo d.isNone) K_ (fun ww=>zz (p:=d) K_ K_ K_ ww) ?_
     refine Yn [.sure] ?_
     refine zP (op:=(Op.binOp BinOp.eql 28 (Operand.tmp 31) (Operand.const (Vp none)) 28)) (ty:=4) (dst:=some 32) (Vo r.isNone) K_ (fun ww=>zz (p:=r) K_ K_ K_ ww) ?_
     refine Yf [.sure,.plain] [1,5,7,34] ?_
     exact⟨_,Sub.mk K_,(!(d.isNone==r.isNone)),rfl,h⟩
   ·rintro _ w4 ⟨t34,rfl,h⟩
    unfold F_n at h
    refine Yc h (fun h=> ?_) fun h=> ?_
    ·refine Yp P1 [4] ?_
     exact YS ⟨false,rfl,h⟩
    ·refine zg (Yt (Yn P3 ?_))
     refine Yw pv_ h fun b_ w5 h=> ?_
     refine Yf P1 [1,9] (Yt (Yn P1 ?_))
     refine Yw pv_ h fun b_1 w6 h=> ?_
     refine Yf P1 [1,9,10] (Yt (Yn P1 ?_))
     refine Yw pv_ h fun b_2 w7 h=> ?_
     refine Yf P1 [1,9,10,11] (Ys (Yp P1 [1,9,10,11,12] (Yd 0 ?_)))
     obtain⟨I,μ,h0,hr⟩:=h
     refine zN (fun m l w=>∃(k_:OA) (i:Int),l=[(1,sv_ script),(9,pv_ b_),(10,pv_ b_1),(11,Vp k_),(12,Vi i)]∧I k_ i w∧μ k_ i w=m) ⟨(some ⟨b_2,0,none⟩),0,rfl,h0,rfl⟩ ?_
     rintro _ _ w8 ⟨k_,i,rfl,hI,rfl⟩
     obtain⟨again_,again__h,h⟩:∃ again_:OA→Int→WP,(∀ k_' i' w',again_ k_' i' w'→I k_' i' w'∧μ k_' i' w'<μ k_ i w8)∧F_Hb script R b_ b_1 again_ k_ i w8:=⟨_,fun _ _ _ h=>h,hr k_ i w8 hI⟩
     clear h0 hI
     unfold F_Hb at h
     refine Ys (Yp P4 [1,9,10,11,12,46] ?_)
     refine Yc h (fun h=> ?_) fun h=> ?_
     ·refine zg ?_
      refine Ycut (fun l w=>∃(k_1:OA),l=[(1,sv_ script),(9,pv_ b_),(10,pv_ b_1),(11,Vp k_1),(12,Vi i)]∧F_m i again_ k_1 w) ?_ ?_
      ·refine Yd 1 (Ys ?_)
       refine Ycut (fun l w=>∃(t61:Bool),l=[(1,sv_ script),(9,pv_ b_),(10,pv_ b_1),(11,Vp k_),(12,Vi i),(61,Vo t61)]∧F_H R k_ i again_ t61 w) ?_ ?_
       ·refine Yr (Yn P3 ?_)
        obtain⟨hp_15,h⟩:=h
        refine Yu 50 (fun pp=> .slice pp script.len script.cap) hp_15 ?_
        refine Yi h fun h=> ?_
        refine YL h fun v53 h=> ?_
        refine Ym1 h fun v54 w13 h=> ?_
        refine Yn P4 ?_
        refine Yspl 56 h (fun h=> ?_) fun h=> ?_
        ·refine Yf [.skip,.skip,.plain] [1,9,10,11,12,61] ?_
         exact⟨_,Sub.mk K_,true,rfl,h⟩
        ·refine Ym1 h fun v59 w14 h=> ?_
         refine Yf [.sure,.plain] [1,9,10,11,12,61] ?_
         exact⟨_,Sub.mk K_,(!v59),rfl,h⟩
       ·rintro _ w10 ⟨t61,rfl,h⟩
        unfold F_H at h
        refine Yc h (fun h=> ?_) fun h=> ?_
        ·refine Yp P1 [4] ?_
         exact YS ⟨false,rfl,h⟩
        ·refine zg (Yp P3 [1,9,10,11,12,64] ?_)
         refine Yc h (fun h=> ?_) fun h=> ?_
         ·refine Ys (Yt (Yn P1 ?_))
          refine Ym1 h fun v66 w11 h=> ?_
          refine Yf P1 [1,9,10,12,67] ?_
          refine Yc h (fun h=> ?_) fun h=> ?_
          ·refine Yp P1 [4] ?_
           exact YS ⟨false,rfl,h⟩
          ·refine zg (Yr (Yn P1 ?_))
           refine Yw pv_ h fun b_3 w12 h=> ?_
           refine Yf P1 [1,9,10,11,12] ?_
           exact⟨_,Sub.mk K_,(some ⟨b_3,0,none⟩),rfl,h⟩
         ·refine zg ?_
          exact⟨_,Sub.mk K_,k_,rfl,h⟩
      ·rintro _ w9 ⟨k_1,rfl,h⟩
       unfold F_m at h
       refine Yr (Yf P3 [1,9,10,11,12] ?_)
       have hb_:=again__h _ _ _ h
       exact⟨_,hb_.2,_,Sub.mk K_,k_1,(IntKind.i64.wrap (i+1)),rfl,hb_.1,rfl⟩
     ·refine zM 0 (Yt (Yn P2 ?_))
      refine Ym1 h fun v72 w15 h=> ?_
      refine Yn P2 ?_
      refine Yspl 73 h (fun h=> ?_) fun h=> ?_
      ·refine Ym1 h fun v75 w16 h=> ?_
       refine Yn P3 ?_
       refine Yspl 77 h (fun h=> ?_) fun h=> ?_
       ·refine Ym1 h fun v79 w17 h=> ?_
        refine Yn [.sure,.plain,.plain,.plain] ?_
        refine Yspl 82 h (fun h=> ?_) fun h=> ?_
        ·refine Ym1 h fun v84 w18 h=> ?_
         refine Yf [.sure,.plain,.plain] [4] ?_
         exact YS ⟨(v84==0),rfl,h⟩
        ·refine Yf [.skip,.skip,.plain,.plain] [4] ?_
         exact YS ⟨false,rfl,h⟩
       ·refine Yf [.skip,.skip,.plain,.plain,.skip,.skip,.skip,.plain,.plain] [4] ?_
        exact YS ⟨false,rfl,h⟩
      ·refine Yf [.skip,.plain,.plain,.skip,.skip,.skip,.plain,.plain,.skip,.skip,.skip,.plain,.plain] [4] ?_
       exact YS ⟨false,rfl,h⟩
end
end Go.Proofs.YtjlfdepkphibgaaGreatDoor
