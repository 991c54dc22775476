/- WRITTEN BY PROGRAM (dec.py): for each Go function the clean formula F, the call's contract C, and the proof S that F gives C. -/
import Derived.Test.YtofjmclceflgiaaGreatRows
import Derived.Test.YtofjmclceflgiaaGreatGF
namespace Go.Proofs.YtofjmclceflgiaaGreat
open Go
set_option linter.unusedVariables false
set_option maxRecDepth 100000
set_option maxHeartbeats 4000000
noncomputable section

/-! ### towpath/towpathtop.TopSerial (function 3) -/

theorem S_G {w_:T_g} {w:World} {R:Bool→WP} (h:F_Ob w_ R w):C_T w_ w R:=by
 unfold F_Ob at h
 refine Yh Tryz.func3 ?_
 ·refine Yt ?_
  refine Yw pv_ h fun b_ w1 h=> ?_
  refine Yf P1 [1] (Yt ?_)
  refine YL h fun v12 h=> ?_
  refine Ym2 h fun r v13_1 w2 h=> ?_
  refine Yf (Pl 5) [1,3] (Ys ?_)
  refine Ycut (fun l w=>∃(t23:Bool),l=[(1,pv_ b_),(3,Vp r),(23,Vo t23)]∧F_m R b_ r t23 w) ?_ ?_
  ·refine Yr (Yn P1 ?_)
   refine zw (op:=(Op.binOp BinOp.eql 28 (Operand.tmp 16) (Operand.const (Vp none)) 28)) (ty:=4) (dst:=some 17) (Vo r.isNone) K_ (fun ww=>zy (p:=r) K_ K_ K_ ww) ?_
   refine Yn P2 ?_
   refine Yspl 18 h (fun h=> ?_) fun h=> ?_
   ·refine Yf [.skip,.skip,.skip,.plain] [1,3,23] ?_
    exact⟨_,Sub.mk K_,true,rfl,h⟩
   ·refine Yl h fun v20 h=> ?_
    refine Yf [.sure,.sure,.plain] [1,3,23] ?_
    exact⟨_,Sub.mk K_,(decide (((v20.len:Nat):Int)>100)),rfl,h⟩
  ·rintro _ w3 ⟨t23,rfl,h⟩
   unfold F_m at h
   refine Yc h (fun h=> ?_) fun h=> ?_
   ·refine Yt ?_
    refine Ym1 h fun v24 w4 h=> ?_
    refine Yf P1 [2] ?_
    exact YS ⟨v24,rfl,h⟩
   ·refine zk (Yt (Yn P1 ?_))
    refine Yl h fun fed h=> ?_
    refine Yf P1 [1,3,5] ?_
    refine Ycut (fun l w=>∃(fed1:Int),l=[(1,pv_ b_),(3,Vp r),(5,Vi fed1)]∧F_k R b_ r fed1 w) ?_ ?_
    ·refine Ycut (fun l w=>∃(t35:Bool),l=[(1,pv_ b_),(3,Vp r),(5,Vi fed),(35,Vo t35)]∧F_l R b_ r fed t35 w) ?_ ?_
     ·refine Yr (Yn (Pl 5) ?_)
      refine Yspl 29 h (fun h=> ?_) fun h=> ?_
      ·refine Yf [.skip,.skip,.skip,.plain] [1,3,5,35] ?_
       exact⟨_,Sub.mk K_,true,rfl,h⟩
      ·refine Yl h fun v32 h=> ?_
       refine Yf [.sure,.sure,.plain] [1,3,5,35] ?_
       exact⟨_,Sub.mk K_,(decide (fed>((v32.len:Nat):Int))),rfl,h⟩
     ·rintro _ w18 ⟨t35,rfl,h⟩
      unfold F_l at h
      refine Yc h (fun h=> ?_) fun h=> ?_
      ·refine Yr (Yf P1 [1,3,5] ?_)
       exact⟨_,Sub.mk K_,0,rfl,h⟩
      ·refine zk ?_
       exact⟨_,Sub.mk K_,fed,rfl,h⟩
    ·rintro _ w5 ⟨fed1,rfl,h⟩
     unfold F_k at h
     refine Ycut (fun l w=>l=[(1,pv_ b_),(3,Vp r),(5,Vi fed1)]∧F_j R b_ r fed1 w) ?_ ?_
     ·refine Yp P1 [1,3,5,6] (Yd 0 ?_)
      obtain⟨I,μ,h0,hr⟩:=h
      refine znb (fun m l w=>∃(i:Int),l=[(1,pv_ b_),(3,Vp r),(5,Vi fed1),(6,Vi i)]∧I i w∧μ i w=m) ⟨0,rfl,h0,rfl⟩ ?_
      rintro _ _ w13 ⟨i,rfl,hI,rfl⟩
      obtain⟨again_,again__h,h⟩:∃ again_:Int→WP,(∀ i' w',again_ i' w'→I i' w'∧μ i' w'<μ i w13)∧F_5 R b_ r fed1 again_ i w13:=⟨_,fun _ _ h=>h,hr i w13 hI⟩
      clear h0 hI
      unfold F_5 at h
      refine Ys (Yt (Yn P2 ?_))
      refine Yl h fun v38 h=> ?_
      refine Yf P3 [1,3,5,6,41] ?_
      refine Yc h (fun h=> ?_) fun h=> ?_
      ·refine zk (Ys (Yd 1 (Yt (Yn P2 ?_))))
       refine Yl h fun v47 h=> ?_
       refine Yn P1 ?_
       refine Ym1 h fun v49 w14 h=> ?_
       refine Ym2 h fun v50 e1 w15 h=> ?_
       refine Yn P3 ?_
       refine Yw pv_ h fun b_1 w16 h=> ?_
       refine Yo h fun w17 h=> ?_
       refine Yf P1 [1,3,5,6,8] (Ys (Yp P2 [1,3,5,6,8,54] ?_))
       refine Yc h (fun h=> ?_) fun h=> ?_
       ·refine z3 0 ?_
        exact⟨_,Sub.mk K_,rfl,h⟩
       ·refine zk (Yp P2 [1,3,5,6,56] ?_)
        refine Yc h (fun h=> ?_) fun h=> ?_
        ·refine Yp P1 [2] ?_
         exact YS ⟨false,rfl,h⟩
        ·refine zk (Yr (Yf P3 [1,3,5,6] ?_))
         have hb_:=again__h _ _ h
         exact⟨_,hb_.2,_,Sub.mk K_,(IntKind.i64.wrap (i+1)),rfl,hb_.1,rfl⟩
      ·refine z3 0 ?_
       exact⟨_,Sub.mk K_,rfl,h⟩
     ·rintro _ w6 ⟨rfl,h⟩
      unfold F_j at h
      refine Yt (Yn P1 ?_)
      refine Yl h fun v59 h=> ?_
      refine Yn P1 ?_
      refine Ym2 h fun want e w7 h=> ?_
      refine Yf (Pl 5) [3,5,9,10] (Yt (Yn P4 ?_))
      refine Yspl 66 h (fun h=> ?_) fun h=> ?_
      ·refine Ym1 h fun v68 w8 h=> ?_
       refine Yn P3 ?_
       refine Yspl 70 h (fun h=> ?_) fun h=> ?_
       ·refine Ym1 h fun v72 w9 h=> ?_
        refine Yn [.sure,.sure,.plain,.plain,.plain] ?_
        refine Yspl 76 h (fun h=> ?_) fun h=> ?_
        ·refine Ym1 h fun v78 w10 h=> ?_
         refine Yn [.sure] ?_
         refine Ym1 h fun v80 w11 h=> ?_
         refine Yn P2 ?_
         refine Yspl 82 h (fun h=> ?_) fun h=> ?_
         ·refine Ym1 h fun v83 w12 h=> ?_
          refine Yf P2 [2] ?_
          exact YS ⟨v83,rfl,h⟩
         ·refine Yf [.skip,.plain,.plain] [2] ?_
          exact YS ⟨false,rfl,h⟩
        ·refine Yf [.skip,.skip,.skip,.plain,.plain,.skip,.plain,.plain] [2] ?_
         exact YS ⟨false,rfl,h⟩
       ·refine Yf [.skip,.skip,.skip,.plain,.plain,.skip,.skip,.skip,.skip,.plain,.plain,.skip,.plain,.plain] [2] ?_
        exact YS ⟨false,rfl,h⟩
      ·refine Yf [.skip,.plain,.plain,.skip,.skip,.skip,.skip,.plain,.plain,.skip,.skip,.skip,.skip,.plain,.plain,.skip,.plain,.plain] [2] ?_
       exact YS ⟨false,rfl,h⟩
end
end Go.Proofs.YtofjmclceflgiaaGreat
