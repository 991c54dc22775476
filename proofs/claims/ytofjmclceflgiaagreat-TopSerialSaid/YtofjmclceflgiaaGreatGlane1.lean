/- WRITTEN BY PROGRAM (dec.py): for each Go function the clean formula F, the call's contract C, and the proof S that F gives C. -/
import Derived.Test.YtofjmclceflgiaaGreatRows
import Derived.Test.YtofjmclceflgiaaGreatGF
namespace Go.Proofs.YtofjmclceflgiaaGreat
open Go
set_option linter.unusedVariables false
set_option maxRecDepth 100000
set_option maxHeartbeats 4000000
noncomputable section

/-! ### (*towpath/lane.Lane).Acked (function 238) -/

theorem S_bb {l_:OA} {w:World} {R:Int→WP} (h:F_Rc l_ R w):C_nb l_ w R:=by
 unfold F_Rc at h
 refine Yh Tryz.func238 ?_
 ·refine Yp P1 [0] (Ys (Yt (Yn P1 ?_)))
  refine Ym1 h fun v6 w1 h=> ?_
  refine Yf [] [0,6] ?_
  refine Yc h (fun h=> ?_) fun h=> ?_
  ·refine Yp P1 [2] ?_
   exact YS ⟨2,rfl,h⟩
  ·refine zk (Yt (Yn P1 ?_))
   refine Ym2 h fun b_ ok w2 h=> ?_
   refine Yf (Pl 5) [3,4] (Ys ?_)
   refine Ycut (fun l w=>∃(t20:Bool),l=[(3,Vp b_),(20,Vo t20)]∧F_I R b_ t20 w) ?_ ?_
   ·refine Yr (Yn P4 ?_)
    refine Yspl 14 h (fun h=> ?_) fun h=> ?_
    ·refine Yf [.skip,.skip,.skip,.skip,.plain] [3,20] ?_
     exact⟨_,Sub.mk K_,true,rfl,h⟩
    ·refine Yv 15 h fun hp_5 h=> ?_
     refine Yn [.sure] (Yn [.sure] ?_)
     refine Yl h fun v18 h=> ?_
     refine Yf [.sure,.plain] [3,20] ?_
     exact⟨_,Sub.mk K_,(v18==0),rfl,h⟩
   ·rintro _ w3 ⟨t20,rfl,h⟩
    unfold F_I at h
    refine Yc h (fun h=> ?_) fun h=> ?_
    ·refine Yp P1 [2] ?_
     exact YS ⟨9,rfl,h⟩
    ·refine zk (Yt (Yn P1 ?_))
     refine Yv 21 h fun hp_4 h=> ?_
     refine Yn P1 (Yn P1 ?_)
     refine Yl h fun v24 h=> ?_
     refine Yn P3 ?_
     refine Yo h fun w4 h=> ?_
     refine Yf [] [] (Yp P1 [2] ?_)
     exact YS ⟨0,rfl,h⟩

/-! ### (towpath/lane.none).next (function 302) -/

theorem S_ub {t0:T_l} {w:World} {R:T_d→Bool→WP} (h:F_cd t0 R w):C_Ab t0 w R:=by
 unfold F_cd at h
 refine Yh Tryz.func302 ?_
 ·refine Yt ?_
  refine Yw pv_ h fun b_ w1 h=> ?_
  refine Yw pv_ h fun b_1 w2 h=> ?_
  refine Yf P1 [2] (Yt (Yn P1 ?_))
  refine Yo h fun w3 h=> ?_
  refine Yf P1 [2,3] ?_
  obtain⟨res,hc_res,h⟩:=h
  exact YTg (rs:=[(ResultVar.cell 2 69),(ResultVar.tmp 3)]) (vs:=[Value.agg #[Value.string res.Key,Value.string res.Val,Vo res.Drop],Vo false]) (⟨b_1,0,[Value.string res.Key,Value.string res.Val,Vo res.Drop],K_,hc_res,(zq (k:=3) K_ K_),.inl ⟨K_,rfl⟩,⟨K_,trivial⟩⟩) ⟨res,false,rfl,h⟩

/-! ### (*towpath/lane.busy).next (function 305) -/

theorem S_vb {b_:OA} {w:World} {R:T_d→Bool→WP} (h:F_dd b_ R w):C_2b b_ w R:=by
 unfold F_dd at h
 refine Yh Tryz.func305 ?_
 ·refine Yt ?_
  refine Yw pv_ h fun b_1 w1 h=> ?_
  refine Yf P1 [0,2] (Ys (Yt (Yn P1 ?_)))
  refine Yv 4 h fun hp_3 h=> ?_
  refine Yn P1 (Yn P1 ?_)
  refine Yl h fun v7 h=> ?_
  refine Yf P2 [0,2,9] ?_
  refine Yc h (fun h=> ?_) fun h=> ?_
  ·refine Yt (Yn P1 ?_)
   refine Yo h fun w2 h=> ?_
   refine Yf P1 [2,3] ?_
   obtain⟨res,hc_res,h⟩:=h
   exact YTg (rs:=[(ResultVar.cell 2 69),(ResultVar.tmp 3)]) (vs:=[Value.agg #[Value.string res.Key,Value.string res.Val,Vo res.Drop],Vo false]) (⟨b_1,0,[Value.string res.Key,Value.string res.Val,Vo res.Drop],K_,hc_res,(zq (k:=3) K_ K_),.inl ⟨K_,rfl⟩,⟨K_,trivial⟩⟩) ⟨res,false,rfl,h⟩
  ·refine zk (Yt (Yn P1 ?_))
   refine Yv 11 h fun hp_4 h=> ?_
   refine Yn P1 (Yn P1 ?_)
   refine Yl h fun v14 h=> ?_
   obtain⟨hp_5,h⟩:=h
   refine Yu 14 (fun pp=> .slice pp v14.len v14.cap) hp_5 ?_
   refine Yi h fun h=> ?_
   refine YL h fun v16 h=> ?_
   refine Yo h fun w3 h=> ?_
   refine Yf P1 [2,3] ?_
   obtain⟨res1,hc_res1,h⟩:=h
   exact YTg (rs:=[(ResultVar.cell 2 69),(ResultVar.tmp 3)]) (vs:=[Value.agg #[Value.string res1.Key,Value.string res1.Val,Vo res1.Drop],Vo true]) (⟨b_1,0,[Value.string res1.Key,Value.string res1.Val,Vo res1.Drop],K_,hc_res1,(zq (k:=3) K_ K_),.inl ⟨K_,rfl⟩,⟨K_,trivial⟩⟩) ⟨res1,true,rfl,h⟩
end
end Go.Proofs.YtofjmclceflgiaaGreat
