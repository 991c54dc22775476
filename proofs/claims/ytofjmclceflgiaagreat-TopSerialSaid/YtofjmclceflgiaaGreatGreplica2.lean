/- WRITTEN BY PROGRAM (dec.py): for each Go function the clean formula F, the call's contract C, and the proof S that F gives C. -/
import Derived.Test.YtofjmclceflgiaaGreatRows
import Derived.Test.YtofjmclceflgiaaGreatGF
namespace Go.Proofs.YtofjmclceflgiaaGreat
open Go
set_option linter.unusedVariables false
set_option maxRecDepth 100000
set_option maxHeartbeats 4000000
noncomputable section

/-! ### (*towpath/replica.Replica).Ready (function 23) -/

theorem S_x {r:OA} {w:World} {R:Slc→WP} (h:F_Hb r R w):C_v r w R:=by
 unfold F_Hb at h
 refine Yh Tryz.func23 ?_
 ·refine Yp P1 [0] (Ys ?_)
  refine Ycut (fun l w=>∃(t16:Bool),l=[(0,Vp r),(16,Vo t16)]∧F_A r R t16 w) ?_ ?_
  ·refine Yr (Yn P1 ?_)
   refine Ym1 h fun v9 w17 h=> ?_
   refine Yn P3 ?_
   refine Yspl 11 h (fun h=> ?_) fun h=> ?_
   ·refine Yf [.skip,.skip,.skip,.plain] [0,16] ?_
    exact⟨_,Sub.mk K_,true,rfl,h⟩
   ·refine Yv 12 h fun hp_27 h=> ?_
    refine Yn [.sure] (Yn [.sure] ?_)
    refine Yl h fun v15 h=> ?_
    refine Yf P1 [0,16] ?_
    exact⟨_,Sub.mk K_,v15,rfl,h⟩
  ·rintro _ w1 ⟨t16,rfl,h⟩
   unfold F_A at h
   refine Yc h (fun h=> ?_) fun h=> ?_
   ·refine Yp P1 [2] ?_
    exact YS ⟨(Slc.mk none 0 0),rfl,h⟩
   ·refine zk (Yp P1 [0,3] (Ys (Yt (Yn P1 ?_))))
    refine Yv 17 h fun hp_10 h=> ?_
    refine Yn P1 (Yn P1 ?_)
    refine Yl h fun v20 h=> ?_
    refine Yf P2 [0,3,20,21,22] (Yd 0 ?_)
    obtain⟨I,μ,h0,hr⟩:=h
    refine znb (fun m l w=>∃(l_:Slc) (t22:Int),l=[(0,Vp r),(3,sv_ l_),(20,sv_ v20),(21,Vi ((v20.len:Nat):Int)),(22,Vi t22)]∧I l_ t22 w∧μ l_ t22 w=m) ⟨(Slc.mk none 0 0),0,rfl,h0,rfl⟩ ?_
    rintro _ _ w2 ⟨l_,t22,rfl,hI,rfl⟩
    obtain⟨again_,again__h,h⟩:∃ again_:Slc→Int→WP,(∀ l_' t22' w',again_ l_' t22' w'→I l_' t22' w'∧μ l_' t22' w'<μ l_ t22 w2)∧F_Y r R v20 again_ l_ t22 w2:=⟨_,fun _ _ _ h=>h,hr l_ t22 w2 hI⟩
    clear h0 hI
    unfold F_Y at h
    refine Yp P1 [0,3,20,21,22,23] (Ys ?_)
    refine Yc h (fun h=> ?_) fun h=> ?_
    ·refine zk ?_
     refine Ycut (fun l w=>∃(l_1:Slc),l=[(0,Vp r),(3,sv_ l_1),(20,sv_ v20),(21,Vi ((v20.len:Nat):Int)),(22,Vi t22)]∧F_z t22 again_ l_1 w) ?_ ?_
     ·refine Yd 1 (Yt (Yn P1 ?_))
      obtain⟨hp_14,h⟩:=h
      refine Yu 20 (fun pp=> .slice pp v20.len v20.cap) hp_14 ?_
      refine Yi1 h fun h=> ?_
      refine Yl h fun t_ h=> ?_
      refine Yn P2 (Yu 20 (fun pp=> .slice pp v20.len v20.cap) hp_14.symm ?_)
      refine Yf [] [0,3,4,5,20,21,22] ?_
      refine Ycut (fun l w=>∃(t29:Bool),l=[(0,Vp r),(3,sv_ l_),(4,Vi t22),(20,sv_ v20),(21,Vi ((v20.len:Nat):Int)),(22,Vi t22),(29,Vo t29)]∧F_b l_ t22 again_ t29 w) ?_ ?_
      ·refine Yr (Yn P1 ?_)
       rcases h with ⟨r1,hx_,h⟩ | ⟨r2,hx_,h⟩ | ⟨r3,hx_,h⟩ | ⟨r4,hx_,h⟩ | ⟨r5,hx_,h⟩
       ·refine Yu 27 (fun pp=>pp) hx_ ?_
        refine Ym1 h fun v28 w7 h=> ?_
        refine Yf P1 [0,3,4,20,21,22,29] ?_
        exact⟨_,Sub.mk K_,(v28 != 0),rfl,h⟩
       ·refine Yu 27 (fun pp=>pp) hx_ ?_
        refine Ym1 h fun v281 w8 h=> ?_
        refine Yf P1 [0,3,4,20,21,22,29] ?_
        exact⟨_,Sub.mk K_,(v281 != 0),rfl,h⟩
       ·refine Yu 27 (fun pp=>pp) hx_ ?_
        refine Ym1 h fun v282 w9 h=> ?_
        refine Yf P1 [0,3,4,20,21,22,29] ?_
        exact⟨_,Sub.mk K_,(v282 != 0),rfl,h⟩
       ·refine Yu 27 (fun pp=>pp) hx_ ?_
        refine Ym1 h fun v283 w10 h=> ?_
        refine Yf P1 [0,3,4,20,21,22,29] ?_
        exact⟨_,Sub.mk K_,(v283 != 0),rfl,h⟩
       ·refine Yu 27 (fun pp=>pp) hx_ ?_
        refine Ym1 h fun v284 w11 h=> ?_
        refine Yf P1 [0,3,4,20,21,22,29] ?_
        exact⟨_,Sub.mk K_,(v284 != 0),rfl,h⟩
      ·rintro _ w4 ⟨t29,rfl,h⟩
       unfold F_b at h
       refine Yc h (fun h=> ?_) fun h=> ?_
       ·refine Yr (Yn P2 ?_)
        refine Yw (sl_ 1 1) h fun b_ w5 h=> ?_
        obtain⟨src,hs,h⟩:=h
        refine zC (t:=25) (tx:=25) (e:=3) (a:=(Operand.tmp 30)) (xo:=(Operand.tmp 32)) (s:=l_) (x:=(Slc.mk (some ⟨b_,0,none⟩) 1 1)) (sz:=1) (by_:=8) (zs:=[Vi 0]) (ty:=25) (dst:=some 33)  src K_ K_ K_ K_ K_ K_ K_ K_ K_ hs (zo.mono h (fun l_2 w6 h=> ?_))
        refine Yf P1 [0,3,20,21,22] ?_
        exact⟨_,Sub.mk K_,l_2,rfl,h⟩
       ·refine zk ?_
        exact⟨_,Sub.mk K_,l_,rfl,h⟩
     ·rintro _ w3 ⟨l_1,rfl,h⟩
      unfold F_z at h
      refine Yr (Yf P2 [0,3,20,21,22] ?_)
      have hb_:=again__h _ _ _ h
      exact⟨_,hb_.2,_,Sub.mk K_,l_1,(IntKind.i64.wrap (t22+1)),rfl,hb_.1,rfl⟩
    ·refine z3 0 (Ys (Yt (Yn P1 ?_)))
     refine Yv 35 h fun hp_22 h=> ?_
     refine Yn P1 (Yn P1 ?_)
     refine Yl h fun v38 h=> ?_
     refine Yf P2 [3,38,39,40] (Yd 2 ?_)
     obtain⟨I,μ,h0,hr⟩:=h
     refine znb (fun m l w=>∃(l_3:Slc) (t40:Int),l=[(3,sv_ l_3),(38,sv_ v38),(39,Vi ((v38.len:Nat):Int)),(40,Vi t40)]∧I l_3 t40 w∧μ l_3 t40 w=m) ⟨l_,0,rfl,h0,rfl⟩ ?_
     rintro _ _ w12 ⟨l_3,t40,rfl,hI,rfl⟩
     obtain⟨again_1,again_1_h,h⟩:∃ again_1:Slc→Int→WP,(∀ l_3' t40' w',again_1 l_3' t40' w'→I l_3' t40' w'∧μ l_3' t40' w'<μ l_3 t40 w12)∧F_X R v38 again_1 l_3 t40 w12:=⟨_,fun _ _ _ h=>h,hr l_3 t40 w12 hI⟩
     clear h0 hI
     unfold F_X at h
     refine Yp P1 [3,38,39,40,41] (Ys ?_)
     refine Yc h (fun h=> ?_) fun h=> ?_
     ·refine zk ?_
      refine Ycut (fun l w=>∃(l_4:Slc),l=[(3,sv_ l_4),(38,sv_ v38),(39,Vi ((v38.len:Nat):Int)),(40,Vi t40)]∧F_W t40 again_1 l_4 w) ?_ ?_
      ·refine Yd 3 (Yt (Yn P1 ?_))
       obtain⟨hp_26,h⟩:=h
       refine Yu 38 (fun pp=> .slice pp v38.len v38.cap) hp_26 ?_
       refine Yi1 h fun h=> ?_
       refine Yl h fun c h=> ?_
       refine Yn P2 (Yu 38 (fun pp=> .slice pp v38.len v38.cap) hp_26.symm ?_)
       refine Yf [] [3,6,7,38,39,40] (Yt (Yn P1 ?_))
       refine Ym1 h fun v46 w14 h=> ?_
       refine Yf P1 [3,6,38,39,40,47] ?_
       refine Yc h (fun h=> ?_) fun h=> ?_
       ·refine Yr (Yn P3 ?_)
        refine Yw (sl_ 1 1) h fun b_1 w15 h=> ?_
        obtain⟨src,hs,h⟩:=h
        refine zC (t:=25) (tx:=25) (e:=3) (a:=(Operand.tmp 48)) (xo:=(Operand.tmp 51)) (s:=l_3) (x:=(Slc.mk (some ⟨b_1,0,none⟩) 1 1)) (sz:=1) (by_:=8) (zs:=[Vi 0]) (ty:=25) (dst:=some 52)  src K_ K_ K_ K_ K_ K_ K_ K_ K_ hs (zo.mono h (fun l_5 w16 h=> ?_))
        refine Yf P1 [3,38,39,40] ?_
        exact⟨_,Sub.mk K_,l_5,rfl,h⟩
       ·refine zk ?_
        exact⟨_,Sub.mk K_,l_3,rfl,h⟩
      ·rintro _ w13 ⟨l_4,rfl,h⟩
       unfold F_W at h
       refine Yr (Yf P2 [3,38,39,40] ?_)
       have hb_:=again_1_h _ _ _ h
       exact⟨_,hb_.2,_,Sub.mk K_,l_4,(IntKind.i64.wrap (t40+1)),rfl,hb_.1,rfl⟩
     ·refine z3 2 (Yp P2 [2] ?_)
      exact YS ⟨l_3,rfl,h⟩

/-! ### (*towpath/replica.Replica).Step (function 24) -/

theorem S_E {r:OA} {n_:Int} {w:World} {R:T_a→Int→WP} (h:F_Tb r n_ R w):C_W r n_ w R:=by
 unfold F_Tb at h
 refine Yh Tryz.func24 ?_
 ·refine Yt ?_
  refine Yw pv_ h fun b_ w1 h=> ?_
  refine Yf P1 [0,1,4] (Ys (Yd 0 (Yt (Yn P1 ?_))))
  refine Ym1 h fun v12 w2 h=> ?_
  refine Yf P2 [0,1,4,10] ?_
  refine Yc h (fun h=> ?_) fun h=> ?_
  ·refine Yt (Yn P1 ?_)
   refine Yo h fun w3 h=> ?_
   refine Yf P1 [4,5] ?_
   obtain⟨res,hc_res,h⟩:=h
   exact YTg (rs:=[(ResultVar.cell 4 35),(ResultVar.tmp 5)]) (vs:=[Value.agg #[Vi res.Task,Value.int .u8 res.Kind,Vi res.Number,Vi res.Shard,Vi res.Count,Vi res.Mark],Vi 2]) (⟨b_,0,[Vi res.Task,Value.int .u8 res.Kind,Vi res.Number,Vi res.Shard,Vi res.Count,Vi res.Mark],K_,hc_res,(zq (k:=6) K_ K_),.inl ⟨K_,rfl⟩,⟨K_,trivial⟩⟩) ⟨res,2,rfl,h⟩
  ·refine Yt (Yn P1 ?_)
   refine Yv 16 h fun hp_3 h=> ?_
   refine Yn P1 (Yn P1 ?_)
   refine Yl h fun v19 h=> ?_
   refine Yf P1 [0,1,4,15] ?_
   refine Yc h (fun h=> ?_) fun h=> ?_
   ·refine Yt (Yn P1 ?_)
    refine Yo h fun w4 h=> ?_
    refine Yf P1 [4,5] ?_
    obtain⟨res1,hc_res1,h⟩:=h
    exact YTg (rs:=[(ResultVar.cell 4 35),(ResultVar.tmp 5)]) (vs:=[Value.agg #[Vi res1.Task,Value.int .u8 res1.Kind,Vi res1.Number,Vi res1.Shard,Vi res1.Count,Vi res1.Mark],Vi 11]) (⟨b_,0,[Vi res1.Task,Value.int .u8 res1.Kind,Vi res1.Number,Vi res1.Shard,Vi res1.Count,Vi res1.Mark],K_,hc_res1,(zq (k:=6) K_ K_),.inl ⟨K_,rfl⟩,⟨K_,trivial⟩⟩) ⟨res1,11,rfl,h⟩
   ·refine zk (Yt (Yn P2 ?_))
    refine Ym2 h fun t_ ok w5 h=> ?_
    refine Yf (Pl 5) [0,1,4,6,7] (Ys (Yp P2 [0,1,4,6,28] ?_))
    refine Yc h (fun h=> ?_) fun h=> ?_
    ·refine Yt (Yn P1 ?_)
     refine Yo h fun w6 h=> ?_
     refine Yf P1 [4,5] ?_
     obtain⟨res2,hc_res2,h⟩:=h
     exact YTg (rs:=[(ResultVar.cell 4 35),(ResultVar.tmp 5)]) (vs:=[Value.agg #[Vi res2.Task,Value.int .u8 res2.Kind,Vi res2.Number,Vi res2.Shard,Vi res2.Count,Vi res2.Mark],Vi 1]) (⟨b_,0,[Vi res2.Task,Value.int .u8 res2.Kind,Vi res2.Number,Vi res2.Shard,Vi res2.Count,Vi res2.Mark],K_,hc_res2,(zq (k:=6) K_ K_),.inl ⟨K_,rfl⟩,⟨K_,trivial⟩⟩) ⟨res2,1,rfl,h⟩
    ·refine zk ?_
     refine Ycut (fun l w=>∃(k_:Int),l=[(0,Vp r),(1,Vi n_),(4,pv_ b_),(6,t_),(8,Value.int .u8 k_)]∧F_a r n_ R b_ t_ k_ w) ?_ ?_
     ·refine Yr (Yn P1 ?_)
      rcases h with ⟨r6,hx_,h⟩ | ⟨r7,hx_,h⟩ | ⟨r8,hx_,h⟩ | ⟨r9,hx_,h⟩ | ⟨r10,hx_,h⟩
      ·refine Yu 30 (fun pp=>pp) hx_ ?_
       refine Ym1 h fun v31 w30 h=> ?_
       refine Yf P1 [0,1,4,6,8] ?_
       exact⟨_,Sub.mk K_,v31,rfl,h⟩
      ·refine Yu 30 (fun pp=>pp) hx_ ?_
       refine Ym1 h fun v311 w31 h=> ?_
       refine Yf P1 [0,1,4,6,8] ?_
       exact⟨_,Sub.mk K_,v311,rfl,h⟩
      ·refine Yu 30 (fun pp=>pp) hx_ ?_
       refine Ym1 h fun v312 w32 h=> ?_
       refine Yf P1 [0,1,4,6,8] ?_
       exact⟨_,Sub.mk K_,v312,rfl,h⟩
      ·refine Yu 30 (fun pp=>pp) hx_ ?_
       refine Ym1 h fun v313 w33 h=> ?_
       refine Yf P1 [0,1,4,6,8] ?_
       exact⟨_,Sub.mk K_,v313,rfl,h⟩
      ·refine Yu 30 (fun pp=>pp) hx_ ?_
       refine Ym1 h fun v314 w34 h=> ?_
       refine Yf P1 [0,1,4,6,8] ?_
       exact⟨_,Sub.mk K_,v314,rfl,h⟩
     ·rintro _ w7 ⟨k_,rfl,h⟩
      unfold F_a at h
      refine Ys (Yp P2 [0,1,4,6,8,33] ?_)
      refine Yc h (fun h=> ?_) fun h=> ?_
      ·refine Yt (Yn P1 ?_)
       refine Yo h fun w8 h=> ?_
       refine Yf P1 [4,5] ?_
       obtain⟨res3,hc_res3,h⟩:=h
       exact YTg (rs:=[(ResultVar.cell 4 35),(ResultVar.tmp 5)]) (vs:=[Value.agg #[Vi res3.Task,Value.int .u8 res3.Kind,Vi res3.Number,Vi res3.Shard,Vi res3.Count,Vi res3.Mark],Vi 10]) (⟨b_,0,[Vi res3.Task,Value.int .u8 res3.Kind,Vi res3.Number,Vi res3.Shard,Vi res3.Count,Vi res3.Mark],K_,hc_res3,(zq (k:=6) K_ K_),.inl ⟨K_,rfl⟩,⟨K_,trivial⟩⟩) ⟨res3,10,rfl,h⟩
      ·refine zk ?_
       refine Ycut (fun l w=>∃(ev:OA),l=[(0,Vp r),(1,Vi n_),(4,pv_ b_),(8,Value.int .u8 k_),(9,Vp ev)]∧F_d r n_ R b_ k_ ev w) ?_ ?_
       ·refine Yr (Yn P2 ?_)
        rcases h with ⟨r1,hx_,h⟩ | ⟨r2,hx_,h⟩ | ⟨r3,hx_,h⟩ | ⟨r4,hx_,h⟩ | ⟨r5,hx_,h⟩
        ·refine Yu 35 (fun pp=>pp) hx_ ?_
         refine Ym1 h fun v37 w15 h=> ?_
         refine Yw pv_ h fun b_1 w16 h=> ?_
         refine Yo h fun w17 h=> ?_
         refine Yf [] [0,1,4,8,9] ?_
         exact⟨_,Sub.mk K_,(some ⟨b_1,0,none⟩),rfl,h⟩
        ·refine Yu 35 (fun pp=>pp) hx_ ?_
         refine Ym1 h fun v371 w18 h=> ?_
         refine Yw pv_ h fun b_2 w19 h=> ?_
         refine Yo h fun w20 h=> ?_
         refine Yf [] [0,1,4,8,9] ?_
         exact⟨_,Sub.mk K_,(some ⟨b_2,0,none⟩),rfl,h⟩
        ·refine Yu 35 (fun pp=>pp) hx_ ?_
         refine Ym1 h fun v372 w21 h=> ?_
         refine Yw pv_ h fun b_3 w22 h=> ?_
         refine Yo h fun w23 h=> ?_
         refine Yf [] [0,1,4,8,9] ?_
         exact⟨_,Sub.mk K_,(some ⟨b_3,0,none⟩),rfl,h⟩
        ·refine Yu 35 (fun pp=>pp) hx_ ?_
         refine Ym1 h fun v373 w24 h=> ?_
         refine Yw pv_ h fun b_4 w25 h=> ?_
         refine Yo h fun w26 h=> ?_
         refine Yf [] [0,1,4,8,9] ?_
         exact⟨_,Sub.mk K_,(some ⟨b_4,0,none⟩),rfl,h⟩
        ·refine Yu 35 (fun pp=>pp) hx_ ?_
         refine Ym1 h fun v374 w27 h=> ?_
         refine Yw pv_ h fun b_5 w28 h=> ?_
         refine Yo h fun w29 h=> ?_
         refine Yf [] [0,1,4,8,9] ?_
         exact⟨_,Sub.mk K_,(some ⟨b_5,0,none⟩),rfl,h⟩
       ·rintro _ w9 ⟨ev,rfl,h⟩
        unfold F_d at h
        refine Yt (Yn P3 ?_)
        refine Yv 40 h fun hp_6 h=> ?_
        refine Yn P1 (Yn P1 ?_)
        refine Yl h fun v43 h=> ?_
        refine Ym1 h fun v44 w10 h=> ?_
        refine Yv 9 h fun hp_7 h=> ?_
        refine Yn P1 ?_
        refine Yo h fun w11 h=> ?_
        refine Yn P1 ?_
        refine Yo h fun w12 h=> ?_
        refine Yn P1 ?_
        refine Yo h fun w13 h=> ?_
        refine Yu 9 (fun pp=> .pointer pp) hp_7.symm ?_
        refine Yf [] [4,9] (Yt ?_)
        refine Yv 9 h fun hp_8 h=> ?_
        refine YL h fun v48 h=> ?_
        refine Yo h fun w14 h=> ?_
        refine Yf P1 [4,5] ?_
        obtain⟨res4,hc_res4,h⟩:=h
        exact YTg (rs:=[(ResultVar.cell 4 35),(ResultVar.tmp 5)]) (vs:=[Value.agg #[Vi res4.Task,Value.int .u8 res4.Kind,Vi res4.Number,Vi res4.Shard,Vi res4.Count,Vi res4.Mark],Vi 0]) (⟨b_,0,[Vi res4.Task,Value.int .u8 res4.Kind,Vi res4.Number,Vi res4.Shard,Vi res4.Count,Vi res4.Mark],K_,hc_res4,(zq (k:=6) K_ K_),.inl ⟨K_,rfl⟩,⟨K_,trivial⟩⟩) ⟨res4,0,rfl,h⟩

/-! ### (*towpath/replica.Replica).Versions$1 (function 32) -/

theorem S_j {a_:T_k} {b_:T_k} {w:World} {R:Int→WP} (h:F_gb a_ b_ R w):C_2 a_ b_ w R:=by
 unfold F_gb at h
 refine Yh Tryz.func32 ?_
 ·refine Yt ?_
  refine Yw pv_ h fun b_1 w1 h=> ?_
  refine Yw pv_ h fun b_2 w2 h=> ?_
  refine Yf P1 [2,3] (Yt (Yn P1 ?_))
  refine Yl h fun v6 h=> ?_
  refine Yn P1 ?_
  refine Yl h fun v8 h=> ?_
  refine Ym1 h fun v9 w3 h=> ?_
  refine Yf P1 [4] ?_
  exact YS ⟨v9,rfl,h⟩

/-! ### (*towpath/replica.Replica).of (function 46) -/

theorem S_P {r:OA} {n_:Int} {w:World} {R:Value→Bool→WP} (h:F_9b r n_ R w):C_Db r n_ w R:=by
 unfold F_9b at h
 refine Yh Tryz.func46 ?_
 ·refine Yp P2 [0,1] (Yp P1 [0,1,6] (Ys (Yd 0 ?_)))
  refine Ycut (fun l w=>∃(t7:Bool),l=[(0,Vp r),(1,Vi n_),(6,Value.func (.func 72) #[] #[]),(7,Vo t7)]∧F_K r n_ R t7 w) ?_ ?_
  ·refine Yr (Yn (Pl 6) ?_)
   refine Yspl 10 h (fun h=> ?_) fun h=> ?_
   ·refine Yv 13 h fun hp_15 h=> ?_
    refine Yn [.sure] (Yn [.sure] ?_)
    refine Yl h fun v16 h=> ?_
    refine Yn [.sure] ?_
    refine Ym1 h fun v18 w4 h=> ?_
    refine Yf P2 [0,1,6,7] ?_
    exact⟨_,Sub.mk K_,v18,rfl,h⟩
   ·refine Yf [.skip,.skip,.skip,.skip,.skip,.plain,.plain] [0,1,6,7] ?_
    exact⟨_,Sub.mk K_,false,rfl,h⟩
  ·rintro _ w1 ⟨t7,rfl,h⟩
   unfold F_K at h
   refine Yc h (fun h=> ?_) fun h=> ?_
   ·refine Yt (Yn P1 ?_)
    refine Yv 20 h fun hp_9 h=> ?_
    refine Yn P1 (Yn P1 ?_)
    refine Yl h fun v23 h=> ?_
    refine Yn P1 ?_
    obtain⟨hp_10,h⟩:=h
    refine Yu 23 (fun pp=> .slice pp v23.len v23.cap) hp_10 ?_
    refine Yi1 h fun h=> ?_
    refine Yl h fun v26 h=> ?_
    refine Yf P2 [4,5] ?_
    exact YT2 ⟨v26,true,rfl,h⟩
   ·refine Ycut (fun l w=>∃(t27:Bool),l=[(0,Vp r),(1,Vi n_),(27,Vo t27)]∧F_bb r n_ R t27 w) ?_ ?_
    ·refine Yr (Yn (Pl 7) ?_)
     refine Yspl 30 h (fun h=> ?_) fun h=> ?_
     ·refine Yv 34 h fun hp_14 h=> ?_
      refine Yn [.sure] (Yn [.sure] ?_)
      refine Yl h fun v37 h=> ?_
      refine Yn [.sure] ?_
      refine Ym1 h fun v39 w3 h=> ?_
      refine Yf P2 [0,1,27] ?_
      exact⟨_,Sub.mk K_,v39,rfl,h⟩
     ·refine Yf [.skip,.skip,.skip,.skip,.skip,.plain,.plain] [0,1,27] ?_
      exact⟨_,Sub.mk K_,false,rfl,h⟩
    ·rintro _ w2 ⟨t27,rfl,h⟩
     unfold F_bb at h
     refine Yc h (fun h=> ?_) fun h=> ?_
     ·refine Yt (Yn P1 ?_)
      refine Yv 41 h fun hp_12 h=> ?_
      refine Yn P1 (Yn P1 ?_)
      refine Yl h fun v44 h=> ?_
      refine Yn P2 ?_
      obtain⟨hp_13,h⟩:=h
      refine Yu 44 (fun pp=> .slice pp v44.len v44.cap) hp_13 ?_
      refine Yi1 h fun h=> ?_
      refine Yl h fun v48 h=> ?_
      refine Yf P3 [4,5] ?_
      exact YT2 ⟨(Value.iface 97 (Vp v48)),true,rfl,h⟩
     ·refine zk (Yp P2 [4,5] ?_)
      exact YT2 ⟨Value.nilIface,false,rfl,h⟩

/-! ### (towpath/replica.part).room (function 69) -/

theorem S_Z {p:T_i} {shard:Int} {w:World} {R:Bool→WP} (h:F_oc p shard R w):C_ab p shard w R:=by
 unfold F_oc at h
 refine Yh Tryz.func69 ?_
 ·refine Yt ?_
  refine Yw pv_ h fun b_ w1 h=> ?_
  refine Yf P1 [1,2] (Yt (Yn P1 ?_))
  refine Yl h fun v6 h=> ?_
  refine Yv 6 h fun hp_0 h=> ?_
  refine Yn P1 (Yn P1 ?_)
  refine Yl h fun v9 h=> ?_
  refine Yn P1 ?_
  obtain⟨hp_1,h⟩:=h
  refine Yu 9 (fun pp=> .slice pp v9.len v9.cap) hp_1 ?_
  refine Yi1 h fun h=> ?_
  refine Yl h fun v12 h=> ?_
  refine Ym1 h fun v13 w2 h=> ?_
  refine Yf P2 [4] ?_
  exact YS ⟨(decide (v13>0)),rfl,h⟩

/-! ### (*towpath/replica.Replica).of$1 (function 72) -/

theorem S_F {at_:Int} {most:Int} {w:World} {R:Bool→WP} (h:F_Ub at_ most R w):C_X at_ most w R:=by
 unfold F_Ub at h
 refine Yh Tryz.func72 ?_
 ·refine Yp P1 [0,1] (Yp [.plain,.plain,.plain,.plain,.plain,.plain,.pick,.plain] [4] ?_)
  exact YS ⟨((decide (at_≥0))&&(decide (at_<most))),rfl,h⟩

/-! ### (towpath/replica.part).mark (function 181) -/

theorem S_0 {p:T_i} {w:World} {R:Int→WP} (h:F_rc p R w):C_m p w R:=by
 unfold F_rc at h
 refine Yh Tryz.func181 ?_
 ·refine Yt ?_
  refine Yw pv_ h fun b_ w1 h=> ?_
  refine Yf P1 [1] (Yt (Yn P1 ?_))
  refine Yl h fun v4 h=> ?_
  refine Yv 4 h fun hp_0 h=> ?_
  refine Yn P1 (Yn P1 ?_)
  refine Yl h fun v7 h=> ?_
  refine Ym1 h fun v8 w2 h=> ?_
  refine Yf P1 [2] ?_
  exact YS ⟨v8,rfl,h⟩
end
end Go.Proofs.YtofjmclceflgiaaGreat
