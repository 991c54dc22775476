/- WRITTEN BY PROGRAM (dec.py): for each Go function the clean formula F, the call's contract C, and the proof S that F gives C. -/
import Derived.Test.YtofjmclceflgiaaGreatRows
import Derived.Test.YtofjmclceflgiaaGreatGF
namespace Go.Proofs.YtofjmclceflgiaaGreat
open Go
set_option linter.unusedVariables false
set_option maxRecDepth 100000
set_option maxHeartbeats 4000000
noncomputable section

/-! ### (*towpath/feed.Feed).Dispatch (function 217) -/

theorem S_N {f:OA} {mark:Int} {w:World} {R:T_b→Int→WP} (h:F_ec f mark R w):C_k f mark w R:=by
 unfold F_ec at h
 refine Yh Tryz.func217 ?_
 ·refine Yt ?_
  refine Yw pv_ h fun b_ w1 h=> ?_
  refine Yf P1 [0,1,4] (Ys (Yd 0 (Yt (Yn P1 ?_))))
  refine Ym1 h fun v9 w2 h=> ?_
  refine Yf P2 [0,1,4,7] ?_
  refine Yc h (fun h=> ?_) fun h=> ?_
  ·refine Yt (Yn P1 ?_)
   refine Yo h fun w3 h=> ?_
   refine Yf P1 [4,5] ?_
   obtain⟨res,hc_res,h⟩:=h
   exact YTg (rs:=[(ResultVar.cell 4 72),(ResultVar.tmp 5)]) (vs:=[Value.agg #[Vi res.Number,sv_ res.Writes],Vi 2]) (⟨b_,0,[Vi res.Number,sv_ res.Writes],K_,hc_res,(zq (k:=2) K_ K_),.inl ⟨K_,rfl⟩,⟨K_,trivial⟩⟩) ⟨res,2,rfl,h⟩
  ·refine Yt (Yn P1 ?_)
   refine Yv 13 h fun hp_3 h=> ?_
   refine Yn P1 (Yn P1 ?_)
   refine Yl h fun v16 h=> ?_
   refine zw (op:=(Op.binOp BinOp.eql 191 (Operand.tmp 16) (Operand.const (Vp none)) 191)) (ty:=4) (dst:=some 17) (Vo v16.isNone) K_ (fun ww=>zy (p:=v16) K_ K_ K_ ww) ?_
   refine Yf P1 [0,1,4,12] ?_
   refine Yc h (fun h=> ?_) fun h=> ?_
   ·refine Yt (Yn P1 ?_)
    refine Yo h fun w4 h=> ?_
    refine Yf P1 [4,5] ?_
    obtain⟨res1,hc_res1,h⟩:=h
    exact YTg (rs:=[(ResultVar.cell 4 72),(ResultVar.tmp 5)]) (vs:=[Value.agg #[Vi res1.Number,sv_ res1.Writes],Vi 9]) (⟨b_,0,[Vi res1.Number,sv_ res1.Writes],K_,hc_res1,(zq (k:=2) K_ K_),.inl ⟨K_,rfl⟩,⟨K_,trivial⟩⟩) ⟨res1,9,rfl,h⟩
   ·refine Ycut (fun l w=>∃(t19:Bool),l=[(0,Vp f),(4,pv_ b_),(19,Vo t19)]∧F_u f R b_ t19 w) ?_ ?_
    ·refine Yr (Yn P1 ?_)
     refine Ym1 h fun v21 w11 h=> ?_
     refine Yn P3 ?_
     refine Yspl 22 h (fun h=> ?_) fun h=> ?_
     ·refine Yf [.skip,.skip,.plain,.plain] [0,4,19] ?_
      exact⟨_,Sub.mk K_,true,rfl,h⟩
     ·refine Ym1 h fun v25 w12 h=> ?_
      refine Yf [.sure,.plain,.plain] [0,4,19] ?_
      exact⟨_,Sub.mk K_,(!v25),rfl,h⟩
    ·rintro _ w5 ⟨t19,rfl,h⟩
     unfold F_u at h
     refine Yc h (fun h=> ?_) fun h=> ?_
     ·refine Yt (Yn P1 ?_)
      refine Yo h fun w6 h=> ?_
      refine Yf P1 [4,5] ?_
      obtain⟨res2,hc_res2,h⟩:=h
      exact YTg (rs:=[(ResultVar.cell 4 72),(ResultVar.tmp 5)]) (vs:=[Value.agg #[Vi res2.Number,sv_ res2.Writes],Vi 6]) (⟨b_,0,[Vi res2.Number,sv_ res2.Writes],K_,hc_res2,(zq (k:=2) K_ K_),.inl ⟨K_,rfl⟩,⟨K_,trivial⟩⟩) ⟨res2,6,rfl,h⟩
     ·refine zk (Yt (Yn P1 ?_))
      refine Yv 29 h fun hp_6 h=> ?_
      refine Yn P1 (Yn P1 ?_)
      refine Yl h fun v32 h=> ?_
      refine Yv 32 h fun hp_7 h=> ?_
      refine Yn P1 ?_
      refine YL h fun v34 h=> ?_
      refine Yw pv_ h fun b_1 w7 h=> ?_
      refine Yo h fun w8 h=> ?_
      refine Yf [] [0,4,6] (Yt (Yn P1 ?_))
      refine Yv 35 h fun hp_9 h=> ?_
      refine Yn P1 (Yn P1 ?_)
      refine Yo h fun w9 h=> ?_
      refine Yf [] [4,6] (Yt ?_)
      refine YL h fun v38 h=> ?_
      refine Yo h fun w10 h=> ?_
      refine Yf P1 [4,5] ?_
      obtain⟨res3,hc_res3,h⟩:=h
      exact YTg (rs:=[(ResultVar.cell 4 72),(ResultVar.tmp 5)]) (vs:=[Value.agg #[Vi res3.Number,sv_ res3.Writes],Vi 0]) (⟨b_,0,[Vi res3.Number,sv_ res3.Writes],K_,hc_res3,(zq (k:=2) K_ K_),.inl ⟨K_,rfl⟩,⟨K_,trivial⟩⟩) ⟨res3,0,rfl,h⟩

/-! ### (*towpath/feed.Feed).skips (function 219) -/
def zat:=cb_ Tryz.f219
def zbt:=cr_ zat
def zct:=cl_ zbt
def zdt:=co_ zct
def zzd:List Nat:=[0,1,2,3,4,5,6,7,8,9,10,11,12,13,14,15,16,17]

theorem S_7 {f:OA} {w:World} {R:Bool→WP} (h:F_Oc f R w):C_Z f w R:=by
 unfold F_Oc at h
 refine Yh Tryz.func219 ?_
 ·refine Yp P1 [0] (Ys ?_)
  refine zm (id:=1) (ops:=zdt) zzd K_ K_ K_ K_ (fun w1 hw=> ?_)
  replace h:=h w1 hw
  clear hw
  refine Mn P1 ?_
  refine Mv 6 h fun hp_3 h=> ?_
  refine Mn P1 ?_
  refine Mn P1 ?_
  refine Ml 3 h fun v9 hc h=> ?_
  refine Mn P1 ?_
  refine Mv 10 h fun hp_4 h=> ?_
  refine Mn P1 ?_
  refine Mn P1 ?_
  refine Ml 7 h fun v13 hc h=> ?_
  refine Mv 13 h fun hp_5 h=> ?_
  refine Mn P1 ?_
  refine Mn P1 ?_
  refine Ml 10 h fun v16 hc h=> ?_
  obtain⟨es,hm_,hi_,h⟩:=h
  refine zEh (i:=11) K_ (t:=189) (kt:=3) (et:=190) (x:=(Operand.tmp 9)) (k:=(Operand.tmp 16)) (m:=v9) (es:=es) (j:=v16) (ty:=340) (dst:=some 17) K_ K_ K_ K_ K_ (fun w_=>by kernel_rfl) hm_ hi_ ?_
  refine Mn P3 ?_
  refine z7 (op:=(Op.alloc 190)) (ty:=0) (dst:=some 3) 15 [] [(11,fun w'=>zHb w' v9 es),(10,fun w'=>w'.cell? ⟨(pblk v13),(poff v13),none⟩=some (Vi v16)),(7,fun w'=>w'.cell? ⟨(pblk f),(poff f)+5,none⟩=some (Vp v13)),(3,fun w'=>w'.cell? ⟨(pblk f),(poff f)+4,none⟩=some (Value.map v9))] (fun bb=>pv_ bb) (Obj.cells ([]).toArray y_G (0,0)) K_ K_ K_ K_ K_ K_ (fun b_ w2 hb hw=> ?_)
  replace h:=h b_ w2 hb hw
  clear hb hw
  obtain⟨hk0,hk1,hk2,hk3,h⟩:=h
  refine⟨⟨hk0,hk1,hk2,hk3,trivial⟩,?_⟩
  refine z3b 16 [0,1,2,3,4,5,6,7,8,9,10,11,12,13,15] [] h fun w3 h=> ?_
  refine⟨trivial,?_⟩
  refine Mf P1 [4] ?_
  refine Yp P2 [2] ?_
  exact YS ⟨(ztb es v16),rfl,h⟩

/-! ### (*towpath/feed.Feed).near (function 220) -/
def zet:=cb_ Tryz.f220
def zft:=cr_ zet
def zgt:=cl_ zft
def zht:=co_ zgt

theorem S_ob {f:OA} {mark:Int} {w:World} {R:Bool→WP} (h:F_5c f mark R w):C_8 f mark w R:=by
 unfold F_5c at h
 refine Yh Tryz.func220 ?_
 ·refine Yp P1 [0,1] (Ys ?_)
  refine zv (id:=1) (ops:=zht) K_ K_ K_ ?_
  refine Qn P1 ?_
  refine Qv 5 h fun hp_0 h=> ?_
  refine Qn P1 ?_
  refine Qn P1 ?_
  refine Ql h fun v8 h=> ?_
  refine Qv 8 h fun hp_1 h=> ?_
  refine Qn P1 ?_
  refine Qn P1 ?_
  refine Ql h fun v11 h=> ?_
  refine Qn P1 ?_
  refine Qv 12 h fun hp_2 h=> ?_
  refine Qn P1 ?_
  refine Qn P1 ?_
  refine Ql h fun v15 h=> ?_
  refine Qf P4 [4] h fun w1 h=> ?_
  exact YS ⟨(decide ((IntKind.i64.wrap (v11 - v15))≤mark)),rfl,h⟩
end
end Go.Proofs.YtofjmclceflgiaaGreat
