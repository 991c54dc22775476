/- WRITTEN BY PROGRAM (dec.py): for each Go function the clean formula F, the call's contract C, and the proof S that F gives C. -/
import Derived.Test.YtjlfdepkphibgaaGreatDoorRows
import Derived.Test.YtjlfdepkphibgaaGreatDoorGF
namespace Go.Proofs.YtjlfdepkphibgaaGreatDoor
open Go
set_option linter.unusedVariables false
set_option maxRecDepth 100000
set_option maxHeartbeats 4000000
noncomputable section

/-! ### towpath/dump.Decode$2 (function 158) -/

theorem S_Bc {t0:OA} {t1:OA} {t2:OA} {w:World} {R:Int→WP} (h:F_Me t0 t1 t2 R w):C_Ec t0 t1 t2 w R:=by
 unfold F_Me at h
 refine Yh Tryz.func158 ?_
 ·refine Yp P1 [0,1,2] (Ys (Yt ?_))
  refine Yv 0 h fun hp_3 h=> ?_
  refine Yl h fun v5 h=> ?_
  refine Yf P1 [1,2,6] ?_
  refine Yc h (fun h=> ?_) fun h=> ?_
  ·refine Yp P1 [3] ?_
   exact YS ⟨0,rfl,h⟩
  ·refine zg (Yt ?_)
   refine Yv 1 h fun hp_5 h=> ?_
   refine Yl h fun v7 h=> ?_
   refine Ym1 h fun v8 w1 h=> ?_
   refine Yf P1 [2,4] (Ys (Yt ?_))
   refine Yv 2 h fun hp_9 h=> ?_
   refine Yl h fun v9 h=> ?_
   refine Yn P2 ?_
   refine zgb (fo:=(Operand.tmp 9)) (aa:=#[(Operand.tmp 11),(Operand.const (Value.int IntKind.i64 3))]) (ts:=#[4,25]) (fv:=v9) (ty:=4) (dst:=some 12) #[Vo (decide (v8>65536)),Vi 3] K_ K_ K_ (zU.mono h ?_)
   rintro _ w2 ⟨v12,rfl,h⟩
   refine⟨_,rfl,?_⟩
   refine Yf [] [4,12] ?_
   refine Yc h (fun h=> ?_) fun h=> ?_
   ·refine Yp P1 [3] ?_
    exact YS ⟨0,rfl,h⟩
   ·refine zg (Yp P3 [3] ?_)
    exact YS ⟨(IntKind.i64.wrap v8),rfl,h⟩

/-! ### towpath/dump.Decode$3 (function 160) -/

theorem S_Cc {t0:OA} {t1:OA} {t2:OA} {t3:OA} {w:World} {R:T_c→WP} (h:F_Ne t0 t1 t2 t3 R w):C_Fc t0 t1 t2 t3 w R:=by
 unfold F_Ne at h
 refine Yh Tryz.func160 ?_
 ·refine Yt ?_
  refine Yw pv_ h fun b_ w1 h=> ?_
  refine Yf [] [0,1,2,3,4] (Yt ?_)
  refine Yv 0 h fun hp_1 h=> ?_
  refine Yl h fun v6 h=> ?_
  refine zgb (fo:=(Operand.tmp 6)) (aa:=#[]) (ts:=#[]) (fv:=v6) (ty:=3) (dst:=some 7) #[] K_ K_ K_ (zU.mono h ?_)
  rintro _ w2 ⟨v7,rfl,h⟩
  refine⟨_,rfl,?_⟩
  refine Yn P1 ?_
  refine Yo h fun w3 h=> ?_
  refine Yf [] [1,2,3,4] (Ys (Yt ?_))
  refine Yv 1 h fun hp_5 h=> ?_
  refine Yl h fun v9 h=> ?_
  refine Yf P1 [2,3,4,10] ?_
  refine Yc h (fun h=> ?_) fun h=> ?_
  ·refine Yt ?_
   refine YL h fun v11 h=> ?_
   refine Yo h fun w4 h=> ?_
   refine Yf [] [4] ?_
   obtain⟨res,hc_res,h⟩:=h
   exact YSg (rs:=[(ResultVar.cell 4 130)]) (v:=Value.agg #[Vi res.Number,Value.string res.Val,Vo res.Drop]) (⟨b_,0,[Vi res.Number,Value.string res.Val,Vo res.Drop],K_,hc_res,(zx (k:=3) K_ K_),.inl ⟨K_,rfl⟩,trivial⟩) ⟨res,rfl,h⟩
  ·refine zg (Yt ?_)
   refine Yv 2 h fun hp_7 h=> ?_
   refine Yl h fun v12 h=> ?_
   refine Ym1 h fun v13 w5 h=> ?_
   refine Yn P1 (Yu 2 (fun pp=> .pointer pp) hp_7.symm ?_)
   refine Yf [] [2,3,4,5] ?_
   refine Ycut (fun l w=>l=[(4,pv_ b_)]∧F_5b R b_ w) ?_ ?_
   ·refine Yt (Yn P3 ?_)
    refine Yo h fun w8 h=> ?_
    refine Yf [] [2,3,4,5] ?_
    refine Ycut (fun l w=>∃(t26:Bool),l=[(2,Vp t2),(3,Vp t3),(4,pv_ b_),(26,Vo t26)]∧F_Gb t2 t3 R b_ t26 w) ?_ ?_
    ·refine Yr ?_
     refine Yv 3 h fun hp_17 h=> ?_
     refine Yl h fun v17 h=> ?_
     refine Yn P2 ?_
     refine zgb (fo:=(Operand.tmp 17)) (aa:=#[(Operand.tmp 19),(Operand.const (Value.int IntKind.i64 4))]) (ts:=#[4,25]) (fv:=v17) (ty:=4) (dst:=some 20) #[Vo (decide (v13>1)),Vi 4] K_ K_ K_ (zU.mono h ?_)
     rintro _ w13 ⟨v20,rfl,h⟩
     refine⟨_,rfl,?_⟩
     refine Yn P3 ?_
     refine Yspl 22 h (fun h=> ?_) fun h=> ?_
     ·refine Yl h fun v24 h=> ?_
      refine Yn [.sure,.plain] (Yu 3 (fun pp=> .pointer pp) hp_17.symm ?_)
      refine Yf [] [2,3,4,26] ?_
      exact⟨_,Sub.mk K_,(!v24),rfl,h⟩
     ·refine Yn [.skip,.skip,.plain] (Yu 3 (fun pp=> .pointer pp) hp_17.symm ?_)
      refine Yf [] [2,3,4,26] ?_
      exact⟨_,Sub.mk K_,false,rfl,h⟩
    ·rintro _ w9 ⟨t26,rfl,h⟩
     unfold F_Gb at h
     refine Yc h (fun h=> ?_) fun h=> ?_
     ·refine Yt ?_
      refine Yv 2 h fun hp_15 h=> ?_
      refine Yl h fun v27 h=> ?_
      refine Ym1 h fun v28 w10 h=> ?_
      refine Yn P1 ?_
      refine Yo h fun w11 h=> ?_
      refine Yf [] [3,4] (Yr ?_)
      refine Yv 3 h fun hp_16 h=> ?_
      refine Yl h fun v30 h=> ?_
      refine zgb (fo:=(Operand.tmp 30)) (aa:=#[(Operand.const (Vo false)),(Operand.const (Value.int IntKind.i64 0))]) (ts:=#[4,25]) (fv:=v30) (ty:=4) (dst:=some 31) #[Vo false,Vi 0] K_ K_ K_ (zU.mono h ?_)
      rintro _ w12 ⟨v31,rfl,h⟩
      refine⟨_,rfl,?_⟩
      refine Yf [] [4] ?_
      exact⟨_,Sub.mk K_,rfl,h⟩
     ·refine zg ?_
      exact⟨_,Sub.mk K_,rfl,h⟩
   ·rintro _ w6 ⟨rfl,h⟩
    unfold F_5b at h
    refine Yt ?_
    refine YL h fun v32 h=> ?_
    refine Yo h fun w7 h=> ?_
    refine Yf [] [4] ?_
    obtain⟨res1,hc_res1,h⟩:=h
    exact YSg (rs:=[(ResultVar.cell 4 130)]) (v:=Value.agg #[Vi res1.Number,Value.string res1.Val,Vo res1.Drop]) (⟨b_,0,[Vi res1.Number,Value.string res1.Val,Vo res1.Drop],K_,hc_res1,(zx (k:=3) K_ K_),.inl ⟨K_,rfl⟩,trivial⟩) ⟨res1,rfl,h⟩
end
end Go.Proofs.YtjlfdepkphibgaaGreatDoor
