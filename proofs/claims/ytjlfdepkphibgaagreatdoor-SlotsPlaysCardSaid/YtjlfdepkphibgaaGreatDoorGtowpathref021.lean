/- WRITTEN BY PROGRAM (dec.py): for each Go function the clean formula F, the call's contract C, and the proof S that F gives C. -/
import Derived.Test.YtjlfdepkphibgaaGreatDoorRows
import Derived.Test.YtjlfdepkphibgaaGreatDoorGF
namespace Go.Proofs.YtjlfdepkphibgaaGreatDoor
open Go
set_option linter.unusedVariables false
set_option maxRecDepth 100000
set_option maxHeartbeats 4000000
noncomputable section

/-! ### (towpath/towpathref02.Reader).Var (function 186) -/

theorem S_kb {r:T_a} {w:World} {R:T_a→Int→WP} (h:F_oe r R w):C_p r w R:=by
 unfold F_oe at h
 refine Yh Tryz.func186 ?_
 ·refine Yt ?_
  refine Yw pv_ h fun b_ w1 h=> ?_
  refine Yw pv_ h fun b_1 w2 h=> ?_
  refine Yf P1 [1,2] (Ys (Yt ?_))
  refine YL h fun v8 h=> ?_
  refine Ym1 h fun v9 w3 h=> ?_
  refine Yf [] [1,2,9] ?_
  refine Yc h (fun h=> ?_) fun h=> ?_
  ·refine Yt ?_
   refine YL h fun v10 h=> ?_
   refine Yo h fun w4 h=> ?_
   refine Yf P1 [2,3] ?_
   obtain⟨res,hc_res,h⟩:=h
   exact YTg (rs:=[(ResultVar.cell 2 193),(ResultVar.tmp 3)]) (vs:=[Value.agg #[Vo res.Gone,sv_ res.B,Vi res.At,Vi res.Code],Value.int .u64 0]) (⟨b_1,0,[Vo res.Gone,sv_ res.B,Vi res.At,Vi res.Code],K_,hc_res,(zx (k:=4) K_ K_),.inl ⟨K_,rfl⟩,⟨K_,trivial⟩⟩) ⟨res,0,rfl,h⟩
  ·refine zg (Yp P1 [1,2,4] (Yp P1 [1,2,4,5] (Yp P1 [1,2,4,5,6] (Yd 0 ?_))))
   obtain⟨I,μ,h0,hr⟩:=h
   refine zN (fun m l w=>∃(n_:Int) (f:Int) (i:Int),l=[(1,pv_ b_),(2,pv_ b_1),(4,Value.int .u64 n_),(5,Value.int .u64 f),(6,Vi i)]∧I n_ f i w∧μ n_ f i w=m) ⟨0,1,0,rfl,h0,rfl⟩ ?_
   rintro _ _ w5 ⟨n_,f,i,rfl,hI,rfl⟩
   obtain⟨again_,again__h,h⟩:∃ again_:Int→Int→Int→WP,(∀ n_' f' i' w',again_ n_' f' i' w'→I n_' f' i' w'∧μ n_' f' i' w'<μ n_ f i w5)∧F_Lb R b_ b_1 again_ n_ f i w5:=⟨_,fun _ _ _ _ h=>h,hr n_ f i w5 hI⟩
   clear h0 hI
   unfold F_Lb at h
   refine Ys (Yd 1 (Ys (Yt (Yn P1 ?_))))
   refine Yl h fun v14 h=> ?_
   refine Yn P3 ?_
   refine Yl h fun v18 h=> ?_
   refine Yf P2 [1,2,4,5,6,20] ?_
   refine Yc h (fun h=> ?_) fun h=> ?_
   ·refine Yt ?_
    refine YL h fun v21 h=> ?_
    refine Ym1 h fun v22 w6 h=> ?_
    refine Yo h fun w7 h=> ?_
    refine Yf P1 [2,3] ?_
    obtain⟨res1,hc_res1,h⟩:=h
    exact YTg (rs:=[(ResultVar.cell 2 193),(ResultVar.tmp 3)]) (vs:=[Value.agg #[Vo res1.Gone,sv_ res1.B,Vi res1.At,Vi res1.Code],Value.int .u64 0]) (⟨b_1,0,[Vo res1.Gone,sv_ res1.B,Vi res1.At,Vi res1.Code],K_,hc_res1,(zx (k:=4) K_ K_),.inl ⟨K_,rfl⟩,⟨K_,trivial⟩⟩) ⟨res1,0,rfl,h⟩
   ·refine zg (Yt (Yn P1 ?_))
    refine Yl h fun v24 h=> ?_
    refine Yn P1 ?_
    refine Yl h fun v26 h=> ?_
    refine Yn P2 ?_
    obtain⟨hp_3,h⟩:=h
    refine Yu 24 (fun pp=> .slice pp v24.len v24.cap) hp_3 ?_
    refine Yi1 h fun h=> ?_
    refine Yl h fun c h=> ?_
    refine Yf P1 [1,2,4,5,6,7] (Ys (Yp [.plain,.plain,.plain,.plain,.plain,.pick,.plain,.plain,.plain,.plain,.plain,.plain,.pick,.pick] [1,2,4,5,6,7,44] ?_))
    refine Yc h (fun h=> ?_) fun h=> ?_
    ·refine Yt ?_
     refine YL h fun v45 h=> ?_
     refine Ym1 h fun v46 w8 h=> ?_
     refine Yo h fun w9 h=> ?_
     refine Yf P1 [2,3] ?_
     obtain⟨res2,hc_res2,h⟩:=h
     exact YTg (rs:=[(ResultVar.cell 2 193),(ResultVar.tmp 3)]) (vs:=[Value.agg #[Vo res2.Gone,sv_ res2.B,Vi res2.At,Vi res2.Code],Value.int .u64 0]) (⟨b_1,0,[Vo res2.Gone,sv_ res2.B,Vi res2.At,Vi res2.Code],K_,hc_res2,(zx (k:=4) K_ K_),.inl ⟨K_,rfl⟩,⟨K_,trivial⟩⟩) ⟨res2,0,rfl,h⟩
    ·refine zg (Yp (Pl 8) [1,2,4,5,6,7] (Yp P3 [1,2,4,5,6,7] (Yp P2 [1,2,4,5,6,57] ?_)))
     refine Yc h (fun h=> ?_) fun h=> ?_
     ·refine Yt (Yn P1 ?_)
      refine Yl h fun v59 h=> ?_
      refine Yn P4 ?_
      refine Yo h fun w10 h=> ?_
      refine Yf [] [1,2,4] (Yt ?_)
      refine YL h fun v64 h=> ?_
      refine Yn P1 ?_
      refine Yo h fun w11 h=> ?_
      refine Yf P1 [2,3] ?_
      obtain⟨res3,hc_res3,h⟩:=h
      exact YTg (rs:=[(ResultVar.cell 2 193),(ResultVar.tmp 3)]) (vs:=[Value.agg #[Vo res3.Gone,sv_ res3.B,Vi res3.At,Vi res3.Code],Value.int .u64 (IntKind.u64.wrap (n_+(IntKind.u64.wrap (f*(IntKind.u64.wrap (Int.tmod c 128))))))]) (⟨b_1,0,[Vo res3.Gone,sv_ res3.B,Vi res3.At,Vi res3.Code],K_,hc_res3,(zx (k:=4) K_ K_),.inl ⟨K_,rfl⟩,⟨K_,trivial⟩⟩) ⟨res3,(IntKind.u64.wrap (n_+(IntKind.u64.wrap (f*(IntKind.u64.wrap (Int.tmod c 128)))))),rfl,h⟩
     ·refine zg (Yr (Yf P3 [1,2,4,5,6] ?_))
      have hb_:=again__h _ _ _ _ h
      exact⟨_,hb_.2,_,Sub.mk K_,(IntKind.u64.wrap (n_+(IntKind.u64.wrap (f*(IntKind.u64.wrap (Int.tmod c 128)))))),(IntKind.u64.wrap (128*f)),(IntKind.i64.wrap (i+1)),rfl,hb_.1,rfl⟩

/-! ### (towpath/towpathref02.Reader).Text (function 187) -/

theorem S_eb {r:T_a} {most:Int} {w:World} {R:T_a→ByteArray→WP} (h:F_ge r most R w):C_Bb r most w R:=by
 unfold F_ge at h
 refine Yh Tryz.func187 ?_
 ·refine Yt ?_
  refine Yw pv_ h fun b_ w1 h=> ?_
  refine Yw pv_ h fun b_1 w2 h=> ?_
  refine Yf P1 [1,2,4] (Ys (Yt ?_))
  refine YL h fun v9 h=> ?_
  refine Ym1 h fun v10 w3 h=> ?_
  refine Yf [] [1,2,4,10] ?_
  refine Yc h (fun h=> ?_) fun h=> ?_
  ·refine Yt ?_
   refine YL h fun v11 h=> ?_
   refine Yo h fun w4 h=> ?_
   refine Yf P1 [4,5] ?_
   obtain⟨res,hc_res,h⟩:=h
   exact YTg (rs:=[(ResultVar.cell 4 193),(ResultVar.tmp 5)]) (vs:=[Value.agg #[Vo res.Gone,sv_ res.B,Vi res.At,Vi res.Code],Value.string ByteArray.empty]) (⟨b_1,0,[Vo res.Gone,sv_ res.B,Vi res.At,Vi res.Code],K_,hc_res,(zx (k:=4) K_ K_),.inl ⟨K_,rfl⟩,⟨K_,trivial⟩⟩) ⟨res,ByteArray.empty,rfl,h⟩
  ·refine zg (Ys (Yp P2 [1,2,4,13] ?_))
   refine Yc h (fun h=> ?_) fun h=> ?_
   ·refine Yt ?_
    refine YL h fun v14 h=> ?_
    refine Ym1 h fun v15 w5 h=> ?_
    refine Yo h fun w6 h=> ?_
    refine Yf P1 [4,5] ?_
    obtain⟨res1,hc_res1,h⟩:=h
    exact YTg (rs:=[(ResultVar.cell 4 193),(ResultVar.tmp 5)]) (vs:=[Value.agg #[Vo res1.Gone,sv_ res1.B,Vi res1.At,Vi res1.Code],Value.string ByteArray.empty]) (⟨b_1,0,[Vo res1.Gone,sv_ res1.B,Vi res1.At,Vi res1.Code],K_,hc_res1,(zx (k:=4) K_ K_),.inl ⟨K_,rfl⟩,⟨K_,trivial⟩⟩) ⟨res1,ByteArray.empty,rfl,h⟩
   ·refine zg (Yt ?_)
    refine YL h fun v17 h=> ?_
    refine Ym2 h fun v18 n_ w7 h=> ?_
    refine Yn P3 ?_
    refine Yw pv_ h fun b_2 w8 h=> ?_
    refine Yo h fun w9 h=> ?_
    refine Yf P1 [1,2,4,6,7] (Ys (Yt ?_))
    refine YL h fun v21 h=> ?_
    refine Ym1 h fun v22 w10 h=> ?_
    refine Yf [] [1,2,4,6,7,22] ?_
    refine Yc h (fun h=> ?_) fun h=> ?_
    ·refine Yt ?_
     refine YL h fun v23 h=> ?_
     refine Yn P1 ?_
     refine Yl h fun v25 h=> ?_
     refine Ym1 h fun v26 w11 h=> ?_
     refine Yo h fun w12 h=> ?_
     refine Yf P1 [4,5] ?_
     obtain⟨res2,hc_res2,h⟩:=h
     exact YTg (rs:=[(ResultVar.cell 4 193),(ResultVar.tmp 5)]) (vs:=[Value.agg #[Vo res2.Gone,sv_ res2.B,Vi res2.At,Vi res2.Code],Value.string ByteArray.empty]) (⟨b_1,0,[Vo res2.Gone,sv_ res2.B,Vi res2.At,Vi res2.Code],K_,hc_res2,(zx (k:=4) K_ K_),.inl ⟨K_,rfl⟩,⟨K_,trivial⟩⟩) ⟨res2,ByteArray.empty,rfl,h⟩
    ·refine zg (Ys (Yp P4 [2,4,6,7,30] ?_))
     refine Yc h (fun h=> ?_) fun h=> ?_
     ·refine Yt ?_
      refine YL h fun v31 h=> ?_
      refine Ym1 h fun v32 w13 h=> ?_
      refine Yo h fun w14 h=> ?_
      refine Yf P1 [4,5] ?_
      obtain⟨res3,hc_res3,h⟩:=h
      exact YTg (rs:=[(ResultVar.cell 4 193),(ResultVar.tmp 5)]) (vs:=[Value.agg #[Vo res3.Gone,sv_ res3.B,Vi res3.At,Vi res3.Code],Value.string ByteArray.empty]) (⟨b_1,0,[Vo res3.Gone,sv_ res3.B,Vi res3.At,Vi res3.Code],K_,hc_res3,(zx (k:=4) K_ K_),.inl ⟨K_,rfl⟩,⟨K_,trivial⟩⟩) ⟨res3,ByteArray.empty,rfl,h⟩
     ·refine zg (Ys (Yt (Yn P2 ?_)))
      refine Yl h fun v35 h=> ?_
      refine Yn P2 ?_
      refine Yl h fun v38 h=> ?_
      refine Yf P3 [2,4,6,7,41] ?_
      refine Yc h (fun h=> ?_) fun h=> ?_
      ·refine Yt ?_
       refine YL h fun v42 h=> ?_
       refine Ym1 h fun v43 w15 h=> ?_
       refine Yo h fun w16 h=> ?_
       refine Yf P1 [4,5] ?_
       obtain⟨res4,hc_res4,h⟩:=h
       exact YTg (rs:=[(ResultVar.cell 4 193),(ResultVar.tmp 5)]) (vs:=[Value.agg #[Vo res4.Gone,sv_ res4.B,Vi res4.At,Vi res4.Code],Value.string ByteArray.empty]) (⟨b_1,0,[Vo res4.Gone,sv_ res4.B,Vi res4.At,Vi res4.Code],K_,hc_res4,(zx (k:=4) K_ K_),.inl ⟨K_,rfl⟩,⟨K_,trivial⟩⟩) ⟨res4,ByteArray.empty,rfl,h⟩
      ·refine zg (Yt (Yn P1 ?_))
       refine Yl h fun v45 h=> ?_
       refine Yn P1 ?_
       refine Yl h fun v47 h=> ?_
       refine Yn P1 ?_
       refine Yl h fun v49 h=> ?_
       refine Yn P3 ?_
       obtain⟨hc,h⟩:=h
       refine zte (t:=38) (e:=5) (x:=(Operand.tmp 45)) (lo:=(Operand.tmp 47)) (hi:=(Operand.tmp 52)) (s:=v45) (sz:=1) (k:= .i64) (a:=v47) (k':= .i64) (b:=(IntKind.i64.wrap (v49+(IntKind.i64.wrap n_)))) (ty:=38) (dst:=some 53) K_ K_ K_ K_ K_ K_ hc (fun s hs=> ?_)
       replace h:=h s hs
       clear hs
       obtain⟨str,hs,h⟩:=h
       refine zCe (t:=38) (d:=9) (e:=5) (x:=(Operand.tmp 53)) (s:=s) (ty:=9) (dst:=some 54) K_ K_ K_ K_ K_ hs ?_
       refine Yf P1 [4,6,7,8] (Yt (Yn P1 ?_))
       refine Yl h fun v56 h=> ?_
       refine Yn P4 ?_
       refine Yo h fun w17 h=> ?_
       refine Yf [] [4,6,8] (Yt ?_)
       refine YL h fun v61 h=> ?_
       refine Yn P1 ?_
       refine Yo h fun w18 h=> ?_
       refine Yf P1 [4,5] ?_
       obtain⟨res5,hc_res5,h⟩:=h
       exact YTg (rs:=[(ResultVar.cell 4 193),(ResultVar.tmp 5)]) (vs:=[Value.agg #[Vo res5.Gone,sv_ res5.B,Vi res5.At,Vi res5.Code],Value.string str]) (⟨b_1,0,[Vo res5.Gone,sv_ res5.B,Vi res5.At,Vi res5.Code],K_,hc_res5,(zx (k:=4) K_ K_),.inl ⟨K_,rfl⟩,⟨K_,trivial⟩⟩) ⟨res5,str,rfl,h⟩
end
end Go.Proofs.YtjlfdepkphibgaaGreatDoor
