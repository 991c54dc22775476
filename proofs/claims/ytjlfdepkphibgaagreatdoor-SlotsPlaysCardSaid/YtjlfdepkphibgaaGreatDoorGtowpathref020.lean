/- WRITTEN BY PROGRAM (dec.py): for each Go function the clean formula F, the call's contract C, and the proof S that F gives C. -/
import Derived.Test.YtjlfdepkphibgaaGreatDoorRows
import Derived.Test.YtjlfdepkphibgaaGreatDoorGF
namespace Go.Proofs.YtjlfdepkphibgaaGreatDoor
open Go
set_option linter.unusedVariables false
set_option maxRecDepth 100000
set_option maxHeartbeats 4000000
noncomputable section

/-! ### towpath/towpathref02.Var (function 127) -/

theorem S_oc {b_:Slc} {n_:Int} {w:World} {R:Slc→WP} (h:F_3e b_ n_ R w):C_g b_ n_ w R:=by
 unfold F_3e at h
 refine Yh Tryz.func127 ?_
 ·refine Yp P1 [0,1] (Ys (Yd 0 ?_))
  obtain⟨I,μ,h0,hr⟩:=h
  refine zN (fun m l w=>∃(b_1:Slc) (n_1:Int),l=[(0,sv_ b_1),(1,Value.int .u64 n_1)]∧I b_1 n_1 w∧μ b_1 n_1 w=m) ⟨b_,n_,rfl,h0,rfl⟩ ?_
  rintro _ _ w1 ⟨b_1,n_1,rfl,hI,rfl⟩
  obtain⟨again_,again__h,h⟩:∃ again_:Slc→Int→WP,(∀ b_1' n_1' w',again_ b_1' n_1' w'→I b_1' n_1' w'∧μ b_1' n_1' w'<μ b_1 n_1 w1)∧F_7c R again_ b_1 n_1 w1:=⟨_,fun _ _ _ h=>h,hr b_1 n_1 w1 hI⟩
  clear h0 hI
  unfold F_7c at h
  refine Ys (Yp P2 [0,1,6] ?_)
  refine Yc h (fun h=> ?_) fun h=> ?_
  ·refine zg (Yd 1 (Yt (Yn (Pl 5) ?_)))
   refine Yw (sl_ 1 1) h fun b_2 w2 h=> ?_
   obtain⟨src,hs,h⟩:=h
   refine zH (t:=38) (tx:=38) (e:=5) (a:=(Operand.tmp 7)) (xo:=(Operand.tmp 12)) (s:=b_1) (x:=(Slc.mk (some ⟨b_2,0,none⟩) 1 1)) (sz:=1) (by_:=1) (zs:=[Value.int .u8 0]) (ty:=38) (dst:=some 13)  src K_ K_ K_ K_ K_ K_ K_ K_ K_ hs (zj.mono h (fun b_3 w3 h=> ?_))
   refine Yf P1 [0,1] (Yr (Yf P3 [0,1] ?_))
   have hb_:=again__h _ _ _ h
   exact⟨_,hb_.2,_,Sub.mk K_,b_3,(IntKind.u64.wrap (Int.tdiv n_1 128)),rfl,hb_.1,rfl⟩
  ·refine zM 0 (Yt (Yn P3 ?_))
   refine Yw (sl_ 1 1) h fun b_4 w4 h=> ?_
   obtain⟨src,hs,h⟩:=h
   refine zH (t:=38) (tx:=38) (e:=5) (a:=(Operand.tmp 16)) (xo:=(Operand.tmp 19)) (s:=b_1) (x:=(Slc.mk (some ⟨b_4,0,none⟩) 1 1)) (sz:=1) (by_:=1) (zs:=[Value.int .u8 0]) (ty:=38) (dst:=some 20)  src K_ K_ K_ K_ K_ K_ K_ K_ K_ hs (zj.mono h (fun v20 w5 h=> ?_))
   refine Yf P1 [4] ?_
   exact YS ⟨v20,rfl,h⟩

/-! ### towpath/towpathref02.Text (function 128) -/

theorem S_hc {b_:Slc} {s:ByteArray} {w:World} {R:Slc→WP} (h:F_he b_ s R w):C_Xb b_ s w R:=by
 unfold F_he at h
 refine Yh Tryz.func128 ?_
 ·refine Yp P1 [0,1] (Yt (Yn P4 ?_))
  refine Ym1 h fun v10 w1 h=> ?_
  refine Yf P1 [0,1] (Ys (Yp P1 [0,1,5] (Yd 0 ?_)))
  obtain⟨I,μ,h0,hr⟩:=h
  refine zN (fun m l w=>∃(b_1:Slc) (i:Int),l=[(0,sv_ b_1),(1,Value.string s),(5,Vi i)]∧I b_1 i w∧μ b_1 i w=m) ⟨v10,0,rfl,h0,rfl⟩ ?_
  rintro _ _ w2 ⟨b_1,i,rfl,hI,rfl⟩
  obtain⟨again_,again__h,h⟩:∃ again_:Slc→Int→WP,(∀ b_1' i' w',again_ b_1' i' w'→I b_1' i' w'∧μ b_1' i' w'<μ b_1 i w2)∧F_Oc s R again_ b_1 i w2:=⟨_,fun _ _ _ h=>h,hr b_1 i w2 hI⟩
  clear h0 hI
  unfold F_Oc at h
  refine Ys (Yp P4 [0,1,5,14] ?_)
  refine Yc h (fun h=> ?_) fun h=> ?_
  ·refine zg (Ys (Yd 1 (Yr (Yn P3 ?_))))
   obtain⟨h0,h1,h⟩:=h
   refine zWg (t:=9) (x:=(Operand.tmp 18)) (ix:=(Operand.tmp 19)) (s:=s) (k:= .i64) (j:=i) (ty:=5) (dst:=some 20) K_ K_ K_ K_ h0 h1 ?_
   refine Yw (sl_ 1 1) h fun b_2 w3 h=> ?_
   obtain⟨src,hs,h⟩:=h
   refine zH (t:=38) (tx:=38) (e:=5) (a:=(Operand.tmp 17)) (xo:=(Operand.tmp 21)) (s:=b_1) (x:=(Slc.mk (some ⟨b_2,0,none⟩) 1 1)) (sz:=1) (by_:=1) (zs:=[Value.int .u8 0]) (ty:=38) (dst:=some 22)  src K_ K_ K_ K_ K_ K_ K_ K_ K_ hs (zj.mono h (fun b_3 w4 h=> ?_))
   refine Yf P1 [0,1,5] (Yr (Yf P3 [0,1,5] ?_))
   have hb_:=again__h _ _ _ h
   exact⟨_,hb_.2,_,Sub.mk K_,b_3,(IntKind.i64.wrap (i+1)),rfl,hb_.1,rfl⟩
  ·refine zM 0 (Yp P2 [4] ?_)
   exact YS ⟨b_1,rfl,h⟩

/-! ### towpath/towpathref02.Fixed (function 129) -/

theorem S_3b {b_:Slc} {n_:Int} {width:Int} {w:World} {R:Slc→Int→WP} (h:F_7d b_ n_ width R w):C_x b_ n_ width w R:=by
 unfold F_7d at h
 refine Yh Tryz.func129 ?_
 ·refine Yp P2 [0,1,2] (Ys (Yp [.plain,.plain,.plain,.plain,.plain,.pick] [0,1,2,14] ?_))
  refine Yc h (fun h=> ?_) fun h=> ?_
  ·refine Yp P3 [6,7] ?_
   exact YT2 ⟨b_,1,rfl,h⟩
  ·refine zg (Ys ?_)
   refine Ycut (fun l w=>∃(t24:Bool),l=[(0,sv_ b_),(1,Value.int .u64 n_),(2,Vi width),(24,Vo t24)]∧F_v b_ n_ width R t24 w) ?_ ?_
   ·refine Yr (Yn (Pl 6) ?_)
    refine Yspl 18 h (fun h=> ?_) fun h=> ?_
    ·refine Ym1 h fun v22 w5 h=> ?_
     refine Yf [.sure,.plain] [0,1,2,24] ?_
     exact⟨_,Sub.mk K_,(decide (n_≥v22)),rfl,h⟩
    ·refine Yf [.skip,.skip,.plain] [0,1,2,24] ?_
     exact⟨_,Sub.mk K_,false,rfl,h⟩
   ·rintro _ w1 ⟨t24,rfl,h⟩
    unfold F_v at h
    refine Yc h (fun h=> ?_) fun h=> ?_
    ·refine Yp P3 [6,7] ?_
     exact YT2 ⟨b_,3,rfl,h⟩
    ·refine zg (Ys (Yp P1 [0,1,2,8] (Yd 0 ?_)))
     obtain⟨I,μ,h0,hr⟩:=h
     refine zN (fun m l w=>∃(b_1:Slc) (n_1:Int) (i:Int),l=[(0,sv_ b_1),(1,Value.int .u64 n_1),(2,Vi width),(8,Vi i)]∧I b_1 n_1 i w∧μ b_1 n_1 i w=m) ⟨b_,n_,0,rfl,h0,rfl⟩ ?_
     rintro _ _ w2 ⟨b_1,n_1,i,rfl,hI,rfl⟩
     obtain⟨again_,again__h,h⟩:∃ again_:Slc→Int→Int→WP,(∀ b_1' n_1' i' w',again_ b_1' n_1' i' w'→I b_1' n_1' i' w'∧μ b_1' n_1' i' w'<μ b_1 n_1 i w2)∧F_yc width R again_ b_1 n_1 i w2:=⟨_,fun _ _ _ _ h=>h,hr b_1 n_1 i w2 hI⟩
     clear h0 hI
     unfold F_yc at h
     refine Ys (Yp P3 [0,1,2,8,28] ?_)
     refine Yc h (fun h=> ?_) fun h=> ?_
     ·refine zg (Ys (Yd 1 (Yt (Yn P4 ?_))))
      refine Yw (sl_ 1 1) h fun b_2 w3 h=> ?_
      obtain⟨src,hs,h⟩:=h
      refine zH (t:=38) (tx:=38) (e:=5) (a:=(Operand.tmp 31)) (xo:=(Operand.tmp 35)) (s:=b_1) (x:=(Slc.mk (some ⟨b_2,0,none⟩) 1 1)) (sz:=1) (by_:=1) (zs:=[Value.int .u8 0]) (ty:=38) (dst:=some 36)  src K_ K_ K_ K_ K_ K_ K_ K_ K_ hs (zj.mono h (fun b_3 w4 h=> ?_))
      refine Yf P1 [0,1,2,8] (Yr (Yf P3 [0,1,2,8] (Yr (Yf P3 [0,1,2,8] ?_))))
      have hb_:=again__h _ _ _ _ h
      exact⟨_,hb_.2,_,Sub.mk K_,b_3,(IntKind.u64.wrap (Int.tdiv n_1 256)),(IntKind.i64.wrap (i+1)),rfl,hb_.1,rfl⟩
     ·refine zM 0 (Yp P3 [6,7] ?_)
      exact YT2 ⟨b_1,0,rfl,h⟩

/-! ### (towpath/towpathref02.Reader).Fixed (function 137) -/

theorem S_7 {r:T_a} {width:Int} {w:World} {R:T_a→Int→WP} (h:F_Xd r width R w):C_c r width w R:=by
 unfold F_Xd at h
 refine Yh Tryz.func137 ?_
 ·refine Yt ?_
  refine Yw pv_ h fun b_ w1 h=> ?_
  refine Yw pv_ h fun b_1 w2 h=> ?_
  refine Yf P1 [1,2,4] (Ys (Yt ?_))
  refine YL h fun v8 h=> ?_
  refine Ym1 h fun v9 w3 h=> ?_
  refine Yf [] [1,2,4,9] ?_
  refine Yc h (fun h=> ?_) fun h=> ?_
  ·refine Yt ?_
   refine YL h fun v10 h=> ?_
   refine Yo h fun w4 h=> ?_
   refine Yf P1 [4,5] ?_
   obtain⟨res,hc_res,h⟩:=h
   exact YTg (rs:=[(ResultVar.cell 4 193),(ResultVar.tmp 5)]) (vs:=[Value.agg #[Vo res.Gone,sv_ res.B,Vi res.At,Vi res.Code],Value.int .u64 0]) (⟨b_1,0,[Vo res.Gone,sv_ res.B,Vi res.At,Vi res.Code],K_,hc_res,(zx (k:=4) K_ K_),.inl ⟨K_,rfl⟩,⟨K_,trivial⟩⟩) ⟨res,0,rfl,h⟩
  ·refine zg (Ys (Yp [.plain,.plain,.plain,.plain,.plain,.pick] [1,2,4,16] ?_))
   refine Yc h (fun h=> ?_) fun h=> ?_
   ·refine Yt ?_
    refine YL h fun v17 h=> ?_
    refine Ym1 h fun v18 w5 h=> ?_
    refine Yo h fun w6 h=> ?_
    refine Yf P1 [4,5] ?_
    obtain⟨res1,hc_res1,h⟩:=h
    exact YTg (rs:=[(ResultVar.cell 4 193),(ResultVar.tmp 5)]) (vs:=[Value.agg #[Vo res1.Gone,sv_ res1.B,Vi res1.At,Vi res1.Code],Value.int .u64 0]) (⟨b_1,0,[Vo res1.Gone,sv_ res1.B,Vi res1.At,Vi res1.Code],K_,hc_res1,(zx (k:=4) K_ K_),.inl ⟨K_,rfl⟩,⟨K_,trivial⟩⟩) ⟨res1,0,rfl,h⟩
   ·refine zg (Ys (Yt (Yn P2 ?_)))
    refine Yl h fun v21 h=> ?_
    refine Yn P2 ?_
    refine Yl h fun v24 h=> ?_
    refine Yf P2 [1,2,4,26] ?_
    refine Yc h (fun h=> ?_) fun h=> ?_
    ·refine Yt ?_
     refine YL h fun v27 h=> ?_
     refine Ym1 h fun v28 w7 h=> ?_
     refine Yo h fun w8 h=> ?_
     refine Yf P1 [4,5] ?_
     obtain⟨res2,hc_res2,h⟩:=h
     exact YTg (rs:=[(ResultVar.cell 4 193),(ResultVar.tmp 5)]) (vs:=[Value.agg #[Vo res2.Gone,sv_ res2.B,Vi res2.At,Vi res2.Code],Value.int .u64 0]) (⟨b_1,0,[Vo res2.Gone,sv_ res2.B,Vi res2.At,Vi res2.Code],K_,hc_res2,(zx (k:=4) K_ K_),.inl ⟨K_,rfl⟩,⟨K_,trivial⟩⟩) ⟨res2,0,rfl,h⟩
    ·refine zg (Yp P1 [1,2,4,6] (Ys (Yp P3 [1,2,4,6,7] (Yd 0 ?_))))
     obtain⟨I,μ,h0,hr⟩:=h
     refine zN (fun m l w=>∃(n_:Int) (i:Int),l=[(1,Vi width),(2,pv_ b_),(4,pv_ b_1),(6,Value.int .u64 n_),(7,Vi i)]∧I n_ i w∧μ n_ i w=m) ⟨0,(IntKind.i64.wrap (width - 1)),rfl,h0,rfl⟩ ?_
     rintro _ _ w9 ⟨n_,i,rfl,hI,rfl⟩
     obtain⟨again_,again__h,h⟩:∃ again_:Int→Int→WP,(∀ n_' i' w',again_ n_' i' w'→I n_' i' w'∧μ n_' i' w'<μ n_ i w9)∧F_wb width R b_ b_1 again_ n_ i w9:=⟨_,fun _ _ _ h=>h,hr n_ i w9 hI⟩
     clear h0 hI
     unfold F_wb at h
     refine Ys (Yp P2 [1,2,4,6,7,32] ?_)
     refine Yc h (fun h=> ?_) fun h=> ?_
     ·refine zg (Ys (Yd 1 (Yr (Yn P3 ?_))))
      refine Yl h fun v38 h=> ?_
      refine Yn P1 ?_
      refine Yl h fun v40 h=> ?_
      refine Yn P2 ?_
      obtain⟨hp_3,h⟩:=h
      refine Yu 38 (fun pp=> .slice pp v38.len v38.cap) hp_3 ?_
      refine Yi1 h fun h=> ?_
      refine Yl h fun v44 h=> ?_
      refine Yf P3 [1,2,4,6,7] (Yr (Yf P3 [1,2,4,6,7] ?_))
      have hb_:=again__h _ _ _ h
      exact⟨_,hb_.2,_,Sub.mk K_,(IntKind.u64.wrap ((IntKind.u64.wrap (256*n_))+(IntKind.u64.wrap v44))),(IntKind.i64.wrap (i - 1)),rfl,hb_.1,rfl⟩
     ·refine zM 0 (Yt (Yn P1 ?_))
      refine Yl h fun v48 h=> ?_
      refine Yn P3 ?_
      refine Yo h fun w10 h=> ?_
      refine Yf [] [2,4,6] (Yt ?_)
      refine YL h fun v52 h=> ?_
      refine Yn P1 ?_
      refine Yo h fun w11 h=> ?_
      refine Yf P1 [4,5] ?_
      obtain⟨res3,hc_res3,h⟩:=h
      exact YTg (rs:=[(ResultVar.cell 4 193),(ResultVar.tmp 5)]) (vs:=[Value.agg #[Vo res3.Gone,sv_ res3.B,Vi res3.At,Vi res3.Code],Value.int .u64 n_]) (⟨b_1,0,[Vo res3.Gone,sv_ res3.B,Vi res3.At,Vi res3.Code],K_,hc_res3,(zx (k:=4) K_ K_),.inl ⟨K_,rfl⟩,⟨K_,trivial⟩⟩) ⟨res3,n_,rfl,h⟩

/-! ### (towpath/towpathref02.Reader).Left (function 138) -/

theorem S_cb {r:T_a} {w:World} {R:Int→WP} (h:F_ee r R w):C_C r w R:=by
 unfold F_ee at h
 refine Yh Tryz.func138 ?_
 ·refine Yt ?_
  refine Yw pv_ h fun b_ w1 h=> ?_
  refine Yf P1 [1] (Ys (Yt (Yn P1 ?_)))
  refine Yl h fun v4 h=> ?_
  refine Yf [] [1,4] ?_
  refine Yc h (fun h=> ?_) fun h=> ?_
  ·refine Yp P1 [2] ?_
   exact YS ⟨0,rfl,h⟩
  ·refine zg (Yt (Yn P1 ?_))
   refine Yl h fun v6 h=> ?_
   refine Yn P2 ?_
   refine Yl h fun v9 h=> ?_
   refine Yf P2 [2] ?_
   exact YS ⟨(IntKind.i64.wrap (((v6.len:Nat):Int) - v9)),rfl,h⟩

/-! ### towpath/towpathref02.power (function 151) -/

theorem S_4b {n_:Int} {w:World} {R:Int→WP} (h:F_Ke n_ R w):C_hc n_ w R:=by
 unfold F_Ke at h
 refine Yh Tryz.func151 ?_
 ·refine Yp P1 [0] (Yp P1 [0,3] (Ys (Yp P1 [0,3,4] (Yd 0 ?_))))
  obtain⟨I,μ,h0,hr⟩:=h
  refine zN (fun m l w=>∃(p:Int) (i:Int),l=[(0,Vi n_),(3,Value.int .u64 p),(4,Vi i)]∧I p i w∧μ p i w=m) ⟨1,0,rfl,h0,rfl⟩ ?_
  rintro _ _ w1 ⟨p,i,rfl,hI,rfl⟩
  obtain⟨again_,again__h,h⟩:∃ again_:Int→Int→WP,(∀ p' i' w',again_ p' i' w'→I p' i' w'∧μ p' i' w'<μ p i w1)∧F_Ac n_ R again_ p i w1:=⟨_,fun _ _ _ h=>h,hr p i w1 hI⟩
  clear h0 hI
  unfold F_Ac at h
  refine Ys (Yp P3 [0,3,4,7] ?_)
  refine Yc h (fun h=> ?_) fun h=> ?_
  ·refine zg (Ys (Yd 1 (Yr (Yf P3 [0,3,4] (Yr (Yf P3 [0,3,4] ?_))))))
   have hb_:=again__h _ _ _ h
   exact⟨_,hb_.2,_,Sub.mk K_,(IntKind.u64.wrap (2*p)),(IntKind.i64.wrap (i+1)),rfl,hb_.1,rfl⟩
  ·refine zM 0 (Yp P2 [2] ?_)
   exact YS ⟨p,rfl,h⟩

/-! ### (towpath/towpathref02.Reader).dead (function 163) -/

theorem S_db {r:T_a} {w:World} {R:Bool→WP} (h:F_fe r R w):C_e r w R:=by
 unfold F_fe at h
 refine Yh Tryz.func163 ?_
 ·refine Yt ?_
  refine Yw pv_ h fun b_ w1 h=> ?_
  refine Yf P1 [1] (Yt (Yn P1 ?_))
  refine Yl h fun v4 h=> ?_
  refine Yn P2 ?_
  refine Yspl 5 h (fun h=> ?_) fun h=> ?_
  ·refine Yf [.skip,.skip,.plain,.plain] [2] ?_
   exact YS ⟨true,rfl,h⟩
  ·refine Yl h fun v7 h=> ?_
   refine Yf [.sure,.plain,.plain] [2] ?_
   exact YS ⟨(v7 != 0),rfl,h⟩

/-! ### (towpath/towpathref02.Reader).wrong (function 164) -/

theorem S_8 {r:T_a} {e:Int} {w:World} {R:T_a→WP} (h:F_Yd r e R w):C_a r e w R:=by
 unfold F_Yd at h
 refine Yh Tryz.func164 ?_
 ·refine Yt ?_
  refine Yw pv_ h fun b_ w1 h=> ?_
  refine Yw pv_ h fun b_1 w2 h=> ?_
  refine Yf [] [1,2,4] (Yt (Yn P2 ?_))
  refine Yo h fun w3 h=> ?_
  refine Yf [] [2,4] (Yt ?_)
  refine YL h fun v7 h=> ?_
  refine Yo h fun w4 h=> ?_
  refine Yf [] [4] ?_
  obtain⟨res,hc_res,h⟩:=h
  exact YSg (rs:=[(ResultVar.cell 4 193)]) (v:=Value.agg #[Vo res.Gone,sv_ res.B,Vi res.At,Vi res.Code]) (⟨b_1,0,[Vo res.Gone,sv_ res.B,Vi res.At,Vi res.Code],K_,hc_res,(zx (k:=4) K_ K_),.inl ⟨K_,rfl⟩,trivial⟩) ⟨res,rfl,h⟩

/-! ### (towpath/towpathref02.Reader).End (function 169) -/

theorem S_jb {r:T_a} {w:World} {R:Int→WP} (h:F_ne r R w):C_Jb r w R:=by
 unfold F_ne at h
 refine Yh Tryz.func169 ?_
 ·refine Yt ?_
  refine Yw pv_ h fun b_ w1 h=> ?_
  refine Yf P1 [1] (Ys (Yt (Yn P1 ?_)))
  refine Yl h fun v4 h=> ?_
  refine Yf [] [1,4] ?_
  refine Yc h (fun h=> ?_) fun h=> ?_
  ·refine Yp P1 [2] ?_
   exact YS ⟨2,rfl,h⟩
  ·refine zg (Ys (Yt (Yn P1 ?_)))
   refine Yl h fun v6 h=> ?_
   refine Yf P1 [1,7] ?_
   refine Yc h (fun h=> ?_) fun h=> ?_
   ·refine Yt (Yn P1 ?_)
    refine Yl h fun v9 h=> ?_
    refine Yf P1 [2] ?_
    exact YS ⟨v9,rfl,h⟩
   ·refine zg (Ys (Yt (Yn P1 ?_)))
    refine Yl h fun v11 h=> ?_
    refine Yn P1 ?_
    refine Yl h fun v13 h=> ?_
    refine Yf P2 [15] ?_
    refine Yc h (fun h=> ?_) fun h=> ?_
    ·refine Yp P1 [2] ?_
     exact YS ⟨4,rfl,h⟩
    ·refine zg (Yp P1 [2] ?_)
     exact YS ⟨0,rfl,h⟩
end
end Go.Proofs.YtjlfdepkphibgaaGreatDoor
