/- WRITTEN BY PROGRAM (dec.py): for each Go function the clean formula F, the call's contract C, and the proof S that F gives C. -/
import Derived.Test.YtofjmclceflgiaaGreatRows
import Derived.Test.YtofjmclceflgiaaGreatGF
namespace Go.Proofs.YtofjmclceflgiaaGreat
open Go
set_option linter.unusedVariables false
set_option maxRecDepth 100000
set_option maxHeartbeats 4000000
noncomputable section

/-! ### (*towpath/replica.worker).step (function 224) -/
def zRu:=cb_ Tryz.f224
def zFn:=cr_ zRu
def zSu:=cl_ zFn
def zTu:=cr_ zSu
def zUu:=cl_ zTu
def z3l:=cr_ zUu
def zHr:=cl_ z3l
def z4l:=cr_ zHr
def zIr:=cl_ z4l
def zJr:=co_ zIr
def zKr:=cr_ z4l
def zLr:=cl_ zKr
def zMr:=co_ zLr
def zNr:=cr_ z3l
def zOr:=cr_ zNr
def zPr:=cl_ zOr
def zQr:=cr_ zPr
def zRr:=cl_ zQr
def zSr:=co_ zRr
def zTr:=cr_ zFn
def zUr:=cr_ zTr
def zVr:=cl_ zUr
def zWr:=co_ zVr
def zyc:List Nat:=[0,1,2,3,4,5,6,7,8,9,10,11,12,13,14,15,16,17,18]

theorem S_e {w_:OA} {k_:Int} {w:World} {R:T_a→WP} (h:F_4 w_ k_ R w):C_n w_ k_ w R:=by
 unfold F_4 at h
 refine Yh Tryz.func224 ?_
 ·refine Yt ?_
  refine Yw pv_ h fun b_ w1 h=> ?_
  refine Yf [] [0,1,4] (Ys (Yp P1 [0,4,11] (Yd 0 (Yp P2 [0,4,11,12] ?_))))
  refine Yc h (fun h=> ?_) fun h=> ?_
  ·refine Yt (Yn P1 ?_)
   refine Yv 14 h fun hp_30 h=> ?_
   refine Yn P1 (Yn P2 ?_)
   refine Yl h fun v18 h=> ?_
   refine Yv 18 h fun hp_31 h=> ?_
   refine Yn P1 (Yn P1 ?_)
   refine Yl h fun v21 h=> ?_
   obtain⟨hp_32,h⟩:=h
   refine Yu 21 (fun pp=> .slice pp v21.len v21.cap) hp_32 ?_
   refine Yi h fun h=> ?_
   refine YL h fun v23 h=> ?_
   refine Yw pv_ h fun b_1 w2 h=> ?_
   refine Yo h fun w3 h=> ?_
   refine Yf [] [0,4,5] (Ys ?_)
   refine zn (id:=4) (ops:=zJr) K_ 16 K_ K_ (fun w4 hw=> ?_)
   replace h:=h w4 hw
   clear hw
   refine Qn P1 ?_
   refine Qv 24 h fun hp_37 h=> ?_
   refine Qn P1 ?_
   refine Qn P2 ?_
   refine Ql h fun v28 h=> ?_
   refine Qn P1 ?_
   refine Qv 29 h fun hp_38 h=> ?_
   refine Qn P1 ?_
   refine Qn P2 ?_
   refine Ql h fun v33 h=> ?_
   refine Qv 33 h fun hp_39 h=> ?_
   refine Qn P1 ?_
   refine Qn P1 ?_
   refine Ql h fun v36 h=> ?_
   obtain⟨hc,h⟩:=h
   refine zXb (t:=24) (e:=72) (x:=(Operand.tmp 36)) (lo:=(Operand.const (Value.int IntKind.i64 1))) (s:=v36) (sz:=2) (k:= .i64) (a:=1) (ty:=24) (dst:=some 37) K_ K_ K_ K_ K_ hc (fun s hs=> ?_)
   replace h:=h s hs
   clear hs
   refine Qv 28 h fun hp_40 h=> ?_
   refine Qn P1 ?_
   refine Qn P1 ?_
   refine zD K_ ?_
   refine Yo h fun w5 h=> ?_
   refine Yf [] [0,4,5] (Ys ?_)
   refine zn (id:=5) (ops:=zMr) K_ 5 K_ K_ (fun w6 hw=> ?_)
   replace h:=h w6 hw
   clear hw
   refine Qn P1 ?_
   refine Qv 40 h fun hp_42 h=> ?_
   refine Qn P1 ?_
   refine Qn P1 ?_
   refine Ql h fun v43 h=> ?_
   refine QL h fun v44 h=> ?_
   refine zD K_ ?_
   refine Ym1 h fun v45 w7 h=> ?_
   refine Yf [] [4,5] (Yt (Yn P1 ?_))
   refine Yl h fun v47 h=> ?_
   refine Yn P1 ?_
   refine Yo h fun w8 h=> ?_
   refine Yf [] [4] ?_
   obtain⟨res,hc_res,h⟩:=h
   exact YSg (rs:=[(ResultVar.cell 4 35)]) (v:=Value.agg #[Vi res.Task,Value.int .u8 res.Kind,Vi res.Number,Vi res.Shard,Vi res.Count,Vi res.Mark]) (⟨b_,0,[Vi res.Task,Value.int .u8 res.Kind,Vi res.Number,Vi res.Shard,Vi res.Count,Vi res.Mark],K_,hc_res,(zq (k:=6) K_ K_),.inl ⟨K_,rfl⟩,trivial⟩) ⟨res,rfl,h⟩
  ·refine Yp P2 [0,4,49] ?_
   refine Yc h (fun h=> ?_) fun h=> ?_
   ·refine Yt (Yn P1 ?_)
    refine Yv 52 h fun hp_44 h=> ?_
    refine Yn P1 (Yn P1 ?_)
    refine Yl h fun v55 h=> ?_
    refine Ym3 h fun shard v56_1 v56_2 w9 h=> ?_
    refine Yn P4 ?_
    refine Yw pv_ h fun b_2 w10 h=> ?_
    refine Yn P1 ?_
    refine Yo h fun w11 h=> ?_
    refine Yf P1 [0,4,6,7] (Ys ?_)
    refine zn (id:=9) (ops:=zSr) K_ 12 K_ K_ (fun w12 hw=> ?_)
    replace h:=h w12 hw
    clear hw
    refine Qn P1 ?_
    refine Qv 60 h fun hp_48 h=> ?_
    refine Qn P1 ?_
    refine Qn P2 ?_
    refine Ql h fun v64 h=> ?_
    refine Qv 64 h fun hp_49 h=> ?_
    refine Qn P1 ?_
    refine Qn P1 ?_
    refine Ql h fun v67 h=> ?_
    refine Qn P1 ?_
    obtain⟨hp_50,h⟩:=h
    refine Qu 67 (fun pp=> .slice pp v67.len v67.cap) hp_50 ?_
    refine Qi1 h fun h=> ?_
    refine Ql h fun v70 h=> ?_
    refine QL h fun v71 h=> ?_
    refine zD K_ ?_
    refine Ym2 h fun v72 v72_1 w13 h=> ?_
    refine Yf [] [0,4,6] (Yt (Yn P1 ?_))
    refine Yv 73 h fun hp_52 h=> ?_
    refine Yn P1 (Yn P1 ?_)
    refine Yl h fun v76 h=> ?_
    refine Ym1 h fun v77 w14 h=> ?_
    refine Yf [] [0,4,6] (Yt (Yn P1 ?_))
    refine Yv 78 h fun hp_53 h=> ?_
    refine Yn P1 (Yn P1 ?_)
    refine Yl h fun v81 h=> ?_
    refine Ym1 h fun v82 w15 h=> ?_
    refine Yn P2 ?_
    refine Yo h fun w16 h=> ?_
    refine Yf [] [4] ?_
    obtain⟨res1,hc_res1,h⟩:=h
    exact YSg (rs:=[(ResultVar.cell 4 35)]) (v:=Value.agg #[Vi res1.Task,Value.int .u8 res1.Kind,Vi res1.Number,Vi res1.Shard,Vi res1.Count,Vi res1.Mark]) (⟨b_,0,[Vi res1.Task,Value.int .u8 res1.Kind,Vi res1.Number,Vi res1.Shard,Vi res1.Count,Vi res1.Mark],K_,hc_res1,(zq (k:=6) K_ K_),.inl ⟨K_,rfl⟩,trivial⟩) ⟨res1,rfl,h⟩
   ·refine zk (Yt (Yn P1 ?_))
    refine Yv 86 h fun hp_55 h=> ?_
    refine Yn P1 (Yn P1 ?_)
    refine Yl h fun v89 h=> ?_
    refine Ym2 h fun n_ v90_1 w17 h=> ?_
    refine Yf (Pl 5) [0,4,9] (Ys ?_)
    refine zm (id:=13) (ops:=zWr) zyc K_ K_ K_ K_ (fun w18 hw=> ?_)
    replace h:=h w18 hw
    clear hw
    refine Mn P1 ?_
    refine Mv 93 h fun hp_60 h=> ?_
    refine Mn P1 ?_
    refine Mn P2 ?_
    refine Ml 4 h fun v97 hc h=> ?_
    refine Mn P1 ?_
    refine Mv 98 h fun hp_61 h=> ?_
    refine Mn P1 ?_
    refine Mn P2 ?_
    refine Ml 9 h fun v102 hc h=> ?_
    refine Mv 102 h fun hp_62 h=> ?_
    refine Mn P1 ?_
    refine Mn P1 ?_
    refine Ml 12 h fun v105 hc h=> ?_
    refine Mn P1 ?_
    refine z7 (op:=(Op.buildSlice 25 1 #[(0,(Operand.tmp 106))])) (ty:=25) (dst:=some 107) 14 [13] [(12,fun w'=>w'.cell? ⟨(pblk v102),(poff v102)+14,none⟩=some (sv_ v105)),(9,fun w'=>w'.cell? ⟨(pblk w_),(poff w_),none⟩=some (Vp v102)),(4,fun w'=>w'.cell? ⟨(pblk w_),(poff w_),none⟩=some (Vp v97))] (fun bb=>Value.slice (some ⟨bb,0,none⟩) 1 1) (Obj.cells ([Vi n_]).toArray y_h (0,0)) K_ K_ K_ K_ K_ K_ (fun b_3 w19 hb hw=> ?_)
    replace h:=h b_3 w19 hb hw
    clear hb hw
    obtain⟨hk0,hk1,hk2,h⟩:=h
    refine⟨⟨hk0,hk1,hk2,trivial⟩,?_⟩
    obtain⟨src,hs,h⟩:=h
    refine zGb (t:=25) (tx:=25) (e:=3) (a:=(Operand.tmp 105)) (xo:=(Operand.tmp 107)) (s:=v105) (x:=(Slc.mk (some ⟨b_3,0,none⟩) 1 1)) (sz:=1) (by_:=8) (zs:=[Vi 0]) (ty:=25) (dst:=some 108) 15 [12,14,11,13,10,9,8,7,6,5] [(4,fun w'=>w'.cell? ⟨(pblk w_),(poff w_),none⟩=some (Vp v97))] src K_ K_ K_ K_ K_ K_ K_ K_ K_ K_ K_ K_ K_ hs (zo.mono h (fun v108 w20 h=> ?_))
    obtain⟨hk0,h⟩:=h
    refine⟨⟨hk0,trivial⟩,?_⟩
    refine Mv 97 h fun hp_63 h=> ?_
    refine Mn P1 ?_
    refine Mn P1 ?_
    refine z3b 18 [0,1,2,3,4,5,6,7,8,9,10,11,12,13,14,15,17,16] [] h fun w21 h=> ?_
    refine⟨trivial,?_⟩
    refine Mf [] [4,9] ?_
    refine Yt (Yn P2 ?_)
    refine Yo h fun w22 h=> ?_
    refine Yf [] [4] ?_
    obtain⟨res2,hc_res2,h⟩:=h
    exact YSg (rs:=[(ResultVar.cell 4 35)]) (v:=Value.agg #[Vi res2.Task,Value.int .u8 res2.Kind,Vi res2.Number,Vi res2.Shard,Vi res2.Count,Vi res2.Mark]) (⟨b_,0,[Vi res2.Task,Value.int .u8 res2.Kind,Vi res2.Number,Vi res2.Shard,Vi res2.Count,Vi res2.Mark],K_,hc_res2,(zq (k:=6) K_ K_),.inl ⟨K_,rfl⟩,trivial⟩) ⟨res2,rfl,h⟩

/-! ### (*towpath/replica.keeper).can (function 234) -/

theorem S_R {k_:OA} {w:World} {R:Int→WP} (h:F_ic k_ R w):C_M k_ w R:=by
 unfold F_ic at h
 refine Yh Tryz.func234 ?_
 ·refine Yp P1 [0] (Ys (Yt (Yn P1 ?_)))
  refine Yv 3 h fun hp_3 h=> ?_
  refine Yn P1 (Yn P1 ?_)
  refine Yl h fun v6 h=> ?_
  refine Ym1 h fun v7 w1 h=> ?_
  refine Yf P1 [8] ?_
  refine Yc h (fun h=> ?_) fun h=> ?_
  ·refine Yp P1 [2] ?_
   exact YS ⟨7,rfl,h⟩
  ·refine zk (Yp P1 [2] ?_)
   exact YS ⟨0,rfl,h⟩

/-! ### (*towpath/replica.keeper).step (function 235) -/
def zVu:=cb_ Tryz.f235
def zWu:=cr_ zVu
def zGn:=cr_ zWu
def zXu:=cl_ zGn
def zXr:=cr_ zXu
def z5l:=cl_ zXr
def zYr:=cl_ z5l
def zZr:=co_ zYr
def z0r:=cr_ z5l
def z1r:=cr_ z0r
def z2r:=cl_ z1r
def z3r:=co_ z2r
def z6l:=cr_ zGn
def z4r:=cl_ z6l
def z5r:=co_ z4r
def z7l:=cr_ z6l
def z6r:=cl_ z7l
def z7r:=co_ z6r
def z8r:=cr_ z7l
def z9r:=cr_ z8r
def zas:=cl_ z9r
def zbs:=co_ zas
def zzc:List Nat:=[0,2,3,4,5,1,6,7]

theorem S_K {k_:OA} {t1:Int} {w:World} {R:T_a→WP} (h:F_3b k_ t1 R w):C_4 k_ t1 w R:=by
 unfold F_3b at h
 refine Yh Tryz.func235 ?_
 ·refine Yt ?_
  refine Yw pv_ h fun b_ w1 h=> ?_
  refine Yf [] [0,4] (Yt (Yn P1 ?_))
  refine Yv 10 h fun hp_1 h=> ?_
  refine Yn P1 (Yn P1 ?_)
  refine Yl h fun v13 h=> ?_
  refine Ym2 h fun v14 v14_1 w2 h=> ?_
  refine Yn P3 ?_
  refine Yw pv_ h fun b_1 w3 h=> ?_
  refine Yo h fun w4 h=> ?_
  refine Yf P1 [0,4,5] (Ys (Yt (Yn P1 ?_)))
  refine Yl h fun v18 h=> ?_
  refine Yf P1 [0,4,5,19] ?_
  refine Yc h (fun h=> ?_) fun h=> ?_
  ·refine Ys ?_
   refine zv (id:=3) (ops:=zZr) K_ K_ K_ ?_
   refine Qn P1 ?_
   refine Qv 20 h fun hp_12 h=> ?_
   refine Qn P1 ?_
   refine Qn P2 ?_
   refine Ql h fun v24 h=> ?_
   refine Qv 24 h fun hp_13 h=> ?_
   refine Qn P1 ?_
   refine Qn P1 ?_
   refine Ql h fun v27 h=> ?_
   refine Qn P1 ?_
   refine Ql h fun v29 h=> ?_
   refine Qn P1 ?_
   obtain⟨hp_14,h⟩:=h
   refine Qu 27 (fun pp=> .slice pp v27.len v27.cap) hp_14 ?_
   refine Qi1 h fun h=> ?_
   refine Ql h fun l_ h=> ?_
   refine Qf P1 [0,4,7] h fun w5 h=> ?_
   refine Yt (Yn P1 ?_)
   refine Ym1 h fun v34 w6 h=> ?_
   refine Yf [] [0,4,7] (Ys ?_)
   refine zm (id:=5) (ops:=z3r) zzc K_ K_ K_ K_ (fun w7 hw=> ?_)
   replace h:=h w7 hw
   clear hw
   refine Mn P2 ?_
   refine Mv 37 h fun hp_15 h=> ?_
   refine Mn P1 ?_
   refine Mn P1 ?_
   refine Ml 5 h fun v40 hc h=> ?_
   refine zt (op:=(Op.call (Call.mk (Callee.value (Operand.func 222)) #[(Operand.tmp 35)] #[133]))) (ty:=3) (dst:=some 36) 1 [0] [(5,fun w'=>w'.cell? ⟨(pblk k_),(poff k_)+2,none⟩=some (Vi v40))] 222 #[Vp l_] K_ K_ K_ K_ K_ (fun ww=>by kernel_rfl) (Calls.mono h ?_)
   rintro _ w8 ⟨v36,rfl,h⟩
   obtain⟨hk0,h⟩:=h
   refine⟨_,rfl,⟨hk0,trivial⟩,?_⟩
   refine Mn P1 ?_
   refine z3b 7 [0,1,2,3,4,5,6] [] h fun w9 h=> ?_
   refine⟨trivial,?_⟩
   refine Mf [] [4] ?_
   obtain⟨res,hc_res,h⟩:=h
   exact YSg (rs:=[(ResultVar.cell 4 35)]) (v:=Value.agg #[Vi res.Task,Value.int .u8 res.Kind,Vi res.Number,Vi res.Shard,Vi res.Count,Vi res.Mark]) (⟨b_,0,[Vi res.Task,Value.int .u8 res.Kind,Vi res.Number,Vi res.Shard,Vi res.Count,Vi res.Mark],K_,hc_res,(zq (k:=6) K_ K_),.inl ⟨K_,rfl⟩,trivial⟩) ⟨res,rfl,h⟩
  ·refine zk (Ys ?_)
   refine zv (id:=6) (ops:=z5r) K_ K_ K_ ?_
   refine Qn P1 ?_
   refine Qv 42 h fun hp_19 h=> ?_
   refine Qn P1 ?_
   refine Qn P2 ?_
   refine Ql h fun v46 h=> ?_
   refine Qv 46 h fun hp_20 h=> ?_
   refine Qn P1 ?_
   refine Qn P1 ?_
   refine Ql h fun v49 h=> ?_
   refine Qn P1 ?_
   refine Ql h fun v51 h=> ?_
   refine Qn P1 ?_
   obtain⟨hp_21,h⟩:=h
   refine Qu 49 (fun pp=> .slice pp v49.len v49.cap) hp_21 ?_
   refine Qi1 h fun h=> ?_
   refine Ql h fun c h=> ?_
   refine Qf P1 [0,4,5,8] h fun w10 h=> ?_
   refine Ys ?_
   refine zn (id:=7) (ops:=z7r) K_ 5 K_ K_ (fun w11 hw=> ?_)
   replace h:=h w11 hw
   clear hw
   refine Qn P1 ?_
   refine Qv 55 h fun hp_23 h=> ?_
   refine Qn P1 ?_
   refine Qn P1 ?_
   refine Ql h fun v58 h=> ?_
   refine QL h fun v59 h=> ?_
   refine zD K_ ?_
   refine Ym1 h fun v60 w12 h=> ?_
   refine Yf [] [0,4,5,8] ?_
   refine Ycut (fun l w=>l=[(0,Vp k_),(4,pv_ b_),(5,pv_ b_1)]∧F_8 k_ R b_ b_1 w) ?_ ?_
   ·refine Yt (Yn P1 ?_)
    refine Yv 61 h fun hp_28 h=> ?_
    refine Yn P1 (Yn P1 ?_)
    refine Yl h fun v64 h=> ?_
    refine Ym1 h fun v65 w16 h=> ?_
    refine Yf [] [0,4,5,8,65] ?_
    refine Yc h (fun h=> ?_) fun h=> ?_
    ·refine Yr (Yn P1 ?_)
     refine Ym0 h fun w17 h=> ?_
     refine Yf [] [0,4,5] ?_
     exact⟨_,Sub.mk K_,rfl,h⟩
    ·refine zk ?_
     exact⟨_,Sub.mk K_,rfl,h⟩
   ·rintro _ w13 ⟨rfl,h⟩
    unfold F_8 at h
    refine Ys ?_
    refine zn (id:=10) (ops:=zbs) K_ 7 K_ K_ (fun w14 hw=> ?_)
    replace h:=h w14 hw
    clear hw
    refine Qn P1 ?_
    refine Ql h fun v69 h=> ?_
    refine Qn P1 ?_
    refine Qv 70 h fun hp_26 h=> ?_
    refine Qn P1 ?_
    refine Qn P1 ?_
    refine Ql h fun v73 h=> ?_
    refine Qn P1 ?_
    refine zD K_ ?_
    refine Yo h fun w15 h=> ?_
    refine Yf [] [4] ?_
    obtain⟨res1,hc_res1,h⟩:=h
    exact YSg (rs:=[(ResultVar.cell 4 35)]) (v:=Value.agg #[Vi res1.Task,Value.int .u8 res1.Kind,Vi res1.Number,Vi res1.Shard,Vi res1.Count,Vi res1.Mark]) (⟨b_,0,[Vi res1.Task,Value.int .u8 res1.Kind,Vi res1.Number,Vi res1.Shard,Vi res1.Count,Vi res1.Mark],K_,hc_res1,(zq (k:=6) K_ K_),.inl ⟨K_,rfl⟩,trivial⟩) ⟨res1,rfl,h⟩

/-! ### (*towpath/replica.warden).can (function 281) -/

theorem S_S {w_:OA} {w:World} {R:Int→WP} (h:F_lc w_ R w):C_N w_ w R:=by
 unfold F_lc at h
 refine Yh Tryz.func281 ?_
 ·refine Yp P1 [0] (Ys (Yt (Yn P1 ?_)))
  refine Yv 3 h fun hp_6 h=> ?_
  refine Yn P1 (Yn P2 ?_)
  refine Yl h fun v7 h=> ?_
  refine Yv 7 h fun hp_7 h=> ?_
  refine Yn P1 (Yn P1 ?_)
  refine Yl h fun v10 h=> ?_
  refine Yf P2 [12] ?_
  refine Yc h (fun h=> ?_) fun h=> ?_
  ·refine Yp P1 [2] ?_
   exact YS ⟨8,rfl,h⟩
  ·refine zk (Yp P1 [2] ?_)
   exact YS ⟨0,rfl,h⟩
end
end Go.Proofs.YtofjmclceflgiaaGreat
