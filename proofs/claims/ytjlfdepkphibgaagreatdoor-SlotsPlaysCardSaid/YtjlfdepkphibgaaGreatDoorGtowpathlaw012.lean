/- WRITTEN BY PROGRAM (dec.py): for each Go function the clean formula F, the call's contract C, and the proof S that F gives C. -/
import Derived.Test.YtjlfdepkphibgaaGreatDoorRows
import Derived.Test.YtjlfdepkphibgaaGreatDoorGF
namespace Go.Proofs.YtjlfdepkphibgaaGreatDoor
open Go
set_option linter.unusedVariables false
set_option maxRecDepth 100000
set_option maxHeartbeats 4000000
noncomputable section

/-! ### (*towpath/towpathlaw01.Book).growVersion (function 55) -/

theorem S_t {b_:OA} {w:World} {R:WP} (h:F_8b b_ R w):C_K b_ w R:=by
 unfold F_8b at h
 refine Yh Tryz.func55 ?_
 ·refine Yp P1 [0,2] (Yd 0 ?_)
  obtain⟨I,μ,h0,hr⟩:=h
  refine zN (fun m l w=>∃(i:Int),l=[(0,Vp b_),(2,Vi i)]∧I i w∧μ i w=m) ⟨0,rfl,h0,rfl⟩ ?_
  rintro _ _ w1 ⟨i,rfl,hI,rfl⟩
  obtain⟨again_,again__h,h⟩:∃ again_:Int→WP,(∀ i' w',again_ i' w'→I i' w'∧μ i' w'<μ i w1)∧F_E b_ R again_ i w1:=⟨_,fun _ _ h=>h,hr i w1 hI⟩
  clear h0 hI
  unfold F_E at h
  refine Ys (Yt (Yn P2 ?_))
  refine Yv 7 h fun hp_3 h=> ?_
  refine Yn P1 (Yn P1 ?_)
  refine Yl h fun v10 h=> ?_
  refine Yf P2 [0,2,12] ?_
  refine Yc h (fun h=> ?_) fun h=> ?_
  ·refine zg (Ys (Yd 1 (Yt (Yn P1 ?_))))
   refine Yv 15 h fun hp_12 h=> ?_
   refine Yn P1 (Yn P1 ?_)
   refine Yl h fun v18 h=> ?_
   refine Yn P1 ?_
   obtain⟨hp_13,h⟩:=h
   refine Yu 18 (fun pp=> .slice pp v18.len v18.cap) hp_13 ?_
   refine Yi h fun h=> ?_
   refine YL h fun v21 h=> ?_
   refine Yw pv_ h fun b_1 w2 h=> ?_
   refine Yo h fun w3 h=> ?_
   refine Yf [] [0,2,3] (Yt (Yn P1 ?_))
   refine Yl h fun long h=> ?_
   refine Yf P1 [0,2,3,4] (Ys (Yp P1 [0,2,3,4,5] (Yd 2 ?_)))
   obtain⟨I,μ,h0,hr⟩:=h
   refine zN (fun m l w=>∃(long1:Slc) (k_:Int),l=[(0,Vp b_),(2,Vi i),(3,pv_ b_1),(4,sv_ long1),(5,Vi k_)]∧I long1 k_ w∧μ long1 k_ w=m) ⟨long,0,rfl,h0,rfl⟩ ?_
   rintro _ _ w4 ⟨long1,k_,rfl,hI,rfl⟩
   obtain⟨again_1,again_1_h,h⟩:∃ again_1:Slc→Int→WP,(∀ long1' k_' w',again_1 long1' k_' w'→I long1' k_' w'∧μ long1' k_' w'<μ long1 k_ w4)∧F_D b_ i again_ b_1 again_1 long1 k_ w4:=⟨_,fun _ _ _ h=>h,hr long1 k_ w4 hI⟩
   clear h0 hI
   unfold F_D at h
   refine Ys (Yp P2 [0,2,3,4,5,25] ?_)
   refine Yc h (fun h=> ?_) fun h=> ?_
   ·refine zg (Ys (Yd 3 (Yr (Yn P2 ?_))))
    refine Yl h fun v30 h=> ?_
    refine Ym1 h fun v31 w5 h=> ?_
    refine Yw (sl_ 1 1) h fun b_2 w6 h=> ?_
    obtain⟨src,hs,h⟩:=h
    refine zH (t:=126) (tx:=126) (e:=130) (a:=(Operand.tmp 28)) (xo:=(Operand.tmp 32)) (s:=long1) (x:=(Slc.mk (some ⟨b_2,0,none⟩) 1 1)) (sz:=3) (by_:=32) (zs:=[Vi 0,Value.string ByteArray.empty,Vo false]) (ty:=126) (dst:=some 33)  src K_ K_ K_ K_ K_ K_ K_ K_ K_ hs (zj.mono h (fun long2 w7 h=> ?_))
    refine Yf P1 [0,2,3,4,5] (Yr (Yf P3 [0,2,3,4,5] ?_))
    have hb_:=again_1_h _ _ _ h
    exact⟨_,hb_.2,_,Sub.mk K_,long2,(IntKind.i64.wrap (k_+1)),rfl,hb_.1,rfl⟩
   ·refine zM 2 (Yr (Yn P1 ?_))
    refine Yv 34 h fun hp_14 h=> ?_
    refine Yn P1 (Yn P1 ?_)
    refine Yl h fun v37 h=> ?_
    refine Yn P2 ?_
    obtain⟨hp_15,h⟩:=h
    refine Yu 37 (fun pp=> .slice pp v37.len v37.cap) hp_15 ?_
    refine Yi h fun h=> ?_
    refine Yn P1 ?_
    refine Yo h fun w8 h=> ?_
    refine Yf [] [0,2] (Yr (Yf P3 [0,2] ?_))
    have hb_:=again__h _ _ h
    exact⟨_,hb_.2,_,Sub.mk K_,(IntKind.i64.wrap (i+1)),rfl,hb_.1,rfl⟩
  ·refine zM 0 ?_
   repeat (first | refine zK ?_ | refine zA ?_ | refine zL ?_ | refine zB ?_ | refine zv K_ ?_)
   refine zw ?_
   repeat (first | refine zC ?_ | refine zp ?_ | refine zu ?_ | refine zE ?_)
   exact retT (rs:=[]) (vs:=[]) K_ (trivial) K_ ⟨rfl,h⟩

/-! ### (*towpath/towpathlaw01.Book).growTxn (function 56) -/

theorem S_Y {b_:OA} {w:World} {R:WP} (h:F_Wc b_ R w):C_tb b_ w R:=by
 unfold F_Wc at h
 refine Yh Tryz.func56 ?_
 ·refine Yp P1 [0,2] (Yd 0 ?_)
  obtain⟨I,μ,h0,hr⟩:=h
  refine zN (fun m l w=>∃(i:Int),l=[(0,Vp b_),(2,Vi i)]∧I i w∧μ i w=m) ⟨0,rfl,h0,rfl⟩ ?_
  rintro _ _ w1 ⟨i,rfl,hI,rfl⟩
  obtain⟨again_,again__h,h⟩:∃ again_:Int→WP,(∀ i' w',again_ i' w'→I i' w'∧μ i' w'<μ i w1)∧F_qb b_ R again_ i w1:=⟨_,fun _ _ h=>h,hr i w1 hI⟩
  clear h0 hI
  unfold F_qb at h
  refine Ys (Yt (Yn P2 ?_))
  refine Yv 7 h fun hp_3 h=> ?_
  refine Yn P1 (Yn P1 ?_)
  refine Yl h fun v10 h=> ?_
  refine Yf P2 [0,2,12] ?_
  refine Yc h (fun h=> ?_) fun h=> ?_
  ·exact h.elim
  ·refine zM 0 ?_
   repeat (first | refine zK ?_ | refine zA ?_ | refine zL ?_ | refine zB ?_ | refine zv K_ ?_)
   refine zw ?_
   repeat (first | refine zC ?_ | refine zp ?_ | refine zu ?_ | refine zE ?_)
   exact retT (rs:=[]) (vs:=[]) K_ (trivial) K_ ⟨rfl,h⟩

/-! ### (*towpath/towpathlaw01.Book).growHeld (function 57) -/

theorem S_O {b_:OA} {w:World} {R:WP} (h:F_Hc b_ R w):C_gb b_ w R:=by
 unfold F_Hc at h
 refine Yh Tryz.func57 ?_
 ·refine Yp P1 [0,2] (Yd 0 ?_)
  obtain⟨I,μ,h0,hr⟩:=h
  refine zN (fun m l w=>∃(i:Int),l=[(0,Vp b_),(2,Vi i)]∧I i w∧μ i w=m) ⟨0,rfl,h0,rfl⟩ ?_
  rintro _ _ w1 ⟨i,rfl,hI,rfl⟩
  obtain⟨again_,again__h,h⟩:∃ again_:Int→WP,(∀ i' w',again_ i' w'→I i' w'∧μ i' w'<μ i w1)∧F_eb b_ R again_ i w1:=⟨_,fun _ _ h=>h,hr i w1 hI⟩
  clear h0 hI
  unfold F_eb at h
  refine Ys (Yt (Yn P2 ?_))
  refine Yv 7 h fun hp_3 h=> ?_
  refine Yn P1 (Yn P1 ?_)
  refine Yl h fun v10 h=> ?_
  refine Yf P2 [0,2,12] ?_
  refine Yc h (fun h=> ?_) fun h=> ?_
  ·refine zg (Ys (Yd 1 (Yt (Yn P1 ?_))))
   refine Yv 15 h fun hp_12 h=> ?_
   refine Yn P1 (Yn P1 ?_)
   refine Yl h fun v18 h=> ?_
   refine Yn P1 ?_
   obtain⟨hp_13,h⟩:=h
   refine Yu 18 (fun pp=> .slice pp v18.len v18.cap) hp_13 ?_
   refine Yi h fun h=> ?_
   refine YL h fun v21 h=> ?_
   refine Yw pv_ h fun b_1 w2 h=> ?_
   refine Yo h fun w3 h=> ?_
   refine Yf [] [0,2,3] (Yt (Yn P1 ?_))
   refine Yl h fun long h=> ?_
   refine Yf P1 [0,2,3,4] (Ys (Yp P1 [0,2,3,4,5] (Yd 2 ?_)))
   obtain⟨I,μ,h0,hr⟩:=h
   refine zN (fun m l w=>∃(long1:Slc) (k_:Int),l=[(0,Vp b_),(2,Vi i),(3,pv_ b_1),(4,sv_ long1),(5,Vi k_)]∧I long1 k_ w∧μ long1 k_ w=m) ⟨long,0,rfl,h0,rfl⟩ ?_
   rintro _ _ w4 ⟨long1,k_,rfl,hI,rfl⟩
   obtain⟨again_1,again_1_h,h⟩:∃ again_1:Slc→Int→WP,(∀ long1' k_' w',again_1 long1' k_' w'→I long1' k_' w'∧μ long1' k_' w'<μ long1 k_ w4)∧F_db b_ i again_ b_1 again_1 long1 k_ w4:=⟨_,fun _ _ _ h=>h,hr long1 k_ w4 hI⟩
   clear h0 hI
   unfold F_db at h
   refine Ys (Yp P2 [0,2,3,4,5,25] ?_)
   refine Yc h (fun h=> ?_) fun h=> ?_
   ·refine zg (Ys (Yd 3 (Yr (Yn P2 ?_))))
    refine Yl h fun v30 h=> ?_
    refine Ym1 h fun v31 w5 h=> ?_
    refine Yw (sl_ 1 1) h fun b_2 w6 h=> ?_
    obtain⟨src,hs,h⟩:=h
    refine zH (t:=57) (tx:=57) (e:=141) (a:=(Operand.tmp 28)) (xo:=(Operand.tmp 32)) (s:=long1) (x:=(Slc.mk (some ⟨b_2,0,none⟩) 1 1)) (sz:=2) (by_:=40) (zs:=[Value.string ByteArray.empty,Value.slice none 0 0]) (ty:=57) (dst:=some 33)  src K_ K_ K_ K_ K_ K_ K_ K_ K_ hs (zj.mono h (fun long2 w7 h=> ?_))
    refine Yf P1 [0,2,3,4,5] (Yr (Yf P3 [0,2,3,4,5] ?_))
    have hb_:=again_1_h _ _ _ h
    exact⟨_,hb_.2,_,Sub.mk K_,long2,(IntKind.i64.wrap (k_+1)),rfl,hb_.1,rfl⟩
   ·refine zM 2 (Yr (Yn P1 ?_))
    refine Yv 34 h fun hp_14 h=> ?_
    refine Yn P1 (Yn P1 ?_)
    refine Yl h fun v37 h=> ?_
    refine Yn P2 ?_
    obtain⟨hp_15,h⟩:=h
    refine Yu 37 (fun pp=> .slice pp v37.len v37.cap) hp_15 ?_
    refine Yi h fun h=> ?_
    refine Yn P1 ?_
    refine Yo h fun w8 h=> ?_
    refine Yf [] [0,2] (Yr (Yf P3 [0,2] ?_))
    have hb_:=again__h _ _ h
    exact⟨_,hb_.2,_,Sub.mk K_,(IntKind.i64.wrap (i+1)),rfl,hb_.1,rfl⟩
  ·refine zM 0 ?_
   repeat (first | refine zK ?_ | refine zA ?_ | refine zL ?_ | refine zB ?_ | refine zv K_ ?_)
   refine zw ?_
   repeat (first | refine zC ?_ | refine zp ?_ | refine zu ?_ | refine zE ?_)
   exact retT (rs:=[]) (vs:=[]) K_ (trivial) K_ ⟨rfl,h⟩

/-! ### (*towpath/towpathlaw01.Book).growHeldList (function 58) -/

theorem S_p {b_:OA} {w:World} {R:WP} (h:F_Xb b_ R w):C_E b_ w R:=by
 unfold F_Xb at h
 refine Yh Tryz.func58 ?_
 ·refine Yp P1 [0,2] (Yd 0 ?_)
  obtain⟨I,μ,h0,hr⟩:=h
  refine zN (fun m l w=>∃(i:Int),l=[(0,Vp b_),(2,Vi i)]∧I i w∧μ i w=m) ⟨0,rfl,h0,rfl⟩ ?_
  rintro _ _ w1 ⟨i,rfl,hI,rfl⟩
  obtain⟨again_,again__h,h⟩:∃ again_:Int→WP,(∀ i' w',again_ i' w'→I i' w'∧μ i' w'<μ i w1)∧F_z b_ R again_ i w1:=⟨_,fun _ _ h=>h,hr i w1 hI⟩
  clear h0 hI
  unfold F_z at h
  refine Ys (Yt (Yn P2 ?_))
  refine Yv 7 h fun hp_3 h=> ?_
  refine Yn P1 (Yn P1 ?_)
  refine Yl h fun v10 h=> ?_
  refine Yf P2 [0,2,12] ?_
  refine Yc h (fun h=> ?_) fun h=> ?_
  ·exact h.elim
  ·refine zM 0 ?_
   repeat (first | refine zK ?_ | refine zA ?_ | refine zL ?_ | refine zB ?_ | refine zv K_ ?_)
   refine zw ?_
   repeat (first | refine zC ?_ | refine zp ?_ | refine zu ?_ | refine zE ?_)
   exact retT (rs:=[]) (vs:=[]) K_ (trivial) K_ ⟨rfl,h⟩

/-! ### (*towpath/towpathlaw01.Book).growEvent (function 59) -/

theorem S_F {b_:OA} {w:World} {R:WP} (h:F_qc b_ R w):C_0 b_ w R:=by
 unfold F_qc at h
 refine Yh Tryz.func59 ?_
 ·refine Yp P1 [0,2] (Yd 0 ?_)
  obtain⟨I,μ,h0,hr⟩:=h
  refine zN (fun m l w=>∃(i:Int),l=[(0,Vp b_),(2,Vi i)]∧I i w∧μ i w=m) ⟨0,rfl,h0,rfl⟩ ?_
  rintro _ _ w1 ⟨i,rfl,hI,rfl⟩
  obtain⟨again_,again__h,h⟩:∃ again_:Int→WP,(∀ i' w',again_ i' w'→I i' w'∧μ i' w'<μ i w1)∧F_1 b_ R again_ i w1:=⟨_,fun _ _ h=>h,hr i w1 hI⟩
  clear h0 hI
  unfold F_1 at h
  refine Ys (Yt (Yn P2 ?_))
  refine Yv 7 h fun hp_3 h=> ?_
  refine Yn P1 (Yn P1 ?_)
  refine Yl h fun v10 h=> ?_
  refine Yf P2 [0,2,12] ?_
  refine Yc h (fun h=> ?_) fun h=> ?_
  ·exact h.elim
  ·refine zM 0 ?_
   repeat (first | refine zK ?_ | refine zA ?_ | refine zL ?_ | refine zB ?_ | refine zv K_ ?_)
   refine zw ?_
   repeat (first | refine zC ?_ | refine zp ?_ | refine zu ?_ | refine zE ?_)
   exact retT (rs:=[]) (vs:=[]) K_ (trivial) K_ ⟨rfl,h⟩

/-! ### (*towpath/towpathlaw01.Book).growAnswer (function 60) -/

theorem S_x {b_:OA} {w:World} {R:WP} (h:F_fc b_ R w):C_P b_ w R:=by
 unfold F_fc at h
 refine Yh Tryz.func60 ?_
 ·refine Yp P1 [0,2] (Yd 0 ?_)
  obtain⟨I,μ,h0,hr⟩:=h
  refine zN (fun m l w=>∃(i:Int),l=[(0,Vp b_),(2,Vi i)]∧I i w∧μ i w=m) ⟨0,rfl,h0,rfl⟩ ?_
  rintro _ _ w1 ⟨i,rfl,hI,rfl⟩
  obtain⟨again_,again__h,h⟩:∃ again_:Int→WP,(∀ i' w',again_ i' w'→I i' w'∧μ i' w'<μ i w1)∧F_R b_ R again_ i w1:=⟨_,fun _ _ h=>h,hr i w1 hI⟩
  clear h0 hI
  unfold F_R at h
  refine Ys (Yt (Yn P2 ?_))
  refine Yv 7 h fun hp_3 h=> ?_
  refine Yn P1 (Yn P1 ?_)
  refine Yl h fun v10 h=> ?_
  refine Yf P2 [0,2,12] ?_
  refine Yc h (fun h=> ?_) fun h=> ?_
  ·exact h.elim
  ·refine zM 0 ?_
   repeat (first | refine zK ?_ | refine zA ?_ | refine zL ?_ | refine zB ?_ | refine zv K_ ?_)
   refine zw ?_
   repeat (first | refine zC ?_ | refine zp ?_ | refine zu ?_ | refine zE ?_)
   exact retT (rs:=[]) (vs:=[]) K_ (trivial) K_ ⟨rfl,h⟩

/-! ### (*towpath/towpathlaw01.Book).lookByte (function 61) -/

theorem S_P {b_:OA} {w:World} {R:Bool→WP} (h:F_Ic b_ R w):C_hb b_ w R:=by
 unfold F_Ic at h
 refine Yh Tryz.func61 ?_
 ·refine Yp P1 [0] (Ys (Yp P1 [0,3] (Yd 0 ?_)))
  obtain⟨I,μ,h0,hr⟩:=h
  refine zN (fun m l w=>∃(i:Int),l=[(0,Vp b_),(3,Vi i)]∧I i w∧μ i w=m) ⟨0,rfl,h0,rfl⟩ ?_
  rintro _ _ w1 ⟨i,rfl,hI,rfl⟩
  obtain⟨again_,again__h,h⟩:∃ again_:Int→WP,(∀ i' w',again_ i' w'→I i' w'∧μ i' w'<μ i w1)∧F_fb b_ R again_ i w1:=⟨_,fun _ _ h=>h,hr i w1 hI⟩
  clear h0 hI
  unfold F_fb at h
  refine Ys (Yt (Yn P2 ?_))
  refine Yv 7 h fun hp_7 h=> ?_
  refine Yn P1 (Yn P1 ?_)
  refine Yl h fun v10 h=> ?_
  refine Yf P2 [0,3,12] ?_
  refine Yc h (fun h=> ?_) fun h=> ?_
  ·exact h.elim
  ·refine zM 0 (Yp P1 [2] ?_)
   exact YS ⟨true,rfl,h⟩

/-! ### (*towpath/towpathlaw01.Book).lookInt (function 62) -/
def zeu:=cb_ Tryz.f62
def zfu:=cr_ zeu
def zgu:=cl_ zfu
def zhu:=cr_ zgu
def ziu:=cl_ zhu
def zju:=cl_ ziu
def z1p:=cr_ zju
def z2p:=cl_ z1p
def z3p:=cl_ z2p
def z4p:=cr_ z3p
def z5p:=cr_ z4p
def z6p:=cr_ z5p
def z7p:=cl_ z6p
def z8p:=cl_ z7p
def z9p:=cr_ z8p
def zaq:=cl_ z9p
def zbq:=cl_ zaq
def zcq:=cl_ zbq
def zdq:=co_ zcq

theorem S_Z {b_:OA} {w:World} {R:Bool→WP} (h:F_Xc b_ R w):C_ub b_ w R:=by
 unfold F_Xc at h
 refine Yh Tryz.func62 ?_
 ·refine Yp P1 [0] (Ys (Yp P1 [0,3] (Yd 0 ?_)))
  obtain⟨I,μ,h0,hr⟩:=h
  refine zN (fun m l w=>∃(i:Int),l=[(0,Vp b_),(3,Vi i)]∧I i w∧μ i w=m) ⟨0,rfl,h0,rfl⟩ ?_
  rintro _ _ w1 ⟨i,rfl,hI,rfl⟩
  obtain⟨again_,again__h,h⟩:∃ again_:Int→WP,(∀ i' w',again_ i' w'→I i' w'∧μ i' w'<μ i w1)∧F_sb b_ R again_ i w1:=⟨_,fun _ _ h=>h,hr i w1 hI⟩
  clear h0 hI
  unfold F_sb at h
  refine Ys (Yt (Yn P2 ?_))
  refine Yv 7 h fun hp_31 h=> ?_
  refine Yn P1 (Yn P1 ?_)
  refine Yl h fun v10 h=> ?_
  refine Yf P2 [0,3,12] ?_
  refine Yc h (fun h=> ?_) fun h=> ?_
  ·refine zg (Ys (Yd 1 (Yt (Yn P1 ?_))))
   refine Yv 15 h fun hp_46 h=> ?_
   refine Yn P1 (Yn P1 ?_)
   refine Yl h fun v18 h=> ?_
   refine Yn P1 ?_
   obtain⟨hp_47,h⟩:=h
   refine Yu 18 (fun pp=> .slice pp v18.len v18.cap) hp_47 ?_
   refine Yi h fun h=> ?_
   refine YL h fun v21 h=> ?_
   refine Yw pv_ h fun b_1 w2 h=> ?_
   refine Yo h fun w3 h=> ?_
   refine Yf [] [0,3,4] (Ys (Yt (Yn P1 ?_)))
   refine Yl h fun v23 h=> ?_
   refine Yn P2 ?_
   refine Yl h fun v26 h=> ?_
   refine Yf P3 [0,3,4,29] ?_
   refine Yc h (fun h=> ?_) fun h=> ?_
   ·refine Yp P1 [2] ?_
    exact YS ⟨false,rfl,h⟩
   ·refine zg (Yp P1 [0,3,4,5] (Yd 2 ?_))
    obtain⟨I,μ,h0,hr⟩:=h
    refine zN (fun m l w=>∃(k_:Int),l=[(0,Vp b_),(3,Vi i),(4,pv_ b_1),(5,Vi k_)]∧I k_ w∧μ k_ w=m) ⟨0,rfl,h0,rfl⟩ ?_
    rintro _ _ w4 ⟨k_,rfl,hI,rfl⟩
    obtain⟨again_1,again_1_h,h⟩:∃ again_1:Int→WP,(∀ k_' w',again_1 k_' w'→I k_' w'∧μ k_' w'<μ k_ w4)∧F_rb R i again_ b_1 again_1 k_ w4:=⟨_,fun _ _ h=>h,hr k_ w4 hI⟩
    clear h0 hI
    unfold F_rb at h
    refine Ys (Yt (Yn P2 ?_))
    refine Yl h fun v32 h=> ?_
    refine Yf P2 [0,3,4,5,34] ?_
    refine Yc h (fun h=> ?_) fun h=> ?_
    ·refine zg (Ys (Yd 3 ?_))
     refine Ycut (fun l w=>∃(t63:Bool),l=[(0,Vp b_),(3,Vi i),(4,pv_ b_1),(5,Vi k_),(63,Vo t63)]∧F_f R k_ again_1 t63 w) ?_ ?_
     ·refine zO (id:=10) (ops:=zdq) K_ K_ K_ ?_
      refine Qn P1 ?_
      refine Ql h fun v38 h=> ?_
      refine Qn P1 ?_
      obtain⟨hp_54,h⟩:=h
      refine Qu 38 (fun pp=> .slice pp v38.len v38.cap) hp_54 ?_
      refine Qi1 h fun h=> ?_
      refine Ql h fun v41 h=> ?_
      refine Qn P1 ?_
      refine Ql h fun v43 h=> ?_
      obtain⟨v44,hq,h⟩:=h
      refine zLb (op:=(Op.call (Call.mk (Callee.value (Operand.func 106)) #[(Operand.tmp 41),(Operand.tmp 43)] #[3,3]))) (ty:=4) (dst:=some 44) 106 #[Vi v41,Vi v43] (Vo v44) K_ (fun ww=>by kernel_rfl) (fun w' he=>Calls.mono (hq w' he) (by rintro _ w'' ⟨_,rfl,rfl,hE⟩; exact⟨rfl,hE⟩)) ?_
      clear hq
      refine Qn P4 ?_
      refine Qspl 46 h (fun h=> ?_) fun h=> ?_
      ·refine Qf [.skip,.skip,.skip,.skip,.skip,.skip,.skip,.skip,.skip,.skip,.skip,.skip,.skip,.skip,.plain] [0,3,4,5,63] h fun w7 h=> ?_
       exact⟨_,Sub.mk K_,true,rfl,h⟩
      ·refine Ql h fun v49 h=> ?_
       refine Qn [.sure,.sure,.sure,.plain] ?_
       refine Qspl 52 h (fun h=> ?_) fun h=> ?_
       ·refine Ql h fun v54 h=> ?_
        refine Qn [.sure] ?_
        obtain⟨hp_55,h⟩:=h
        refine Qu 54 (fun pp=> .slice pp v54.len v54.cap) hp_55 ?_
        refine Qi1 h fun h=> ?_
        refine Ql h fun v57 h=> ?_
        refine Qn [.sure] ?_
        refine Ql h fun v59 h=> ?_
        obtain⟨v60,hq,h⟩:=h
        refine zLb (op:=(Op.call (Call.mk (Callee.value (Operand.func 106)) #[(Operand.tmp 57),(Operand.tmp 59)] #[3,3]))) (ty:=4) (dst:=some 60) 106 #[Vi v57,Vi v59] (Vo v60) K_ (fun ww=>by kernel_rfl) (fun w' he=>Calls.mono (hq w' he) (by rintro _ w'' ⟨_,rfl,rfl,hE⟩; exact⟨rfl,hE⟩)) ?_
        clear hq
        refine Qf [.sure,.sure,.plain] [0,3,4,5,63] h fun w9 h=> ?_
        exact⟨_,Sub.mk K_,(!v60),rfl,h⟩
       ·refine Qf [.skip,.skip,.skip,.skip,.skip,.skip,.skip,.skip,.sure,.plain] [0,3,4,5,63] h fun w10 h=> ?_
        exact⟨_,Sub.mk K_,false,rfl,h⟩
     ·rintro _ w5 ⟨t63,rfl,h⟩
      unfold F_f at h
      refine Yc h (fun h=> ?_) fun h=> ?_
      ·refine Yp P1 [2] ?_
       exact YS ⟨false,rfl,h⟩
      ·refine zg (Yr (Yf P3 [0,3,4,5] ?_))
       have hb_:=again_1_h _ _ h
       exact⟨_,hb_.2,_,Sub.mk K_,(IntKind.i64.wrap (k_+1)),rfl,hb_.1,rfl⟩
    ·refine zM 2 (Yr (Yf P3 [0,3] ?_))
     have hb_:=again__h _ _ h
     exact⟨_,hb_.2,_,Sub.mk K_,(IntKind.i64.wrap (i+1)),rfl,hb_.1,rfl⟩
  ·refine zM 0 (Yp P1 [2] ?_)
   exact YS ⟨true,rfl,h⟩
end
end Go.Proofs.YtjlfdepkphibgaaGreatDoor
