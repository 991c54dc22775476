/- WRITTEN BY PROGRAM (dec.py): for each Go function the clean formula F, the call's contract C, and the proof S that F gives C. -/
import Derived.Test.YtjlfdepkphibgaaGreatDoorRows
import Derived.Test.YtjlfdepkphibgaaGreatDoorGF
namespace Go.Proofs.YtjlfdepkphibgaaGreatDoor
open Go
set_option linter.unusedVariables false
set_option maxRecDepth 100000
set_option maxHeartbeats 4000000
noncomputable section

/-! ### (*towpath/towpathlaw01.Book).fillEntry (function 43) -/

theorem S_B {b_:OA} {w:World} {R:WP} (h:F_mc b_ R w):C_W b_ w R:=by
 unfold F_mc at h
 refine Yh Tryz.func43 ?_
 ·refine Yp P1 [0,2] (Yd 0 ?_)
  obtain⟨I,μ,h0,hr⟩:=h
  refine zN (fun m l w=>∃(i:Int),l=[(0,Vp b_),(2,Vi i)]∧I i w∧μ i w=m) ⟨0,rfl,h0,rfl⟩ ?_
  rintro _ _ w1 ⟨i,rfl,hI,rfl⟩
  obtain⟨again_,again__h,h⟩:∃ again_:Int→WP,(∀ i' w',again_ i' w'→I i' w'∧μ i' w'<μ i w1)∧F_X b_ R again_ i w1:=⟨_,fun _ _ h=>h,hr i w1 hI⟩
  clear h0 hI
  unfold F_X at h
  refine Ys (Yt (Yn P2 ?_))
  refine Yv 6 h fun hp_3 h=> ?_
  refine Yn P1 (Yn P1 ?_)
  refine Yl h fun v9 h=> ?_
  refine Yf P2 [0,2,11] ?_
  refine Yc h (fun h=> ?_) fun h=> ?_
  ·exact h.elim
  ·refine zM 0 ?_
   repeat (first | refine zK ?_ | refine zA ?_ | refine zL ?_ | refine zB ?_ | refine zv K_ ?_)
   refine zw ?_
   repeat (first | refine zC ?_ | refine zp ?_ | refine zu ?_ | refine zE ?_)
   exact retT (rs:=[]) (vs:=[]) K_ (trivial) K_ ⟨rfl,h⟩

/-! ### (*towpath/towpathlaw01.Book).fillVersion (function 44) -/
def z6t:=cb_ Tryz.f44
def z7t:=cr_ z6t
def z8t:=cl_ z7t
def z9t:=cl_ z8t
def zFp:=cr_ z9t
def zGp:=cl_ zFp
def zHp:=cl_ zGp
def zIp:=cr_ zHp
def zJp:=cr_ zIp
def zKp:=cl_ zJp
def zLp:=cl_ zKp
def zMp:=cr_ zLp
def zNp:=cl_ zMp
def zOp:=cl_ zNp
def zPp:=co_ zOp
def zNb:List Nat:=[0,1,2,3,4,5,6,7]

theorem S_s {b_:OA} {w:World} {R:WP} (h:F_7b b_ R w):C_J b_ w R:=by
 unfold F_7b at h
 refine Yh Tryz.func44 ?_
 ·refine Yp P1 [0,2] (Yd 0 ?_)
  obtain⟨I,μ,h0,hr⟩:=h
  refine zN (fun m l w=>∃(i:Int),l=[(0,Vp b_),(2,Vi i)]∧I i w∧μ i w=m) ⟨0,rfl,h0,rfl⟩ ?_
  rintro _ _ w1 ⟨i,rfl,hI,rfl⟩
  obtain⟨again_,again__h,h⟩:∃ again_:Int→WP,(∀ i' w',again_ i' w'→I i' w'∧μ i' w'<μ i w1)∧F_C b_ R again_ i w1:=⟨_,fun _ _ h=>h,hr i w1 hI⟩
  clear h0 hI
  unfold F_C at h
  refine Ys (Yt (Yn P2 ?_))
  refine Yv 6 h fun hp_3 h=> ?_
  refine Yn P1 (Yn P1 ?_)
  refine Yl h fun v9 h=> ?_
  refine Yf P2 [0,2,11] ?_
  refine Yc h (fun h=> ?_) fun h=> ?_
  ·refine zg (Ys (Yd 1 (Yt (Yn P1 ?_))))
   refine Yv 14 h fun hp_12 h=> ?_
   refine Yn P1 (Yn P1 ?_)
   refine Yl h fun v17 h=> ?_
   refine Yn P1 ?_
   obtain⟨hp_13,h⟩:=h
   refine Yu 17 (fun pp=> .slice pp v17.len v17.cap) hp_13 ?_
   refine Yi h fun h=> ?_
   refine YL h fun v20 h=> ?_
   refine Yw pv_ h fun b_1 w2 h=> ?_
   refine Yo h fun w3 h=> ?_
   refine Yf [] [0,2,3] (Yp P1 [0,2,3,4] (Yd 2 ?_))
   obtain⟨I,μ,h0,hr⟩:=h
   refine zN (fun m l w=>∃(k_:Int),l=[(0,Vp b_),(2,Vi i),(3,pv_ b_1),(4,Vi k_)]∧I k_ w∧μ k_ w=m) ⟨0,rfl,h0,rfl⟩ ?_
   rintro _ _ w4 ⟨k_,rfl,hI,rfl⟩
   obtain⟨again_1,again_1_h,h⟩:∃ again_1:Int→WP,(∀ k_' w',again_1 k_' w'→I k_' w'∧μ k_' w'<μ k_ w4)∧F_B i again_ b_1 again_1 k_ w4:=⟨_,fun _ _ h=>h,hr k_ w4 hI⟩
   clear h0 hI
   unfold F_B at h
   refine Ys (Yt (Yn P2 ?_))
   refine Yl h fun v23 h=> ?_
   refine Yf P2 [0,2,3,4,25] ?_
   refine Yc h (fun h=> ?_) fun h=> ?_
   ·refine zg (Ys (Yd 3 ?_))
    refine zm (id:=7) (ops:=zPp) zNb K_ K_ K_ K_ (fun w5 hw=> ?_)
    replace h:=h w5 hw
    clear hw
    refine Mn P1 ?_
    refine Ml 1 h fun v29 hc h=> ?_
    refine Mn P2 ?_
    refine Ml 4 h fun v32 hc h=> ?_
    refine zo (op:=(Op.call (Call.mk (Callee.value (Operand.func 99)) #[(Operand.tmp 32)] #[3]))) (ty:=130) (dst:=some 33) 5 [4,3] [(1,fun w'=>w'.cell? ⟨b_1,0,none⟩=some (sv_ v29))] 99 #[Vi v32] K_ K_ K_ K_ K_ (fun ww=>by kernel_rfl) (Calls.mono h ?_)
    rintro _ w6 ⟨v33,rfl,h⟩
    obtain⟨hk0,h⟩:=h
    refine⟨_,rfl,⟨hk0,trivial⟩,?_⟩
    obtain⟨hp_15,h⟩:=h
    refine Mu 29 (fun pp=> .slice pp v29.len v29.cap) hp_15 ?_
    refine Mi 6 h fun h=> ?_
    refine zoc 7 [0,1,2,3,4,5,6] [] h fun w7 h=> ?_
    refine⟨trivial,?_⟩
    refine Mf [] [0,2,3,4] ?_
    refine Yr (Yf P3 [0,2,3,4] ?_)
    have hb_:=again_1_h _ _ h
    exact⟨_,hb_.2,_,Sub.mk K_,(IntKind.i64.wrap (k_+1)),rfl,hb_.1,rfl⟩
   ·refine zM 2 (Yr (Yf P3 [0,2] ?_))
    have hb_:=again__h _ _ h
    exact⟨_,hb_.2,_,Sub.mk K_,(IntKind.i64.wrap (i+1)),rfl,hb_.1,rfl⟩
  ·refine zM 0 ?_
   repeat (first | refine zK ?_ | refine zA ?_ | refine zL ?_ | refine zB ?_ | refine zv K_ ?_)
   refine zw ?_
   repeat (first | refine zC ?_ | refine zp ?_ | refine zu ?_ | refine zE ?_)
   exact retT (rs:=[]) (vs:=[]) K_ (trivial) K_ ⟨rfl,h⟩

/-! ### (*towpath/towpathlaw01.Book).fillTxn (function 45) -/

theorem S_W {b_:OA} {w:World} {R:WP} (h:F_Uc b_ R w):C_rb b_ w R:=by
 unfold F_Uc at h
 refine Yh Tryz.func45 ?_
 ·refine Yp P1 [0,2] (Yd 0 ?_)
  obtain⟨I,μ,h0,hr⟩:=h
  refine zN (fun m l w=>∃(i:Int),l=[(0,Vp b_),(2,Vi i)]∧I i w∧μ i w=m) ⟨0,rfl,h0,rfl⟩ ?_
  rintro _ _ w1 ⟨i,rfl,hI,rfl⟩
  obtain⟨again_,again__h,h⟩:∃ again_:Int→WP,(∀ i' w',again_ i' w'→I i' w'∧μ i' w'<μ i w1)∧F_nb b_ R again_ i w1:=⟨_,fun _ _ h=>h,hr i w1 hI⟩
  clear h0 hI
  unfold F_nb at h
  refine Ys (Yt (Yn P2 ?_))
  refine Yv 6 h fun hp_3 h=> ?_
  refine Yn P1 (Yn P1 ?_)
  refine Yl h fun v9 h=> ?_
  refine Yf P2 [0,2,11] ?_
  refine Yc h (fun h=> ?_) fun h=> ?_
  ·exact h.elim
  ·refine zM 0 ?_
   repeat (first | refine zK ?_ | refine zA ?_ | refine zL ?_ | refine zB ?_ | refine zv K_ ?_)
   refine zw ?_
   repeat (first | refine zC ?_ | refine zp ?_ | refine zu ?_ | refine zE ?_)
   exact retT (rs:=[]) (vs:=[]) K_ (trivial) K_ ⟨rfl,h⟩

/-! ### (*towpath/towpathlaw01.Book).fillHeld (function 46) -/
def zau:=cb_ Tryz.f46
def zbu:=cr_ zau
def zcu:=cl_ zbu
def zdu:=cl_ zcu
def zQp:=cr_ zdu
def zRp:=cl_ zQp
def zSp:=cl_ zRp
def zTp:=cr_ zSp
def zUp:=cr_ zTp
def zVp:=cl_ zUp
def zWp:=cl_ zVp
def zXp:=cr_ zWp
def zYp:=cl_ zXp
def zZp:=cl_ zYp
def z0p:=co_ zZp
def z2b:List Nat:=[0,1,2,3,4,5,6,7]

theorem S_L {b_:OA} {w:World} {R:WP} (h:F_Ec b_ R w):C_db b_ w R:=by
 unfold F_Ec at h
 refine Yh Tryz.func46 ?_
 ·refine Yp P1 [0,2] (Yd 0 ?_)
  obtain⟨I,μ,h0,hr⟩:=h
  refine zN (fun m l w=>∃(i:Int),l=[(0,Vp b_),(2,Vi i)]∧I i w∧μ i w=m) ⟨0,rfl,h0,rfl⟩ ?_
  rintro _ _ w1 ⟨i,rfl,hI,rfl⟩
  obtain⟨again_,again__h,h⟩:∃ again_:Int→WP,(∀ i' w',again_ i' w'→I i' w'∧μ i' w'<μ i w1)∧F_ab b_ R again_ i w1:=⟨_,fun _ _ h=>h,hr i w1 hI⟩
  clear h0 hI
  unfold F_ab at h
  refine Ys (Yt (Yn P2 ?_))
  refine Yv 6 h fun hp_3 h=> ?_
  refine Yn P1 (Yn P1 ?_)
  refine Yl h fun v9 h=> ?_
  refine Yf P2 [0,2,11] ?_
  refine Yc h (fun h=> ?_) fun h=> ?_
  ·refine zg (Ys (Yd 1 (Yt (Yn P1 ?_))))
   refine Yv 14 h fun hp_12 h=> ?_
   refine Yn P1 (Yn P1 ?_)
   refine Yl h fun v17 h=> ?_
   refine Yn P1 ?_
   obtain⟨hp_13,h⟩:=h
   refine Yu 17 (fun pp=> .slice pp v17.len v17.cap) hp_13 ?_
   refine Yi h fun h=> ?_
   refine YL h fun v20 h=> ?_
   refine Yw pv_ h fun b_1 w2 h=> ?_
   refine Yo h fun w3 h=> ?_
   refine Yf [] [0,2,3] (Yp P1 [0,2,3,4] (Yd 2 ?_))
   obtain⟨I,μ,h0,hr⟩:=h
   refine zN (fun m l w=>∃(k_:Int),l=[(0,Vp b_),(2,Vi i),(3,pv_ b_1),(4,Vi k_)]∧I k_ w∧μ k_ w=m) ⟨0,rfl,h0,rfl⟩ ?_
   rintro _ _ w4 ⟨k_,rfl,hI,rfl⟩
   obtain⟨again_1,again_1_h,h⟩:∃ again_1:Int→WP,(∀ k_' w',again_1 k_' w'→I k_' w'∧μ k_' w'<μ k_ w4)∧F_9 i again_ b_1 again_1 k_ w4:=⟨_,fun _ _ h=>h,hr k_ w4 hI⟩
   clear h0 hI
   unfold F_9 at h
   refine Ys (Yt (Yn P2 ?_))
   refine Yl h fun v23 h=> ?_
   refine Yf P2 [0,2,3,4,25] ?_
   refine Yc h (fun h=> ?_) fun h=> ?_
   ·refine zg (Ys (Yd 3 ?_))
    refine zm (id:=7) (ops:=z0p) z2b K_ K_ K_ K_ (fun w5 hw=> ?_)
    replace h:=h w5 hw
    clear hw
    refine Mn P1 ?_
    refine Ml 1 h fun v29 hc h=> ?_
    refine Mn P2 ?_
    refine Ml 4 h fun v32 hc h=> ?_
    refine zo (op:=(Op.call (Call.mk (Callee.value (Operand.func 101)) #[(Operand.tmp 32)] #[3]))) (ty:=141) (dst:=some 33) 5 [4,3] [(1,fun w'=>w'.cell? ⟨b_1,0,none⟩=some (sv_ v29))] 101 #[Vi v32] K_ K_ K_ K_ K_ (fun ww=>by kernel_rfl) (Calls.mono h ?_)
    rintro _ w6 ⟨v33,rfl,h⟩
    obtain⟨hk0,h⟩:=h
    refine⟨_,rfl,⟨hk0,trivial⟩,?_⟩
    obtain⟨hp_15,h⟩:=h
    refine Mu 29 (fun pp=> .slice pp v29.len v29.cap) hp_15 ?_
    refine Mi 6 h fun h=> ?_
    refine zoc 7 [0,1,2,3,4,5,6] [] h fun w7 h=> ?_
    refine⟨trivial,?_⟩
    refine Mf [] [0,2,3,4] ?_
    refine Yr (Yf P3 [0,2,3,4] ?_)
    have hb_:=again_1_h _ _ h
    exact⟨_,hb_.2,_,Sub.mk K_,(IntKind.i64.wrap (k_+1)),rfl,hb_.1,rfl⟩
   ·refine zM 2 (Yr (Yf P3 [0,2] ?_))
    have hb_:=again__h _ _ h
    exact⟨_,hb_.2,_,Sub.mk K_,(IntKind.i64.wrap (i+1)),rfl,hb_.1,rfl⟩
  ·refine zM 0 ?_
   repeat (first | refine zK ?_ | refine zA ?_ | refine zL ?_ | refine zB ?_ | refine zv K_ ?_)
   refine zw ?_
   repeat (first | refine zC ?_ | refine zp ?_ | refine zu ?_ | refine zE ?_)
   exact retT (rs:=[]) (vs:=[]) K_ (trivial) K_ ⟨rfl,h⟩

/-! ### (*towpath/towpathlaw01.Book).fillHeldList (function 47) -/

theorem S_o {b_:OA} {w:World} {R:WP} (h:F_Wb b_ R w):C_D b_ w R:=by
 unfold F_Wb at h
 refine Yh Tryz.func47 ?_
 ·refine Yp P1 [0,2] (Yd 0 ?_)
  obtain⟨I,μ,h0,hr⟩:=h
  refine zN (fun m l w=>∃(i:Int),l=[(0,Vp b_),(2,Vi i)]∧I i w∧μ i w=m) ⟨0,rfl,h0,rfl⟩ ?_
  rintro _ _ w1 ⟨i,rfl,hI,rfl⟩
  obtain⟨again_,again__h,h⟩:∃ again_:Int→WP,(∀ i' w',again_ i' w'→I i' w'∧μ i' w'<μ i w1)∧F_y b_ R again_ i w1:=⟨_,fun _ _ h=>h,hr i w1 hI⟩
  clear h0 hI
  unfold F_y at h
  refine Ys (Yt (Yn P2 ?_))
  refine Yv 6 h fun hp_3 h=> ?_
  refine Yn P1 (Yn P1 ?_)
  refine Yl h fun v9 h=> ?_
  refine Yf P2 [0,2,11] ?_
  refine Yc h (fun h=> ?_) fun h=> ?_
  ·exact h.elim
  ·refine zM 0 ?_
   repeat (first | refine zK ?_ | refine zA ?_ | refine zL ?_ | refine zB ?_ | refine zv K_ ?_)
   refine zw ?_
   repeat (first | refine zC ?_ | refine zp ?_ | refine zu ?_ | refine zE ?_)
   exact retT (rs:=[]) (vs:=[]) K_ (trivial) K_ ⟨rfl,h⟩

/-! ### (*towpath/towpathlaw01.Book).fillEvent (function 48) -/

theorem S_C {b_:OA} {w:World} {R:WP} (h:F_nc b_ R w):C_X b_ w R:=by
 unfold F_nc at h
 refine Yh Tryz.func48 ?_
 ·refine Yp P1 [0,2] (Yd 0 ?_)
  obtain⟨I,μ,h0,hr⟩:=h
  refine zN (fun m l w=>∃(i:Int),l=[(0,Vp b_),(2,Vi i)]∧I i w∧μ i w=m) ⟨0,rfl,h0,rfl⟩ ?_
  rintro _ _ w1 ⟨i,rfl,hI,rfl⟩
  obtain⟨again_,again__h,h⟩:∃ again_:Int→WP,(∀ i' w',again_ i' w'→I i' w'∧μ i' w'<μ i w1)∧F_Y b_ R again_ i w1:=⟨_,fun _ _ h=>h,hr i w1 hI⟩
  clear h0 hI
  unfold F_Y at h
  refine Ys (Yt (Yn P2 ?_))
  refine Yv 6 h fun hp_3 h=> ?_
  refine Yn P1 (Yn P1 ?_)
  refine Yl h fun v9 h=> ?_
  refine Yf P2 [0,2,11] ?_
  refine Yc h (fun h=> ?_) fun h=> ?_
  ·exact h.elim
  ·refine zM 0 ?_
   repeat (first | refine zK ?_ | refine zA ?_ | refine zL ?_ | refine zB ?_ | refine zv K_ ?_)
   refine zw ?_
   repeat (first | refine zC ?_ | refine zp ?_ | refine zu ?_ | refine zE ?_)
   exact retT (rs:=[]) (vs:=[]) K_ (trivial) K_ ⟨rfl,h⟩

/-! ### (*towpath/towpathlaw01.Book).fillAnswer (function 49) -/

theorem S_w {b_:OA} {w:World} {R:WP} (h:F_ec b_ R w):C_O b_ w R:=by
 unfold F_ec at h
 refine Yh Tryz.func49 ?_
 ·refine Yp P1 [0,2] (Yd 0 ?_)
  obtain⟨I,μ,h0,hr⟩:=h
  refine zN (fun m l w=>∃(i:Int),l=[(0,Vp b_),(2,Vi i)]∧I i w∧μ i w=m) ⟨0,rfl,h0,rfl⟩ ?_
  rintro _ _ w1 ⟨i,rfl,hI,rfl⟩
  obtain⟨again_,again__h,h⟩:∃ again_:Int→WP,(∀ i' w',again_ i' w'→I i' w'∧μ i' w'<μ i w1)∧F_Q b_ R again_ i w1:=⟨_,fun _ _ h=>h,hr i w1 hI⟩
  clear h0 hI
  unfold F_Q at h
  refine Ys (Yt (Yn P2 ?_))
  refine Yv 6 h fun hp_3 h=> ?_
  refine Yn P1 (Yn P1 ?_)
  refine Yl h fun v9 h=> ?_
  refine Yf P2 [0,2,11] ?_
  refine Yc h (fun h=> ?_) fun h=> ?_
  ·exact h.elim
  ·refine zM 0 ?_
   repeat (first | refine zK ?_ | refine zA ?_ | refine zL ?_ | refine zB ?_ | refine zv K_ ?_)
   refine zw ?_
   repeat (first | refine zC ?_ | refine zp ?_ | refine zu ?_ | refine zE ?_)
   exact retT (rs:=[]) (vs:=[]) K_ (trivial) K_ ⟨rfl,h⟩

/-! ### (*towpath/towpathlaw01.Book).growByte (function 50) -/

theorem S_M {b_:OA} {w:World} {R:WP} (h:F_Fc b_ R w):C_eb b_ w R:=by
 unfold F_Fc at h
 refine Yh Tryz.func50 ?_
 ·refine Yp P1 [0,2] (Yd 0 ?_)
  obtain⟨I,μ,h0,hr⟩:=h
  refine zN (fun m l w=>∃(i:Int),l=[(0,Vp b_),(2,Vi i)]∧I i w∧μ i w=m) ⟨0,rfl,h0,rfl⟩ ?_
  rintro _ _ w1 ⟨i,rfl,hI,rfl⟩
  obtain⟨again_,again__h,h⟩:∃ again_:Int→WP,(∀ i' w',again_ i' w'→I i' w'∧μ i' w'<μ i w1)∧F_bb b_ R again_ i w1:=⟨_,fun _ _ h=>h,hr i w1 hI⟩
  clear h0 hI
  unfold F_bb at h
  refine Ys (Yt (Yn P2 ?_))
  refine Yv 7 h fun hp_3 h=> ?_
  refine Yn P1 (Yn P1 ?_)
  refine Yl h fun v10 h=> ?_
  refine Yf P2 [0,2,12] ?_
  refine Yc h (fun h=> ?_) fun h=> ?_
  ·exact h.elim
  ·refine zM 0 ?_
   repeat (first | refine zK ?_ | refine zA ?_ | refine zL ?_ | refine zB ?_ | refine zv K_ ?_)
   refine zw ?_
   repeat (first | refine zC ?_ | refine zp ?_ | refine zu ?_ | refine zE ?_)
   exact retT (rs:=[]) (vs:=[]) K_ (trivial) K_ ⟨rfl,h⟩

/-! ### (*towpath/towpathlaw01.Book).growInt (function 51) -/

theorem S_X {b_:OA} {w:World} {R:WP} (h:F_Vc b_ R w):C_sb b_ w R:=by
 unfold F_Vc at h
 refine Yh Tryz.func51 ?_
 ·refine Yp P1 [0,2] (Yd 0 ?_)
  obtain⟨I,μ,h0,hr⟩:=h
  refine zN (fun m l w=>∃(i:Int),l=[(0,Vp b_),(2,Vi i)]∧I i w∧μ i w=m) ⟨0,rfl,h0,rfl⟩ ?_
  rintro _ _ w1 ⟨i,rfl,hI,rfl⟩
  obtain⟨again_,again__h,h⟩:∃ again_:Int→WP,(∀ i' w',again_ i' w'→I i' w'∧μ i' w'<μ i w1)∧F_pb b_ R again_ i w1:=⟨_,fun _ _ h=>h,hr i w1 hI⟩
  clear h0 hI
  unfold F_pb at h
  refine Ys (Yt (Yn P2 ?_))
  refine Yv 7 h fun hp_3 h=> ?_
  refine Yn P1 (Yn P1 ?_)
  refine Yl h fun v10 h=> ?_
  refine Yf P2 [0,2,12] ?_
  refine Yc h (fun h=> ?_) fun h=> ?_
  ·refine zg (Ys (Yd 1 (Yt (Yn P1 ?_))))
   refine Yv 15 h fun hp_12 h=> ?_
   refine Yn P1 (Yn P1 ?_)
   refine Yl h fun v18 h=> ?_
   refine Yn P1 ?_
   obtain⟨hp_13,h⟩:=h
   refine Yu 18 (fun pp=> .slice pp v18.len v18.cap) hp_13 ?_
   refine Yi h fun h=> ?_
   refine YL h fun v21 h=> ?_
   refine Yw pv_ h fun b_1 w2 h=> ?_
   refine Yo h fun w3 h=> ?_
   refine Yf [] [0,2,3] (Yt (Yn P1 ?_))
   refine Yl h fun long h=> ?_
   refine Yf P1 [0,2,3,4] (Ys (Yp P1 [0,2,3,4,5] (Yd 2 ?_)))
   obtain⟨I,μ,h0,hr⟩:=h
   refine zN (fun m l w=>∃(long1:Slc) (k_:Int),l=[(0,Vp b_),(2,Vi i),(3,pv_ b_1),(4,sv_ long1),(5,Vi k_)]∧I long1 k_ w∧μ long1 k_ w=m) ⟨long,0,rfl,h0,rfl⟩ ?_
   rintro _ _ w4 ⟨long1,k_,rfl,hI,rfl⟩
   obtain⟨again_1,again_1_h,h⟩:∃ again_1:Slc→Int→WP,(∀ long1' k_' w',again_1 long1' k_' w'→I long1' k_' w'∧μ long1' k_' w'<μ long1 k_ w4)∧F_ob b_ i again_ b_1 again_1 long1 k_ w4:=⟨_,fun _ _ _ h=>h,hr long1 k_ w4 hI⟩
   clear h0 hI
   unfold F_ob at h
   refine Ys (Yp P2 [0,2,3,4,5,25] ?_)
   refine Yc h (fun h=> ?_) fun h=> ?_
   ·refine zg (Ys (Yd 3 (Yr (Yn P2 ?_))))
    refine Yl h fun v30 h=> ?_
    refine Ym1 h fun v31 w5 h=> ?_
    refine Yw (sl_ 1 1) h fun b_2 w6 h=> ?_
    obtain⟨src,hs,h⟩:=h
    refine zH (t:=56) (tx:=56) (e:=3) (a:=(Operand.tmp 28)) (xo:=(Operand.tmp 32)) (s:=long1) (x:=(Slc.mk (some ⟨b_2,0,none⟩) 1 1)) (sz:=1) (by_:=8) (zs:=[Vi 0]) (ty:=56) (dst:=some 33)  src K_ K_ K_ K_ K_ K_ K_ K_ K_ hs (zj.mono h (fun long2 w7 h=> ?_))
    refine Yf P1 [0,2,3,4,5] (Yr (Yf P3 [0,2,3,4,5] ?_))
    have hb_:=again_1_h _ _ _ h
    exact⟨_,hb_.2,_,Sub.mk K_,long2,(IntKind.i64.wrap (k_+1)),rfl,hb_.1,rfl⟩
   ·refine zM 2 (Yr (Yn P1 ?_))
    refine Yv 34 h fun hp_14 h=> ?_
    refine Yn P1 (Yn P1 ?_)
    refine Yl h fun v37 h=> ?_
    refine Yn P2 ?_
    obtain⟨hp_15,h⟩:=h
    refine Yu 37 (fun pp=> .slice pp v37.len v37.cap) hp_15 ?_
    refine Yi h fun h=> ?_
    refine Yn P1 ?_
    refine Yo h fun w8 h=> ?_
    refine Yf [] [0,2] (Yr (Yf P3 [0,2] ?_))
    have hb_:=again__h _ _ h
    exact⟨_,hb_.2,_,Sub.mk K_,(IntKind.i64.wrap (i+1)),rfl,hb_.1,rfl⟩
  ·refine zM 0 ?_
   repeat (first | refine zK ?_ | refine zA ?_ | refine zL ?_ | refine zB ?_ | refine zv K_ ?_)
   refine zw ?_
   repeat (first | refine zC ?_ | refine zp ?_ | refine zu ?_ | refine zE ?_)
   exact retT (rs:=[]) (vs:=[]) K_ (trivial) K_ ⟨rfl,h⟩

/-! ### (*towpath/towpathlaw01.Book).growText (function 52) -/

theorem S_N {b_:OA} {w:World} {R:WP} (h:F_Gc b_ R w):C_fb b_ w R:=by
 unfold F_Gc at h
 refine Yh Tryz.func52 ?_
 ·refine Yp P1 [0,2] (Yd 0 ?_)
  obtain⟨I,μ,h0,hr⟩:=h
  refine zN (fun m l w=>∃(i:Int),l=[(0,Vp b_),(2,Vi i)]∧I i w∧μ i w=m) ⟨0,rfl,h0,rfl⟩ ?_
  rintro _ _ w1 ⟨i,rfl,hI,rfl⟩
  obtain⟨again_,again__h,h⟩:∃ again_:Int→WP,(∀ i' w',again_ i' w'→I i' w'∧μ i' w'<μ i w1)∧F_cb b_ R again_ i w1:=⟨_,fun _ _ h=>h,hr i w1 hI⟩
  clear h0 hI
  unfold F_cb at h
  refine Ys (Yt (Yn P2 ?_))
  refine Yv 7 h fun hp_3 h=> ?_
  refine Yn P1 (Yn P1 ?_)
  refine Yl h fun v10 h=> ?_
  refine Yf P2 [0,2,12] ?_
  refine Yc h (fun h=> ?_) fun h=> ?_
  ·exact h.elim
  ·refine zM 0 ?_
   repeat (first | refine zK ?_ | refine zA ?_ | refine zL ?_ | refine zB ?_ | refine zv K_ ?_)
   refine zw ?_
   repeat (first | refine zC ?_ | refine zp ?_ | refine zu ?_ | refine zE ?_)
   exact retT (rs:=[]) (vs:=[]) K_ (trivial) K_ ⟨rfl,h⟩

/-! ### (*towpath/towpathlaw01.Book).growWrite (function 53) -/

theorem S_D {b_:OA} {w:World} {R:WP} (h:F_oc b_ R w):C_Y b_ w R:=by
 unfold F_oc at h
 refine Yh Tryz.func53 ?_
 ·refine Yp P1 [0,2] (Yd 0 ?_)
  obtain⟨I,μ,h0,hr⟩:=h
  refine zN (fun m l w=>∃(i:Int),l=[(0,Vp b_),(2,Vi i)]∧I i w∧μ i w=m) ⟨0,rfl,h0,rfl⟩ ?_
  rintro _ _ w1 ⟨i,rfl,hI,rfl⟩
  obtain⟨again_,again__h,h⟩:∃ again_:Int→WP,(∀ i' w',again_ i' w'→I i' w'∧μ i' w'<μ i w1)∧F_Z b_ R again_ i w1:=⟨_,fun _ _ h=>h,hr i w1 hI⟩
  clear h0 hI
  unfold F_Z at h
  refine Ys (Yt (Yn P2 ?_))
  refine Yv 7 h fun hp_3 h=> ?_
  refine Yn P1 (Yn P1 ?_)
  refine Yl h fun v10 h=> ?_
  refine Yf P2 [0,2,12] ?_
  refine Yc h (fun h=> ?_) fun h=> ?_
  ·exact h.elim
  ·refine zM 0 ?_
   repeat (first | refine zK ?_ | refine zA ?_ | refine zL ?_ | refine zB ?_ | refine zv K_ ?_)
   refine zw ?_
   repeat (first | refine zC ?_ | refine zp ?_ | refine zu ?_ | refine zE ?_)
   exact retT (rs:=[]) (vs:=[]) K_ (trivial) K_ ⟨rfl,h⟩

/-! ### (*towpath/towpathlaw01.Book).growEntry (function 54) -/

theorem S_E {b_:OA} {w:World} {R:WP} (h:F_pc b_ R w):C_Z b_ w R:=by
 unfold F_pc at h
 refine Yh Tryz.func54 ?_
 ·refine Yp P1 [0,2] (Yd 0 ?_)
  obtain⟨I,μ,h0,hr⟩:=h
  refine zN (fun m l w=>∃(i:Int),l=[(0,Vp b_),(2,Vi i)]∧I i w∧μ i w=m) ⟨0,rfl,h0,rfl⟩ ?_
  rintro _ _ w1 ⟨i,rfl,hI,rfl⟩
  obtain⟨again_,again__h,h⟩:∃ again_:Int→WP,(∀ i' w',again_ i' w'→I i' w'∧μ i' w'<μ i w1)∧F_0 b_ R again_ i w1:=⟨_,fun _ _ h=>h,hr i w1 hI⟩
  clear h0 hI
  unfold F_0 at h
  refine Ys (Yt (Yn P2 ?_))
  refine Yv 7 h fun hp_3 h=> ?_
  refine Yn P1 (Yn P1 ?_)
  refine Yl h fun v10 h=> ?_
  refine Yf P2 [0,2,12] ?_
  refine Yc h (fun h=> ?_) fun h=> ?_
  ·exact h.elim
  ·refine zM 0 ?_
   repeat (first | refine zK ?_ | refine zA ?_ | refine zL ?_ | refine zB ?_ | refine zv K_ ?_)
   refine zw ?_
   repeat (first | refine zC ?_ | refine zp ?_ | refine zu ?_ | refine zE ?_)
   exact retT (rs:=[]) (vs:=[]) K_ (trivial) K_ ⟨rfl,h⟩
end
end Go.Proofs.YtjlfdepkphibgaaGreatDoor
