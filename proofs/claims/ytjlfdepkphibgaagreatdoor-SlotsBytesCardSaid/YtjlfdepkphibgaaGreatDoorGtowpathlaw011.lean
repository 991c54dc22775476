/- WRITTEN BY PROGRAM (dec.py): for each Go function the clean formula F, the call's contract C, and the proof S that F gives C. -/
import Derived.Test.YtjlfdepkphibgaaGreatDoorRows
import Derived.Test.YtjlfdepkphibgaaGreatDoorGF
namespace Go.Proofs.YtjlfdepkphibgaaGreatDoor
open Go
set_option linter.unusedVariables false
set_option maxRecDepth 100000
set_option maxHeartbeats 4000000
noncomputable section

/-! ### (*towpath/towpathlaw01.Book).fillEntry (function 43) -/

theorem S_z {b_:OA} {w:World} {R:WP} (h:F_ic b_ R w):C_U b_ w R:=by
 unfold F_ic at h
 refine Yh Tryz.func43 ?_
 ·refine Yp P1 [0,2] (Yd 0 ?_)
  obtain⟨I,μ,h0,hr⟩:=h
  refine zM (fun m l w=>∃(i:Int),l=[(0,Vp b_),(2,Vi i)]∧I i w∧μ i w=m) ⟨0,rfl,h0,rfl⟩ ?_
  rintro _ _ w1 ⟨i,rfl,hI,rfl⟩
  obtain⟨again_,again__h,h⟩:∃ again_:Int→WP,(∀ i' w',again_ i' w'→I i' w'∧μ i' w'<μ i w1)∧F_T b_ R again_ i w1:=⟨_,fun _ _ h=>h,hr i w1 hI⟩
  clear h0 hI
  unfold F_T at h
  refine Ys (Yt (Yn P2 ?_))
  refine Yv 6 h fun hp_3 h=> ?_
  refine Yn P1 (Yn P1 ?_)
  refine Yl h fun v9 h=> ?_
  refine Yf P2 [0,2,11] ?_
  refine Yc h (fun h=> ?_) fun h=> ?_
  ·exact h.elim
  ·refine zL 0 ?_
   repeat (first | refine zJ ?_ | refine zz ?_ | refine zK ?_ | refine zA ?_ | refine zv K_ ?_)
   refine zw ?_
   repeat (first | refine zC ?_ | refine zp ?_ | refine zu ?_ | refine zE ?_)
   exact retT (rs:=[]) (vs:=[]) K_ (trivial) K_ ⟨rfl,h⟩

/-! ### (*towpath/towpathlaw01.Book).fillVersion (function 44) -/
def zOt:=cb_ Tryz.f44
def zPt:=cr_ zOt
def zQt:=cl_ zPt
def zRt:=cl_ zQt
def zzp:=cr_ zRt
def zAp:=cl_ zzp
def zBp:=cl_ zAp
def zCp:=cr_ zBp
def zDp:=cr_ zCp
def zEp:=cl_ zDp
def zFp:=cl_ zEp
def zGp:=cr_ zFp
def zHp:=cl_ zGp
def zIp:=cl_ zHp
def zJp:=co_ zIp
def zMb:List Nat:=[0,1,2,3,4,5,6,7]

theorem S_q {b_:OA} {w:World} {R:WP} (h:F_4b b_ R w):C_I b_ w R:=by
 unfold F_4b at h
 refine Yh Tryz.func44 ?_
 ·refine Yp P1 [0,2] (Yd 0 ?_)
  obtain⟨I,μ,h0,hr⟩:=h
  refine zM (fun m l w=>∃(i:Int),l=[(0,Vp b_),(2,Vi i)]∧I i w∧μ i w=m) ⟨0,rfl,h0,rfl⟩ ?_
  rintro _ _ w1 ⟨i,rfl,hI,rfl⟩
  obtain⟨again_,again__h,h⟩:∃ again_:Int→WP,(∀ i' w',again_ i' w'→I i' w'∧μ i' w'<μ i w1)∧F_B b_ R again_ i w1:=⟨_,fun _ _ h=>h,hr i w1 hI⟩
  clear h0 hI
  unfold F_B at h
  refine Ys (Yt (Yn P2 ?_))
  refine Yv 6 h fun hp_3 h=> ?_
  refine Yn P1 (Yn P1 ?_)
  refine Yl h fun v9 h=> ?_
  refine Yf P2 [0,2,11] ?_
  refine Yc h (fun h=> ?_) fun h=> ?_
  ·refine zg (Ys (Yd 1 (Yt (Yn P1 ?_))))
   refine Yv 14 h fun hp_12 h=> ?_
   refine Yn P1 (Yn P1 ?_)
   refine Yl h fun v17 h=> ?_
   refine Yn P1 ?_
   obtain⟨hp_13,h⟩:=h
   refine Yu 17 (fun pp=> .slice pp v17.len v17.cap) hp_13 ?_
   refine Yi h fun h=> ?_
   refine YL h fun v20 h=> ?_
   refine Yw pv_ h fun b_1 w2 h=> ?_
   refine Yo h fun w3 h=> ?_
   refine Yf [] [0,2,3] (Yp P1 [0,2,3,4] (Yd 2 ?_))
   obtain⟨I,μ,h0,hr⟩:=h
   refine zM (fun m l w=>∃(k_:Int),l=[(0,Vp b_),(2,Vi i),(3,pv_ b_1),(4,Vi k_)]∧I k_ w∧μ k_ w=m) ⟨0,rfl,h0,rfl⟩ ?_
   rintro _ _ w4 ⟨k_,rfl,hI,rfl⟩
   obtain⟨again_1,again_1_h,h⟩:∃ again_1:Int→WP,(∀ k_' w',again_1 k_' w'→I k_' w'∧μ k_' w'<μ k_ w4)∧F_A i again_ b_1 again_1 k_ w4:=⟨_,fun _ _ h=>h,hr k_ w4 hI⟩
   clear h0 hI
   unfold F_A at h
   refine Ys (Yt (Yn P2 ?_))
   refine Yl h fun v23 h=> ?_
   refine Yf P2 [0,2,3,4,25] ?_
   refine Yc h (fun h=> ?_) fun h=> ?_
   ·refine zg (Ys (Yd 3 ?_))
    refine zm (id:=7) (ops:=zJp) zMb K_ K_ K_ K_ (fun w5 hw=> ?_)
    replace h:=h w5 hw
    clear hw
    refine Mn P1 ?_
    refine Ml 1 h fun v29 hc h=> ?_
    refine Mn P2 ?_
    refine Ml 4 h fun v32 hc h=> ?_
    refine zo (op:=(Op.call (Call.mk (Callee.value (Operand.func 99)) #[(Operand.tmp 32)] #[3]))) (ty:=130) (dst:=some 33) 5 [4,3] [(1,fun w'=>w'.cell? ⟨b_1,0,none⟩=some (sv_ v29))] 99 #[Vi v32] K_ K_ K_ K_ K_ (fun ww=>by kernel_rfl) (Calls.mono h ?_)
    rintro _ w6 ⟨v33,rfl,h⟩
    obtain⟨hk0,h⟩:=h
    refine⟨_,rfl,⟨hk0,trivial⟩,?_⟩
    obtain⟨hp_15,h⟩:=h
    refine Mu 29 (fun pp=> .slice pp v29.len v29.cap) hp_15 ?_
    refine Mi 6 h fun h=> ?_
    refine zoc 7 [0,1,2,3,4,5,6] [] h fun w7 h=> ?_
    refine⟨trivial,?_⟩
    refine Mf [] [0,2,3,4] ?_
    refine Yr (Yf P3 [0,2,3,4] ?_)
    have hb_:=again_1_h _ _ h
    exact⟨_,hb_.2,_,Sub.mk K_,(IntKind.i64.wrap (k_+1)),rfl,hb_.1,rfl⟩
   ·refine zL 2 (Yr (Yf P3 [0,2] ?_))
    have hb_:=again__h _ _ h
    exact⟨_,hb_.2,_,Sub.mk K_,(IntKind.i64.wrap (i+1)),rfl,hb_.1,rfl⟩
  ·refine zL 0 ?_
   repeat (first | refine zJ ?_ | refine zz ?_ | refine zK ?_ | refine zA ?_ | refine zv K_ ?_)
   refine zw ?_
   repeat (first | refine zC ?_ | refine zp ?_ | refine zu ?_ | refine zE ?_)
   exact retT (rs:=[]) (vs:=[]) K_ (trivial) K_ ⟨rfl,h⟩

/-! ### (*towpath/towpathlaw01.Book).fillTxn (function 45) -/

theorem S_U {b_:OA} {w:World} {R:WP} (h:F_Oc b_ R w):C_rb b_ w R:=by
 unfold F_Oc at h
 refine Yh Tryz.func45 ?_
 ·refine Yp P1 [0,2] (Yd 0 ?_)
  obtain⟨I,μ,h0,hr⟩:=h
  refine zM (fun m l w=>∃(i:Int),l=[(0,Vp b_),(2,Vi i)]∧I i w∧μ i w=m) ⟨0,rfl,h0,rfl⟩ ?_
  rintro _ _ w1 ⟨i,rfl,hI,rfl⟩
  obtain⟨again_,again__h,h⟩:∃ again_:Int→WP,(∀ i' w',again_ i' w'→I i' w'∧μ i' w'<μ i w1)∧F_jb b_ R again_ i w1:=⟨_,fun _ _ h=>h,hr i w1 hI⟩
  clear h0 hI
  unfold F_jb at h
  refine Ys (Yt (Yn P2 ?_))
  refine Yv 6 h fun hp_3 h=> ?_
  refine Yn P1 (Yn P1 ?_)
  refine Yl h fun v9 h=> ?_
  refine Yf P2 [0,2,11] ?_
  refine Yc h (fun h=> ?_) fun h=> ?_
  ·exact h.elim
  ·refine zL 0 ?_
   repeat (first | refine zJ ?_ | refine zz ?_ | refine zK ?_ | refine zA ?_ | refine zv K_ ?_)
   refine zw ?_
   repeat (first | refine zC ?_ | refine zp ?_ | refine zu ?_ | refine zE ?_)
   exact retT (rs:=[]) (vs:=[]) K_ (trivial) K_ ⟨rfl,h⟩

/-! ### (*towpath/towpathlaw01.Book).fillHeld (function 46) -/
def zSt:=cb_ Tryz.f46
def zTt:=cr_ zSt
def zUt:=cl_ zTt
def zVt:=cl_ zUt
def zKp:=cr_ zVt
def zLp:=cl_ zKp
def zMp:=cl_ zLp
def zNp:=cr_ zMp
def zOp:=cr_ zNp
def zPp:=cl_ zOp
def zQp:=cl_ zPp
def zRp:=cr_ zQp
def zSp:=cl_ zRp
def zTp:=cl_ zSp
def zUp:=co_ zTp
def z0b:List Nat:=[0,1,2,3,4,5,6,7]

theorem S_J {b_:OA} {w:World} {R:WP} (h:F_Ac b_ R w):C_bb b_ w R:=by
 unfold F_Ac at h
 refine Yh Tryz.func46 ?_
 ·refine Yp P1 [0,2] (Yd 0 ?_)
  obtain⟨I,μ,h0,hr⟩:=h
  refine zM (fun m l w=>∃(i:Int),l=[(0,Vp b_),(2,Vi i)]∧I i w∧μ i w=m) ⟨0,rfl,h0,rfl⟩ ?_
  rintro _ _ w1 ⟨i,rfl,hI,rfl⟩
  obtain⟨again_,again__h,h⟩:∃ again_:Int→WP,(∀ i' w',again_ i' w'→I i' w'∧μ i' w'<μ i w1)∧F_6 b_ R again_ i w1:=⟨_,fun _ _ h=>h,hr i w1 hI⟩
  clear h0 hI
  unfold F_6 at h
  refine Ys (Yt (Yn P2 ?_))
  refine Yv 6 h fun hp_3 h=> ?_
  refine Yn P1 (Yn P1 ?_)
  refine Yl h fun v9 h=> ?_
  refine Yf P2 [0,2,11] ?_
  refine Yc h (fun h=> ?_) fun h=> ?_
  ·refine zg (Ys (Yd 1 (Yt (Yn P1 ?_))))
   refine Yv 14 h fun hp_12 h=> ?_
   refine Yn P1 (Yn P1 ?_)
   refine Yl h fun v17 h=> ?_
   refine Yn P1 ?_
   obtain⟨hp_13,h⟩:=h
   refine Yu 17 (fun pp=> .slice pp v17.len v17.cap) hp_13 ?_
   refine Yi h fun h=> ?_
   refine YL h fun v20 h=> ?_
   refine Yw pv_ h fun b_1 w2 h=> ?_
   refine Yo h fun w3 h=> ?_
   refine Yf [] [0,2,3] (Yp P1 [0,2,3,4] (Yd 2 ?_))
   obtain⟨I,μ,h0,hr⟩:=h
   refine zM (fun m l w=>∃(k_:Int),l=[(0,Vp b_),(2,Vi i),(3,pv_ b_1),(4,Vi k_)]∧I k_ w∧μ k_ w=m) ⟨0,rfl,h0,rfl⟩ ?_
   rintro _ _ w4 ⟨k_,rfl,hI,rfl⟩
   obtain⟨again_1,again_1_h,h⟩:∃ again_1:Int→WP,(∀ k_' w',again_1 k_' w'→I k_' w'∧μ k_' w'<μ k_ w4)∧F_5 i again_ b_1 again_1 k_ w4:=⟨_,fun _ _ h=>h,hr k_ w4 hI⟩
   clear h0 hI
   unfold F_5 at h
   refine Ys (Yt (Yn P2 ?_))
   refine Yl h fun v23 h=> ?_
   refine Yf P2 [0,2,3,4,25] ?_
   refine Yc h (fun h=> ?_) fun h=> ?_
   ·refine zg (Ys (Yd 3 ?_))
    refine zm (id:=7) (ops:=zUp) z0b K_ K_ K_ K_ (fun w5 hw=> ?_)
    replace h:=h w5 hw
    clear hw
    refine Mn P1 ?_
    refine Ml 1 h fun v29 hc h=> ?_
    refine Mn P2 ?_
    refine Ml 4 h fun v32 hc h=> ?_
    refine zo (op:=(Op.call (Call.mk (Callee.value (Operand.func 101)) #[(Operand.tmp 32)] #[3]))) (ty:=141) (dst:=some 33) 5 [4,3] [(1,fun w'=>w'.cell? ⟨b_1,0,none⟩=some (sv_ v29))] 101 #[Vi v32] K_ K_ K_ K_ K_ (fun ww=>by kernel_rfl) (Calls.mono h ?_)
    rintro _ w6 ⟨v33,rfl,h⟩
    obtain⟨hk0,h⟩:=h
    refine⟨_,rfl,⟨hk0,trivial⟩,?_⟩
    obtain⟨hp_15,h⟩:=h
    refine Mu 29 (fun pp=> .slice pp v29.len v29.cap) hp_15 ?_
    refine Mi 6 h fun h=> ?_
    refine zoc 7 [0,1,2,3,4,5,6] [] h fun w7 h=> ?_
    refine⟨trivial,?_⟩
    refine Mf [] [0,2,3,4] ?_
    refine Yr (Yf P3 [0,2,3,4] ?_)
    have hb_:=again_1_h _ _ h
    exact⟨_,hb_.2,_,Sub.mk K_,(IntKind.i64.wrap (k_+1)),rfl,hb_.1,rfl⟩
   ·refine zL 2 (Yr (Yf P3 [0,2] ?_))
    have hb_:=again__h _ _ h
    exact⟨_,hb_.2,_,Sub.mk K_,(IntKind.i64.wrap (i+1)),rfl,hb_.1,rfl⟩
  ·refine zL 0 ?_
   repeat (first | refine zJ ?_ | refine zz ?_ | refine zK ?_ | refine zA ?_ | refine zv K_ ?_)
   refine zw ?_
   repeat (first | refine zC ?_ | refine zp ?_ | refine zu ?_ | refine zE ?_)
   exact retT (rs:=[]) (vs:=[]) K_ (trivial) K_ ⟨rfl,h⟩

/-! ### (*towpath/towpathlaw01.Book).fillHeldList (function 47) -/

theorem S_m {b_:OA} {w:World} {R:WP} (h:F_Tb b_ R w):C_C b_ w R:=by
 unfold F_Tb at h
 refine Yh Tryz.func47 ?_
 ·refine Yp P1 [0,2] (Yd 0 ?_)
  obtain⟨I,μ,h0,hr⟩:=h
  refine zM (fun m l w=>∃(i:Int),l=[(0,Vp b_),(2,Vi i)]∧I i w∧μ i w=m) ⟨0,rfl,h0,rfl⟩ ?_
  rintro _ _ w1 ⟨i,rfl,hI,rfl⟩
  obtain⟨again_,again__h,h⟩:∃ again_:Int→WP,(∀ i' w',again_ i' w'→I i' w'∧μ i' w'<μ i w1)∧F_x b_ R again_ i w1:=⟨_,fun _ _ h=>h,hr i w1 hI⟩
  clear h0 hI
  unfold F_x at h
  refine Ys (Yt (Yn P2 ?_))
  refine Yv 6 h fun hp_3 h=> ?_
  refine Yn P1 (Yn P1 ?_)
  refine Yl h fun v9 h=> ?_
  refine Yf P2 [0,2,11] ?_
  refine Yc h (fun h=> ?_) fun h=> ?_
  ·exact h.elim
  ·refine zL 0 ?_
   repeat (first | refine zJ ?_ | refine zz ?_ | refine zK ?_ | refine zA ?_ | refine zv K_ ?_)
   refine zw ?_
   repeat (first | refine zC ?_ | refine zp ?_ | refine zu ?_ | refine zE ?_)
   exact retT (rs:=[]) (vs:=[]) K_ (trivial) K_ ⟨rfl,h⟩

/-! ### (*towpath/towpathlaw01.Book).fillEvent (function 48) -/

theorem S_A {b_:OA} {w:World} {R:WP} (h:F_jc b_ R w):C_V b_ w R:=by
 unfold F_jc at h
 refine Yh Tryz.func48 ?_
 ·refine Yp P1 [0,2] (Yd 0 ?_)
  obtain⟨I,μ,h0,hr⟩:=h
  refine zM (fun m l w=>∃(i:Int),l=[(0,Vp b_),(2,Vi i)]∧I i w∧μ i w=m) ⟨0,rfl,h0,rfl⟩ ?_
  rintro _ _ w1 ⟨i,rfl,hI,rfl⟩
  obtain⟨again_,again__h,h⟩:∃ again_:Int→WP,(∀ i' w',again_ i' w'→I i' w'∧μ i' w'<μ i w1)∧F_U b_ R again_ i w1:=⟨_,fun _ _ h=>h,hr i w1 hI⟩
  clear h0 hI
  unfold F_U at h
  refine Ys (Yt (Yn P2 ?_))
  refine Yv 6 h fun hp_3 h=> ?_
  refine Yn P1 (Yn P1 ?_)
  refine Yl h fun v9 h=> ?_
  refine Yf P2 [0,2,11] ?_
  refine Yc h (fun h=> ?_) fun h=> ?_
  ·exact h.elim
  ·refine zL 0 ?_
   repeat (first | refine zJ ?_ | refine zz ?_ | refine zK ?_ | refine zA ?_ | refine zv K_ ?_)
   refine zw ?_
   repeat (first | refine zC ?_ | refine zp ?_ | refine zu ?_ | refine zE ?_)
   exact retT (rs:=[]) (vs:=[]) K_ (trivial) K_ ⟨rfl,h⟩

/-! ### (*towpath/towpathlaw01.Book).fillAnswer (function 49) -/

theorem S_u {b_:OA} {w:World} {R:WP} (h:F_ac b_ R w):C_M b_ w R:=by
 unfold F_ac at h
 refine Yh Tryz.func49 ?_
 ·refine Yp P1 [0,2] (Yd 0 ?_)
  obtain⟨I,μ,h0,hr⟩:=h
  refine zM (fun m l w=>∃(i:Int),l=[(0,Vp b_),(2,Vi i)]∧I i w∧μ i w=m) ⟨0,rfl,h0,rfl⟩ ?_
  rintro _ _ w1 ⟨i,rfl,hI,rfl⟩
  obtain⟨again_,again__h,h⟩:∃ again_:Int→WP,(∀ i' w',again_ i' w'→I i' w'∧μ i' w'<μ i w1)∧F_M b_ R again_ i w1:=⟨_,fun _ _ h=>h,hr i w1 hI⟩
  clear h0 hI
  unfold F_M at h
  refine Ys (Yt (Yn P2 ?_))
  refine Yv 6 h fun hp_3 h=> ?_
  refine Yn P1 (Yn P1 ?_)
  refine Yl h fun v9 h=> ?_
  refine Yf P2 [0,2,11] ?_
  refine Yc h (fun h=> ?_) fun h=> ?_
  ·exact h.elim
  ·refine zL 0 ?_
   repeat (first | refine zJ ?_ | refine zz ?_ | refine zK ?_ | refine zA ?_ | refine zv K_ ?_)
   refine zw ?_
   repeat (first | refine zC ?_ | refine zp ?_ | refine zu ?_ | refine zE ?_)
   exact retT (rs:=[]) (vs:=[]) K_ (trivial) K_ ⟨rfl,h⟩

/-! ### (*towpath/towpathlaw01.Book).growByte (function 50) -/

theorem S_K {b_:OA} {w:World} {R:WP} (h:F_Bc b_ R w):C_cb b_ w R:=by
 unfold F_Bc at h
 refine Yh Tryz.func50 ?_
 ·refine Yp P1 [0,2] (Yd 0 ?_)
  obtain⟨I,μ,h0,hr⟩:=h
  refine zM (fun m l w=>∃(i:Int),l=[(0,Vp b_),(2,Vi i)]∧I i w∧μ i w=m) ⟨0,rfl,h0,rfl⟩ ?_
  rintro _ _ w1 ⟨i,rfl,hI,rfl⟩
  obtain⟨again_,again__h,h⟩:∃ again_:Int→WP,(∀ i' w',again_ i' w'→I i' w'∧μ i' w'<μ i w1)∧F_7 b_ R again_ i w1:=⟨_,fun _ _ h=>h,hr i w1 hI⟩
  clear h0 hI
  unfold F_7 at h
  refine Ys (Yt (Yn P2 ?_))
  refine Yv 7 h fun hp_3 h=> ?_
  refine Yn P1 (Yn P1 ?_)
  refine Yl h fun v10 h=> ?_
  refine Yf P2 [0,2,12] ?_
  refine Yc h (fun h=> ?_) fun h=> ?_
  ·exact h.elim
  ·refine zL 0 ?_
   repeat (first | refine zJ ?_ | refine zz ?_ | refine zK ?_ | refine zA ?_ | refine zv K_ ?_)
   refine zw ?_
   repeat (first | refine zC ?_ | refine zp ?_ | refine zu ?_ | refine zE ?_)
   exact retT (rs:=[]) (vs:=[]) K_ (trivial) K_ ⟨rfl,h⟩

/-! ### (*towpath/towpathlaw01.Book).growInt (function 51) -/

theorem S_V {b_:OA} {w:World} {R:WP} (h:F_Pc b_ R w):C_sb b_ w R:=by
 unfold F_Pc at h
 refine Yh Tryz.func51 ?_
 ·refine Yp P1 [0,2] (Yd 0 ?_)
  obtain⟨I,μ,h0,hr⟩:=h
  refine zM (fun m l w=>∃(i:Int),l=[(0,Vp b_),(2,Vi i)]∧I i w∧μ i w=m) ⟨0,rfl,h0,rfl⟩ ?_
  rintro _ _ w1 ⟨i,rfl,hI,rfl⟩
  obtain⟨again_,again__h,h⟩:∃ again_:Int→WP,(∀ i' w',again_ i' w'→I i' w'∧μ i' w'<μ i w1)∧F_lb b_ R again_ i w1:=⟨_,fun _ _ h=>h,hr i w1 hI⟩
  clear h0 hI
  unfold F_lb at h
  refine Ys (Yt (Yn P2 ?_))
  refine Yv 7 h fun hp_3 h=> ?_
  refine Yn P1 (Yn P1 ?_)
  refine Yl h fun v10 h=> ?_
  refine Yf P2 [0,2,12] ?_
  refine Yc h (fun h=> ?_) fun h=> ?_
  ·refine zg (Ys (Yd 1 (Yt (Yn P1 ?_))))
   refine Yv 15 h fun hp_12 h=> ?_
   refine Yn P1 (Yn P1 ?_)
   refine Yl h fun v18 h=> ?_
   refine Yn P1 ?_
   obtain⟨hp_13,h⟩:=h
   refine Yu 18 (fun pp=> .slice pp v18.len v18.cap) hp_13 ?_
   refine Yi h fun h=> ?_
   refine YL h fun v21 h=> ?_
   refine Yw pv_ h fun b_1 w2 h=> ?_
   refine Yo h fun w3 h=> ?_
   refine Yf [] [0,2,3] (Yt (Yn P1 ?_))
   refine Yl h fun long h=> ?_
   refine Yf P1 [0,2,3,4] (Ys (Yp P1 [0,2,3,4,5] (Yd 2 ?_)))
   obtain⟨I,μ,h0,hr⟩:=h
   refine zM (fun m l w=>∃(long1:Slc) (k_:Int),l=[(0,Vp b_),(2,Vi i),(3,pv_ b_1),(4,sv_ long1),(5,Vi k_)]∧I long1 k_ w∧μ long1 k_ w=m) ⟨long,0,rfl,h0,rfl⟩ ?_
   rintro _ _ w4 ⟨long1,k_,rfl,hI,rfl⟩
   obtain⟨again_1,again_1_h,h⟩:∃ again_1:Slc→Int→WP,(∀ long1' k_' w',again_1 long1' k_' w'→I long1' k_' w'∧μ long1' k_' w'<μ long1 k_ w4)∧F_kb b_ i again_ b_1 again_1 long1 k_ w4:=⟨_,fun _ _ _ h=>h,hr long1 k_ w4 hI⟩
   clear h0 hI
   unfold F_kb at h
   refine Ys (Yp P2 [0,2,3,4,5,25] ?_)
   refine Yc h (fun h=> ?_) fun h=> ?_
   ·refine zg (Ys (Yd 3 (Yr (Yn P2 ?_))))
    refine Yl h fun v30 h=> ?_
    refine Ym1 h fun v31 w5 h=> ?_
    refine Yw (sl_ 1 1) h fun b_2 w6 h=> ?_
    obtain⟨src,hs,h⟩:=h
    refine zH (t:=56) (tx:=56) (e:=3) (a:=(Operand.tmp 28)) (xo:=(Operand.tmp 32)) (s:=long1) (x:=(Slc.mk (some ⟨b_2,0,none⟩) 1 1)) (sz:=1) (by_:=8) (zs:=[Vi 0]) (ty:=56) (dst:=some 33)  src K_ K_ K_ K_ K_ K_ K_ K_ K_ hs (zj.mono h (fun long2 w7 h=> ?_))
    refine Yf P1 [0,2,3,4,5] (Yr (Yf P3 [0,2,3,4,5] ?_))
    have hb_:=again_1_h _ _ _ h
    exact⟨_,hb_.2,_,Sub.mk K_,long2,(IntKind.i64.wrap (k_+1)),rfl,hb_.1,rfl⟩
   ·refine zL 2 (Yr (Yn P1 ?_))
    refine Yv 34 h fun hp_14 h=> ?_
    refine Yn P1 (Yn P1 ?_)
    refine Yl h fun v37 h=> ?_
    refine Yn P2 ?_
    obtain⟨hp_15,h⟩:=h
    refine Yu 37 (fun pp=> .slice pp v37.len v37.cap) hp_15 ?_
    refine Yi h fun h=> ?_
    refine Yn P1 ?_
    refine Yo h fun w8 h=> ?_
    refine Yf [] [0,2] (Yr (Yf P3 [0,2] ?_))
    have hb_:=again__h _ _ h
    exact⟨_,hb_.2,_,Sub.mk K_,(IntKind.i64.wrap (i+1)),rfl,hb_.1,rfl⟩
  ·refine zL 0 ?_
   repeat (first | refine zJ ?_ | refine zz ?_ | refine zK ?_ | refine zA ?_ | refine zv K_ ?_)
   refine zw ?_
   repeat (first | refine zC ?_ | refine zp ?_ | refine zu ?_ | refine zE ?_)
   exact retT (rs:=[]) (vs:=[]) K_ (trivial) K_ ⟨rfl,h⟩

/-! ### (*towpath/towpathlaw01.Book).growText (function 52) -/

theorem S_L {b_:OA} {w:World} {R:WP} (h:F_Cc b_ R w):C_db b_ w R:=by
 unfold F_Cc at h
 refine Yh Tryz.func52 ?_
 ·refine Yp P1 [0,2] (Yd 0 ?_)
  obtain⟨I,μ,h0,hr⟩:=h
  refine zM (fun m l w=>∃(i:Int),l=[(0,Vp b_),(2,Vi i)]∧I i w∧μ i w=m) ⟨0,rfl,h0,rfl⟩ ?_
  rintro _ _ w1 ⟨i,rfl,hI,rfl⟩
  obtain⟨again_,again__h,h⟩:∃ again_:Int→WP,(∀ i' w',again_ i' w'→I i' w'∧μ i' w'<μ i w1)∧F_8 b_ R again_ i w1:=⟨_,fun _ _ h=>h,hr i w1 hI⟩
  clear h0 hI
  unfold F_8 at h
  refine Ys (Yt (Yn P2 ?_))
  refine Yv 7 h fun hp_3 h=> ?_
  refine Yn P1 (Yn P1 ?_)
  refine Yl h fun v10 h=> ?_
  refine Yf P2 [0,2,12] ?_
  refine Yc h (fun h=> ?_) fun h=> ?_
  ·exact h.elim
  ·refine zL 0 ?_
   repeat (first | refine zJ ?_ | refine zz ?_ | refine zK ?_ | refine zA ?_ | refine zv K_ ?_)
   refine zw ?_
   repeat (first | refine zC ?_ | refine zp ?_ | refine zu ?_ | refine zE ?_)
   exact retT (rs:=[]) (vs:=[]) K_ (trivial) K_ ⟨rfl,h⟩

/-! ### (*towpath/towpathlaw01.Book).growWrite (function 53) -/

theorem S_B {b_:OA} {w:World} {R:WP} (h:F_kc b_ R w):C_W b_ w R:=by
 unfold F_kc at h
 refine Yh Tryz.func53 ?_
 ·refine Yp P1 [0,2] (Yd 0 ?_)
  obtain⟨I,μ,h0,hr⟩:=h
  refine zM (fun m l w=>∃(i:Int),l=[(0,Vp b_),(2,Vi i)]∧I i w∧μ i w=m) ⟨0,rfl,h0,rfl⟩ ?_
  rintro _ _ w1 ⟨i,rfl,hI,rfl⟩
  obtain⟨again_,again__h,h⟩:∃ again_:Int→WP,(∀ i' w',again_ i' w'→I i' w'∧μ i' w'<μ i w1)∧F_V b_ R again_ i w1:=⟨_,fun _ _ h=>h,hr i w1 hI⟩
  clear h0 hI
  unfold F_V at h
  refine Ys (Yt (Yn P2 ?_))
  refine Yv 7 h fun hp_3 h=> ?_
  refine Yn P1 (Yn P1 ?_)
  refine Yl h fun v10 h=> ?_
  refine Yf P2 [0,2,12] ?_
  refine Yc h (fun h=> ?_) fun h=> ?_
  ·exact h.elim
  ·refine zL 0 ?_
   repeat (first | refine zJ ?_ | refine zz ?_ | refine zK ?_ | refine zA ?_ | refine zv K_ ?_)
   refine zw ?_
   repeat (first | refine zC ?_ | refine zp ?_ | refine zu ?_ | refine zE ?_)
   exact retT (rs:=[]) (vs:=[]) K_ (trivial) K_ ⟨rfl,h⟩

/-! ### (*towpath/towpathlaw01.Book).growEntry (function 54) -/

theorem S_C {b_:OA} {w:World} {R:WP} (h:F_lc b_ R w):C_X b_ w R:=by
 unfold F_lc at h
 refine Yh Tryz.func54 ?_
 ·refine Yp P1 [0,2] (Yd 0 ?_)
  obtain⟨I,μ,h0,hr⟩:=h
  refine zM (fun m l w=>∃(i:Int),l=[(0,Vp b_),(2,Vi i)]∧I i w∧μ i w=m) ⟨0,rfl,h0,rfl⟩ ?_
  rintro _ _ w1 ⟨i,rfl,hI,rfl⟩
  obtain⟨again_,again__h,h⟩:∃ again_:Int→WP,(∀ i' w',again_ i' w'→I i' w'∧μ i' w'<μ i w1)∧F_W b_ R again_ i w1:=⟨_,fun _ _ h=>h,hr i w1 hI⟩
  clear h0 hI
  unfold F_W at h
  refine Ys (Yt (Yn P2 ?_))
  refine Yv 7 h fun hp_3 h=> ?_
  refine Yn P1 (Yn P1 ?_)
  refine Yl h fun v10 h=> ?_
  refine Yf P2 [0,2,12] ?_
  refine Yc h (fun h=> ?_) fun h=> ?_
  ·exact h.elim
  ·refine zL 0 ?_
   repeat (first | refine zJ ?_ | refine zz ?_ | refine zK ?_ | refine zA ?_ | refine zv K_ ?_)
   refine zw ?_
   repeat (first | refine zC ?_ | refine zp ?_ | refine zu ?_ | refine zE ?_)
   exact retT (rs:=[]) (vs:=[]) K_ (trivial) K_ ⟨rfl,h⟩
end
end Go.Proofs.YtjlfdepkphibgaaGreatDoor
