/- WRITTEN BY PROGRAM (dec.py): for each Go function the clean formula F, the call's contract C, and the proof S that F gives C. -/
import Derived.Test.YtjlfdepkphibgaaGreatDoorRows
import Derived.Test.YtjlfdepkphibgaaGreatDoorGF
namespace Go.Proofs.YtjlfdepkphibgaaGreatDoor
open Go
set_option linter.unusedVariables false
set_option maxRecDepth 100000
set_option maxHeartbeats 4000000
noncomputable section

/-! ### (*towpath/towpathlaw01.Book).lookText (function 63) -/

theorem S_Q {b_:OA} {w:World} {R:Bool→WP} (h:F_Jc b_ R w):C_ib b_ w R:=by
 unfold F_Jc at h
 refine Yh Tryz.func63 ?_
 ·refine Yp P1 [0] (Ys (Yp P1 [0,3] (Yd 0 ?_)))
  obtain⟨I,μ,h0,hr⟩:=h
  refine zN (fun m l w=>∃(i:Int),l=[(0,Vp b_),(3,Vi i)]∧I i w∧μ i w=m) ⟨0,rfl,h0,rfl⟩ ?_
  rintro _ _ w1 ⟨i,rfl,hI,rfl⟩
  obtain⟨again_,again__h,h⟩:∃ again_:Int→WP,(∀ i' w',again_ i' w'→I i' w'∧μ i' w'<μ i w1)∧F_gb b_ R again_ i w1:=⟨_,fun _ _ h=>h,hr i w1 hI⟩
  clear h0 hI
  unfold F_gb at h
  refine Ys (Yt (Yn P2 ?_))
  refine Yv 7 h fun hp_7 h=> ?_
  refine Yn P1 (Yn P1 ?_)
  refine Yl h fun v10 h=> ?_
  refine Yf P2 [0,3,12] ?_
  refine Yc h (fun h=> ?_) fun h=> ?_
  ·exact h.elim
  ·refine zM 0 (Yp P1 [2] ?_)
   exact YS ⟨true,rfl,h⟩

/-! ### (*towpath/towpathlaw01.Book).lookWrite (function 64) -/

theorem S_G {b_:OA} {w:World} {R:Bool→WP} (h:F_rc b_ R w):C_1 b_ w R:=by
 unfold F_rc at h
 refine Yh Tryz.func64 ?_
 ·refine Yp P1 [0] (Ys (Yp P1 [0,3] (Yd 0 ?_)))
  obtain⟨I,μ,h0,hr⟩:=h
  refine zN (fun m l w=>∃(i:Int),l=[(0,Vp b_),(3,Vi i)]∧I i w∧μ i w=m) ⟨0,rfl,h0,rfl⟩ ?_
  rintro _ _ w1 ⟨i,rfl,hI,rfl⟩
  obtain⟨again_,again__h,h⟩:∃ again_:Int→WP,(∀ i' w',again_ i' w'→I i' w'∧μ i' w'<μ i w1)∧F_2 b_ R again_ i w1:=⟨_,fun _ _ h=>h,hr i w1 hI⟩
  clear h0 hI
  unfold F_2 at h
  refine Ys (Yt (Yn P2 ?_))
  refine Yv 7 h fun hp_7 h=> ?_
  refine Yn P1 (Yn P1 ?_)
  refine Yl h fun v10 h=> ?_
  refine Yf P2 [0,3,12] ?_
  refine Yc h (fun h=> ?_) fun h=> ?_
  ·exact h.elim
  ·refine zM 0 (Yp P1 [2] ?_)
   exact YS ⟨true,rfl,h⟩

/-! ### (*towpath/towpathlaw01.Book).lookEntry (function 65) -/

theorem S_H {b_:OA} {w:World} {R:Bool→WP} (h:F_sc b_ R w):C_2 b_ w R:=by
 unfold F_sc at h
 refine Yh Tryz.func65 ?_
 ·refine Yp P1 [0] (Ys (Yp P1 [0,3] (Yd 0 ?_)))
  obtain⟨I,μ,h0,hr⟩:=h
  refine zN (fun m l w=>∃(i:Int),l=[(0,Vp b_),(3,Vi i)]∧I i w∧μ i w=m) ⟨0,rfl,h0,rfl⟩ ?_
  rintro _ _ w1 ⟨i,rfl,hI,rfl⟩
  obtain⟨again_,again__h,h⟩:∃ again_:Int→WP,(∀ i' w',again_ i' w'→I i' w'∧μ i' w'<μ i w1)∧F_3 b_ R again_ i w1:=⟨_,fun _ _ h=>h,hr i w1 hI⟩
  clear h0 hI
  unfold F_3 at h
  refine Ys (Yt (Yn P2 ?_))
  refine Yv 7 h fun hp_7 h=> ?_
  refine Yn P1 (Yn P1 ?_)
  refine Yl h fun v10 h=> ?_
  refine Yf P2 [0,3,12] ?_
  refine Yc h (fun h=> ?_) fun h=> ?_
  ·exact h.elim
  ·refine zM 0 (Yp P1 [2] ?_)
   exact YS ⟨true,rfl,h⟩

/-! ### (*towpath/towpathlaw01.Book).lookVersion (function 66) -/
def zku:=cb_ Tryz.f66
def zlu:=cr_ zku
def zmu:=cl_ zlu
def znu:=cr_ zmu
def zou:=cl_ znu
def zpu:=cl_ zou
def zeq:=cr_ zpu
def zfq:=cl_ zeq
def zgq:=cl_ zfq
def zhq:=cr_ zgq
def ziq:=cr_ zhq
def zjq:=cr_ ziq
def zkq:=cl_ zjq
def zlq:=cl_ zkq
def zmq:=cr_ zlq
def znq:=cl_ zmq
def zoq:=cl_ znq
def zpq:=cl_ zoq
def zqq:=co_ zpq

theorem S_u {b_:OA} {w:World} {R:Bool→WP} (h:F_9b b_ R w):C_L b_ w R:=by
 unfold F_9b at h
 refine Yh Tryz.func66 ?_
 ·refine Yp P1 [0] (Ys (Yp P1 [0,3] (Yd 0 ?_)))
  obtain⟨I,μ,h0,hr⟩:=h
  refine zN (fun m l w=>∃(i:Int),l=[(0,Vp b_),(3,Vi i)]∧I i w∧μ i w=m) ⟨0,rfl,h0,rfl⟩ ?_
  rintro _ _ w1 ⟨i,rfl,hI,rfl⟩
  obtain⟨again_,again__h,h⟩:∃ again_:Int→WP,(∀ i' w',again_ i' w'→I i' w'∧μ i' w'<μ i w1)∧F_G b_ R again_ i w1:=⟨_,fun _ _ h=>h,hr i w1 hI⟩
  clear h0 hI
  unfold F_G at h
  refine Ys (Yt (Yn P2 ?_))
  refine Yv 7 h fun hp_31 h=> ?_
  refine Yn P1 (Yn P1 ?_)
  refine Yl h fun v10 h=> ?_
  refine Yf P2 [0,3,12] ?_
  refine Yc h (fun h=> ?_) fun h=> ?_
  ·refine zg (Ys (Yd 1 (Yt (Yn P1 ?_))))
   refine Yv 15 h fun hp_46 h=> ?_
   refine Yn P1 (Yn P1 ?_)
   refine Yl h fun v18 h=> ?_
   refine Yn P1 ?_
   obtain⟨hp_47,h⟩:=h
   refine Yu 18 (fun pp=> .slice pp v18.len v18.cap) hp_47 ?_
   refine Yi h fun h=> ?_
   refine YL h fun v21 h=> ?_
   refine Yw pv_ h fun b_1 w2 h=> ?_
   refine Yo h fun w3 h=> ?_
   refine Yf [] [0,3,4] (Ys (Yt (Yn P1 ?_)))
   refine Yl h fun v23 h=> ?_
   refine Yn P2 ?_
   refine Yl h fun v26 h=> ?_
   refine Yf P3 [0,3,4,29] ?_
   refine Yc h (fun h=> ?_) fun h=> ?_
   ·refine Yp P1 [2] ?_
    exact YS ⟨false,rfl,h⟩
   ·refine zg (Yp P1 [0,3,4,5] (Yd 2 ?_))
    obtain⟨I,μ,h0,hr⟩:=h
    refine zN (fun m l w=>∃(k_:Int),l=[(0,Vp b_),(3,Vi i),(4,pv_ b_1),(5,Vi k_)]∧I k_ w∧μ k_ w=m) ⟨0,rfl,h0,rfl⟩ ?_
    rintro _ _ w4 ⟨k_,rfl,hI,rfl⟩
    obtain⟨again_1,again_1_h,h⟩:∃ again_1:Int→WP,(∀ k_' w',again_1 k_' w'→I k_' w'∧μ k_' w'<μ k_ w4)∧F_F R i again_ b_1 again_1 k_ w4:=⟨_,fun _ _ h=>h,hr k_ w4 hI⟩
    clear h0 hI
    unfold F_F at h
    refine Ys (Yt (Yn P2 ?_))
    refine Yl h fun v32 h=> ?_
    refine Yf P2 [0,3,4,5,34] ?_
    refine Yc h (fun h=> ?_) fun h=> ?_
    ·refine zg (Ys (Yd 3 ?_))
     refine Ycut (fun l w=>∃(t63:Bool),l=[(0,Vp b_),(3,Vi i),(4,pv_ b_1),(5,Vi k_),(63,Vo t63)]∧F_b R k_ again_1 t63 w) ?_ ?_
     ·refine zO (id:=10) (ops:=zqq) K_ K_ K_ ?_
      refine Qn P1 ?_
      refine Ql h fun v38 h=> ?_
      refine Qn P1 ?_
      obtain⟨hp_54,h⟩:=h
      refine Qu 38 (fun pp=> .slice pp v38.len v38.cap) hp_54 ?_
      refine Qi h fun h=> ?_
      refine QL h fun v41 h=> ?_
      refine Qn P1 ?_
      refine Ql h fun v43 h=> ?_
      obtain⟨v44,hq,h⟩:=h
      refine zLb (op:=(Op.call (Call.mk (Callee.value (Operand.func 110)) #[(Operand.tmp 41),(Operand.tmp 43)] #[130,3]))) (ty:=4) (dst:=some 44) 110 #[Value.agg #[Vi v41.Number,Value.string v41.Val,Vo v41.Drop],Vi v43] (Vo v44) K_ (fun ww=>by kernel_rfl) (fun w' he=>Calls.mono (hq w' he) (by rintro _ w'' ⟨_,rfl,rfl,hE⟩; exact⟨rfl,hE⟩)) ?_
      clear hq
      refine Qn P4 ?_
      refine Qspl 46 h (fun h=> ?_) fun h=> ?_
      ·refine Qf [.skip,.skip,.skip,.skip,.skip,.skip,.skip,.skip,.skip,.skip,.skip,.skip,.skip,.skip,.plain] [0,3,4,5,63] h fun w7 h=> ?_
       exact⟨_,Sub.mk K_,true,rfl,h⟩
      ·refine Ql h fun v49 h=> ?_
       refine Qn [.sure,.sure,.sure,.plain] ?_
       refine Qspl 52 h (fun h=> ?_) fun h=> ?_
       ·refine Ql h fun v54 h=> ?_
        refine Qn [.sure] ?_
        obtain⟨hp_55,h⟩:=h
        refine Qu 54 (fun pp=> .slice pp v54.len v54.cap) hp_55 ?_
        refine Qi h fun h=> ?_
        refine QL h fun v57 h=> ?_
        refine Qn [.sure] ?_
        refine Ql h fun v59 h=> ?_
        obtain⟨v60,hq,h⟩:=h
        refine zLb (op:=(Op.call (Call.mk (Callee.value (Operand.func 110)) #[(Operand.tmp 57),(Operand.tmp 59)] #[130,3]))) (ty:=4) (dst:=some 60) 110 #[Value.agg #[Vi v57.Number,Value.string v57.Val,Vo v57.Drop],Vi v59] (Vo v60) K_ (fun ww=>by kernel_rfl) (fun w' he=>Calls.mono (hq w' he) (by rintro _ w'' ⟨_,rfl,rfl,hE⟩; exact⟨rfl,hE⟩)) ?_
        clear hq
        refine Qf [.sure,.sure,.plain] [0,3,4,5,63] h fun w9 h=> ?_
        exact⟨_,Sub.mk K_,(!v60),rfl,h⟩
       ·refine Qf [.skip,.skip,.skip,.skip,.skip,.skip,.skip,.skip,.sure,.plain] [0,3,4,5,63] h fun w10 h=> ?_
        exact⟨_,Sub.mk K_,false,rfl,h⟩
     ·rintro _ w5 ⟨t63,rfl,h⟩
      unfold F_b at h
      refine Yc h (fun h=> ?_) fun h=> ?_
      ·refine Yp P1 [2] ?_
       exact YS ⟨false,rfl,h⟩
      ·refine zg (Yr (Yf P3 [0,3,4,5] ?_))
       have hb_:=again_1_h _ _ h
       exact⟨_,hb_.2,_,Sub.mk K_,(IntKind.i64.wrap (k_+1)),rfl,hb_.1,rfl⟩
    ·refine zM 2 (Yr (Yf P3 [0,3] ?_))
     have hb_:=again__h _ _ h
     exact⟨_,hb_.2,_,Sub.mk K_,(IntKind.i64.wrap (i+1)),rfl,hb_.1,rfl⟩
  ·refine zM 0 (Yp P1 [2] ?_)
   exact YS ⟨true,rfl,h⟩

/-! ### (*towpath/towpathlaw01.Book).lookTxn (function 67) -/

theorem S_0 {b_:OA} {w:World} {R:Bool→WP} (h:F_Yc b_ R w):C_vb b_ w R:=by
 unfold F_Yc at h
 refine Yh Tryz.func67 ?_
 ·refine Yp P1 [0] (Ys (Yp P1 [0,3] (Yd 0 ?_)))
  obtain⟨I,μ,h0,hr⟩:=h
  refine zN (fun m l w=>∃(i:Int),l=[(0,Vp b_),(3,Vi i)]∧I i w∧μ i w=m) ⟨0,rfl,h0,rfl⟩ ?_
  rintro _ _ w1 ⟨i,rfl,hI,rfl⟩
  obtain⟨again_,again__h,h⟩:∃ again_:Int→WP,(∀ i' w',again_ i' w'→I i' w'∧μ i' w'<μ i w1)∧F_tb b_ R again_ i w1:=⟨_,fun _ _ h=>h,hr i w1 hI⟩
  clear h0 hI
  unfold F_tb at h
  refine Ys (Yt (Yn P2 ?_))
  refine Yv 7 h fun hp_7 h=> ?_
  refine Yn P1 (Yn P1 ?_)
  refine Yl h fun v10 h=> ?_
  refine Yf P2 [0,3,12] ?_
  refine Yc h (fun h=> ?_) fun h=> ?_
  ·exact h.elim
  ·refine zM 0 (Yp P1 [2] ?_)
   exact YS ⟨true,rfl,h⟩

/-! ### (*towpath/towpathlaw01.Book).lookHeld (function 68) -/
def zqu:=cb_ Tryz.f68
def zru:=cr_ zqu
def zsu:=cl_ zru
def ztu:=cr_ zsu
def zuu:=cl_ ztu
def zvu:=cl_ zuu
def zrq:=cr_ zvu
def zsq:=cl_ zrq
def ztq:=cl_ zsq
def zuq:=cr_ ztq
def zvq:=cr_ zuq
def zwq:=cr_ zvq
def zxq:=cl_ zwq
def zyq:=cl_ zxq
def zzq:=cr_ zyq
def zAq:=cl_ zzq
def zBq:=cl_ zAq
def zCq:=cl_ zBq
def zDq:=co_ zCq
def z3b:List Nat:=[0,1,2,3,4,5,6,7,8,9,10,11,12,13,14,15,16,17,18,19,20,21,22,23,24,25,26]

theorem S_R {b_:OA} {w:World} {R:Bool→WP} (h:F_Kc b_ R w):C_jb b_ w R:=by
 unfold F_Kc at h
 refine Yh Tryz.func68 ?_
 ·refine Yp P1 [0] (Ys (Yp P1 [0,3] (Yd 0 ?_)))
  obtain⟨I,μ,h0,hr⟩:=h
  refine zN (fun m l w=>∃(i:Int),l=[(0,Vp b_),(3,Vi i)]∧I i w∧μ i w=m) ⟨0,rfl,h0,rfl⟩ ?_
  rintro _ _ w1 ⟨i,rfl,hI,rfl⟩
  obtain⟨again_,again__h,h⟩:∃ again_:Int→WP,(∀ i' w',again_ i' w'→I i' w'∧μ i' w'<μ i w1)∧F_ib b_ R again_ i w1:=⟨_,fun _ _ h=>h,hr i w1 hI⟩
  clear h0 hI
  unfold F_ib at h
  refine Ys (Yt (Yn P2 ?_))
  refine Yv 7 h fun hp_31 h=> ?_
  refine Yn P1 (Yn P1 ?_)
  refine Yl h fun v10 h=> ?_
  refine Yf P2 [0,3,12] ?_
  refine Yc h (fun h=> ?_) fun h=> ?_
  ·refine zg (Ys (Yd 1 (Yt (Yn P1 ?_))))
   refine Yv 15 h fun hp_46 h=> ?_
   refine Yn P1 (Yn P1 ?_)
   refine Yl h fun v18 h=> ?_
   refine Yn P1 ?_
   obtain⟨hp_47,h⟩:=h
   refine Yu 18 (fun pp=> .slice pp v18.len v18.cap) hp_47 ?_
   refine Yi h fun h=> ?_
   refine YL h fun v21 h=> ?_
   refine Yw pv_ h fun b_1 w2 h=> ?_
   refine Yo h fun w3 h=> ?_
   refine Yf [] [0,3,4] (Ys (Yt (Yn P1 ?_)))
   refine Yl h fun v23 h=> ?_
   refine Yn P2 ?_
   refine Yl h fun v26 h=> ?_
   refine Yf P3 [0,3,4,29] ?_
   refine Yc h (fun h=> ?_) fun h=> ?_
   ·refine Yp P1 [2] ?_
    exact YS ⟨false,rfl,h⟩
   ·refine zg (Yp P1 [0,3,4,5] (Yd 2 ?_))
    obtain⟨I,μ,h0,hr⟩:=h
    refine zN (fun m l w=>∃(k_:Int),l=[(0,Vp b_),(3,Vi i),(4,pv_ b_1),(5,Vi k_)]∧I k_ w∧μ k_ w=m) ⟨0,rfl,h0,rfl⟩ ?_
    rintro _ _ w4 ⟨k_,rfl,hI,rfl⟩
    obtain⟨again_1,again_1_h,h⟩:∃ again_1:Int→WP,(∀ k_' w',again_1 k_' w'→I k_' w'∧μ k_' w'<μ k_ w4)∧F_hb R i again_ b_1 again_1 k_ w4:=⟨_,fun _ _ h=>h,hr k_ w4 hI⟩
    clear h0 hI
    unfold F_hb at h
    refine Ys (Yt (Yn P2 ?_))
    refine Yl h fun v32 h=> ?_
    refine Yf P2 [0,3,4,5,34] ?_
    refine Yc h (fun h=> ?_) fun h=> ?_
    ·refine zg (Ys (Yd 3 ?_))
     refine Ycut (fun l w=>∃(t63:Bool),l=[(0,Vp b_),(3,Vi i),(4,pv_ b_1),(5,Vi k_),(63,Vo t63)]∧F_e R k_ again_1 t63 w) ?_ ?_
     ·refine zm (id:=10) (ops:=zDq) z3b K_ K_ K_ K_ (fun w6 hw=> ?_)
      replace h:=h w6 hw
      clear hw
      refine Mn P1 ?_
      refine Ml 1 h fun v38 hc h=> ?_
      refine Mn P1 ?_
      obtain⟨hp_54,h⟩:=h
      refine Mu 38 (fun pp=> .slice pp v38.len v38.cap) hp_54 ?_
      refine Mi 3 h fun h=> ?_
      refine ML 4 h fun v41 hc h=> ?_
      refine Mn P1 ?_
      refine Ml 6 h fun v43 hc h=> ?_
      refine zo (op:=(Op.call (Call.mk (Callee.value (Operand.func 112)) #[(Operand.tmp 41),(Operand.tmp 43)] #[141,3]))) (ty:=4) (dst:=some 44) 7 [4,6,3,5,1,2,0] [] 112 #[Value.agg #[Value.string v41.Key,sv_ v41.Versions],Vi v43] K_ K_ K_ K_ K_ (fun ww=>by kernel_rfl) (Calls.mono h ?_)
      rintro _ w7 ⟨v44,rfl,h⟩
      refine⟨_,rfl,trivial,?_⟩
      refine Mn P4 ?_
      refine Mspl 46 h (fun h=> ?_) fun h=> ?_
      ·refine Mf [.skip,.skip,.skip,.skip,.skip,.skip,.skip,.skip,.skip,.skip,.skip,.skip,.skip,.skip,.plain] [0,3,4,5,63] ?_
       exact⟨_,Sub.mk K_,true,rfl,h⟩
      ·refine Ml 12 h fun v49 hc h=> ?_
       refine Mn [.sure,.sure,.sure,.plain] ?_
       refine Mspl 52 h (fun h=> ?_) fun h=> ?_
       ·refine Ml 17 h fun v54 hc h=> ?_
        refine Mn [.sure] ?_
        obtain⟨hp_55,h⟩:=h
        refine Mu 54 (fun pp=> .slice pp v54.len v54.cap) hp_55 ?_
        refine Mi 19 h fun h=> ?_
        refine ML 20 h fun v57 hc h=> ?_
        refine Mn [.sure] ?_
        refine Ml 22 h fun v59 hc h=> ?_
        refine zo (op:=(Op.call (Call.mk (Callee.value (Operand.func 112)) #[(Operand.tmp 57),(Operand.tmp 59)] #[141,3]))) (ty:=4) (dst:=some 60) 23 [15,20,22,9,14,19,21,7,8,10,13,17,18,4,6,12,16,3,5,11,1,2,0] [] 112 #[Value.agg #[Value.string v57.Key,sv_ v57.Versions],Vi v59] K_ K_ K_ K_ K_ (fun ww=>by kernel_rfl) (Calls.mono h ?_)
        rintro _ w8 ⟨v60,rfl,h⟩
        refine⟨_,rfl,trivial,?_⟩
        refine Mf [.sure,.sure,.plain] [0,3,4,5,63] ?_
        exact⟨_,Sub.mk K_,(!v60),rfl,h⟩
       ·refine Mf [.skip,.skip,.skip,.skip,.skip,.skip,.skip,.skip,.sure,.plain] [0,3,4,5,63] ?_
        exact⟨_,Sub.mk K_,false,rfl,h⟩
     ·rintro _ w5 ⟨t63,rfl,h⟩
      unfold F_e at h
      refine Yc h (fun h=> ?_) fun h=> ?_
      ·refine Yp P1 [2] ?_
       exact YS ⟨false,rfl,h⟩
      ·refine zg (Yr (Yf P3 [0,3,4,5] ?_))
       have hb_:=again_1_h _ _ h
       exact⟨_,hb_.2,_,Sub.mk K_,(IntKind.i64.wrap (k_+1)),rfl,hb_.1,rfl⟩
    ·refine zM 2 (Yr (Yf P3 [0,3] ?_))
     have hb_:=again__h _ _ h
     exact⟨_,hb_.2,_,Sub.mk K_,(IntKind.i64.wrap (i+1)),rfl,hb_.1,rfl⟩
  ·refine zM 0 (Yp P1 [2] ?_)
   exact YS ⟨true,rfl,h⟩

/-! ### (*towpath/towpathlaw01.Book).lookHeldList (function 69) -/

theorem S_q {b_:OA} {w:World} {R:Bool→WP} (h:F_Yb b_ R w):C_F b_ w R:=by
 unfold F_Yb at h
 refine Yh Tryz.func69 ?_
 ·refine Yp P1 [0] (Ys (Yp P1 [0,3] (Yd 0 ?_)))
  obtain⟨I,μ,h0,hr⟩:=h
  refine zN (fun m l w=>∃(i:Int),l=[(0,Vp b_),(3,Vi i)]∧I i w∧μ i w=m) ⟨0,rfl,h0,rfl⟩ ?_
  rintro _ _ w1 ⟨i,rfl,hI,rfl⟩
  obtain⟨again_,again__h,h⟩:∃ again_:Int→WP,(∀ i' w',again_ i' w'→I i' w'∧μ i' w'<μ i w1)∧F_A b_ R again_ i w1:=⟨_,fun _ _ h=>h,hr i w1 hI⟩
  clear h0 hI
  unfold F_A at h
  refine Ys (Yt (Yn P2 ?_))
  refine Yv 7 h fun hp_7 h=> ?_
  refine Yn P1 (Yn P1 ?_)
  refine Yl h fun v10 h=> ?_
  refine Yf P2 [0,3,12] ?_
  refine Yc h (fun h=> ?_) fun h=> ?_
  ·exact h.elim
  ·refine zM 0 (Yp P1 [2] ?_)
   exact YS ⟨true,rfl,h⟩
end
end Go.Proofs.YtjlfdepkphibgaaGreatDoor
