/- WRITTEN BY PROGRAM (dec.py): for each Go function the clean formula F, the call's contract C, and the proof S that F gives C. -/
import Derived.Test.YtpdegdnigcnjiaaGreatDoorRows
import Derived.Test.YtpdegdnigcnjiaaGreatDoorGF
namespace Go.Proofs.YtpdegdnigcnjiaaGreatDoor
open Go
set_option linter.unusedVariables false
set_option maxRecDepth 100000
set_option maxHeartbeats 4000000
noncomputable section

/-! ### (*towpath/towpathlaw01.Book).lookTxn (function 78) -/

theorem S_towpathlaw01_Book_lookTxn {b_ : Option Addr} {w : World} {R : Bool → World → Prop} (h : F_towpathlaw01_Book_lookTxn b_ R w) : C_towpathlaw01_Book_lookTxn b_ w R := by
 unfold F_towpathlaw01_Book_lookTxn at h
 refine Yh Tryz.func78 ?_
 · refine Yp P1 [0] ?_
   refine Ys ?_
   refine Yp P1 [0, 3] ?_
   refine Yd 0 ?_
   obtain ⟨I, μ, h0, hr⟩ := h
   refine Yloop (fun m l w => ∃ (i : Int), l = [(0, Value.pointer b_), (3, Value.int .i64 i)] ∧ I i w ∧ μ i w = m) ⟨0, rfl, h0, rfl⟩ ?_
   rintro _ _ w1 ⟨i, rfl, hI, rfl⟩
   obtain ⟨again_, again__h, h⟩ : ∃ again_ : Int → World → Prop, (∀ i' w', again_ i' w' → I i' w' ∧ μ i' w' < μ i w1) ∧ F_towpathlaw01_Book_lookTxn_L0 b_ R again_ i w1 := ⟨_, fun _ _ h => h, hr i w1 hI⟩
   clear h0 hI
   unfold F_towpathlaw01_Book_lookTxn_L0 at h
   refine Ys ?_
   refine Yt ?_
   refine Yn P2 ?_
   refine Yv 7 h fun hp_7 h => ?_
   refine Yn P1 ?_
   refine Yn P1 ?_
   refine Yl h fun v10 h => ?_
   refine Yf P2 [0, 3, 12] ?_
   refine Yc h (fun h => ?_) fun h => ?_
   · exact h.elim
   · refine Yexit 0 ?_
     refine Yp P1 [2] ?_
     exact YS ⟨true, rfl, h⟩

/-! ### (*towpath/towpathlaw01.Book).lookHeld (function 79) -/
def c79_0 := cb_ Tryz.f79
def c79_3 := cr_ c79_0
def c79_4 := cl_ c79_3
def c79_7 := cr_ c79_4
def c79_8 := cl_ c79_7
def c79_9 := cl_ c79_8
def c79_16 := cr_ c79_9
def c79_17 := cl_ c79_16
def c79_18 := cl_ c79_17
def c79_21 := cr_ c79_18
def c79_31 := cr_ c79_21
def c79_34 := cr_ c79_31
def c79_35 := cl_ c79_34
def c79_36 := cl_ c79_35
def c79_43 := cr_ c79_36
def c79_44 := cl_ c79_43
def c79_45 := cl_ c79_44
def c79_46 := cl_ c79_45
def r79_46 := co_ c79_46
def o_towpathlaw01_Book_lookHeld_46 : List Nat := [0, 1, 2, 3, 4, 5, 6, 7, 8, 9, 10, 11, 12, 13, 14, 15, 16, 17, 18, 19, 20, 21, 22, 23, 24, 25, 26]

theorem S_towpathlaw01_Book_lookHeld {b_ : Option Addr} {w : World} {R : Bool → World → Prop} (h : F_towpathlaw01_Book_lookHeld b_ R w) : C_towpathlaw01_Book_lookHeld b_ w R := by
 unfold F_towpathlaw01_Book_lookHeld at h
 refine Yh Tryz.func79 ?_
 · refine Yp P1 [0] ?_
   refine Ys ?_
   refine Yp P1 [0, 3] ?_
   refine Yd 0 ?_
   obtain ⟨I, μ, h0, hr⟩ := h
   refine Yloop (fun m l w => ∃ (i : Int), l = [(0, Value.pointer b_), (3, Value.int .i64 i)] ∧ I i w ∧ μ i w = m) ⟨0, rfl, h0, rfl⟩ ?_
   rintro _ _ w1 ⟨i, rfl, hI, rfl⟩
   obtain ⟨again_, again__h, h⟩ : ∃ again_ : Int → World → Prop, (∀ i' w', again_ i' w' → I i' w' ∧ μ i' w' < μ i w1) ∧ F_towpathlaw01_Book_lookHeld_L0 b_ R again_ i w1 := ⟨_, fun _ _ h => h, hr i w1 hI⟩
   clear h0 hI
   unfold F_towpathlaw01_Book_lookHeld_L0 at h
   refine Ys ?_
   refine Yt ?_
   refine Yn P2 ?_
   refine Yv 7 h fun hp_31 h => ?_
   refine Yn P1 ?_
   refine Yn P1 ?_
   refine Yl h fun v10 h => ?_
   refine Yf P2 [0, 3, 12] ?_
   refine Yc h (fun h => ?_) fun h => ?_
   · refine Yskip ?_
     refine Ys ?_
     refine Yd 1 ?_
     refine Yt ?_
     refine Yn P1 ?_
     refine Yv 15 h fun hp_46 h => ?_
     refine Yn P1 ?_
     refine Yn P1 ?_
     refine Yl h fun v18 h => ?_
     refine Yn P1 ?_
     obtain ⟨hp_47, h⟩ := h
     refine Yu 18 (fun pp => .slice pp v18.len v18.cap) hp_47 ?_
     refine Yi h fun h => ?_
     refine YL h fun v21 h => ?_
     refine Yw pv_ h fun b_1 w2 h => ?_
     refine Yo h fun w3 h => ?_
     refine Yf [] [0, 3, 4] ?_
     refine Ys ?_
     refine Yt ?_
     refine Yn P1 ?_
     refine Yl h fun v23 h => ?_
     refine Yn P2 ?_
     refine Yl h fun v26 h => ?_
     refine Yf P3 [0, 3, 4, 29] ?_
     refine Yc h (fun h => ?_) fun h => ?_
     · refine Yp P1 [2] ?_
       exact YS ⟨false, rfl, h⟩
     · refine Yskip ?_
       refine Yp P1 [0, 3, 4, 5] ?_
       refine Yd 2 ?_
       obtain ⟨I, μ, h0, hr⟩ := h
       refine Yloop (fun m l w => ∃ (k_ : Int), l = [(0, Value.pointer b_), (3, Value.int .i64 i), (4, pv_ b_1), (5, Value.int .i64 k_)] ∧ I k_ w ∧ μ k_ w = m) ⟨0, rfl, h0, rfl⟩ ?_
       rintro _ _ w4 ⟨k_, rfl, hI, rfl⟩
       obtain ⟨again_1, again_1_h, h⟩ : ∃ again_1 : Int → World → Prop, (∀ k_' w', again_1 k_' w' → I k_' w' ∧ μ k_' w' < μ k_ w4) ∧ F_towpathlaw01_Book_lookHeld_L1 R i again_ b_1 again_1 k_ w4 := ⟨_, fun _ _ h => h, hr k_ w4 hI⟩
       clear h0 hI
       unfold F_towpathlaw01_Book_lookHeld_L1 at h
       refine Ys ?_
       refine Yt ?_
       refine Yn P2 ?_
       refine Yl h fun v32 h => ?_
       refine Yf P2 [0, 3, 4, 5, 34] ?_
       refine Yc h (fun h => ?_) fun h => ?_
       · refine Yskip ?_
         refine Ys ?_
         refine Yd 3 ?_
         refine Ycut (fun l w => ∃ (t63 : Bool), l = [(0, Value.pointer b_), (3, Value.int .i64 i), (4, pv_ b_1), (5, Value.int .i64 k_), (63, Value.bool t63)] ∧ F_towpathlaw01_Book_lookHeld_k2 R k_ again_1 t63 w) ?_ ?_
         · refine wpE_mixregion (id := 10) (ops := r79_46) o_towpathlaw01_Book_lookHeld_46 (by kernel_rfl) (by kernel_rfl) (by kernel_rfl) (by kernel_rfl) (fun w6 hw => ?_)
           replace h := h w6 hw
           clear hw
           refine Mn P1 ?_
           refine Ml 1 h fun v38 hc h => ?_
           refine Mn P1 ?_
           obtain ⟨hp_54, h⟩ := h
           refine Mu 38 (fun pp => .slice pp v38.len v38.cap) hp_54 ?_
           refine Mi 3 h fun h => ?_
           refine ML 4 h fun v41 hc h => ?_
           refine Mn P1 ?_
           refine Ml 6 h fun v43 hc h => ?_
           refine mreg_enter (op := (Op.call (Call.mk (Callee.value (Operand.func 143)) #[(Operand.tmp 41), (Operand.tmp 43)] #[104, 3]))) (ty := 4) (dst := some 44) 7 [4, 6, 3, 5, 1, 2, 0] [] 143 #[Value.agg #[Value.string v41.Key, sv_ v41.Versions], Value.int .i64 v43] (by kernel_rfl) (by kernel_rfl) (by kernel_rfl) (by kernel_rfl) (by kernel_rfl) (fun ww => by kernel_rfl) (Calls.mono h ?_)
           rintro _ w7 ⟨v44, rfl, h⟩
           refine ⟨_, rfl, trivial, ?_⟩
           refine Mn P4 ?_
           refine Mspl 46 h (fun h => ?_) fun h => ?_
           · refine Mf [.skip, .skip, .skip, .skip, .skip, .skip, .skip, .skip, .skip, .skip, .skip, .skip, .skip, .skip, .plain] [0, 3, 4, 5, 63] ?_
             exact ⟨_, Sub.mk (by kernel_rfl), true, rfl, h⟩
           · refine Ml 12 h fun v49 hc h => ?_
             refine Mn [.sure, .sure, .sure, .plain] ?_
             refine Mspl 52 h (fun h => ?_) fun h => ?_
             · refine Ml 17 h fun v54 hc h => ?_
               refine Mn [.sure] ?_
               obtain ⟨hp_55, h⟩ := h
               refine Mu 54 (fun pp => .slice pp v54.len v54.cap) hp_55 ?_
               refine Mi 19 h fun h => ?_
               refine ML 20 h fun v57 hc h => ?_
               refine Mn [.sure] ?_
               refine Ml 22 h fun v59 hc h => ?_
               refine mreg_enter (op := (Op.call (Call.mk (Callee.value (Operand.func 143)) #[(Operand.tmp 57), (Operand.tmp 59)] #[104, 3]))) (ty := 4) (dst := some 60) 23 [15, 20, 22, 9, 14, 19, 21, 7, 8, 10, 13, 17, 18, 4, 6, 12, 16, 3, 5, 11, 1, 2, 0] [] 143 #[Value.agg #[Value.string v57.Key, sv_ v57.Versions], Value.int .i64 v59] (by kernel_rfl) (by kernel_rfl) (by kernel_rfl) (by kernel_rfl) (by kernel_rfl) (fun ww => by kernel_rfl) (Calls.mono h ?_)
               rintro _ w8 ⟨v60, rfl, h⟩
               refine ⟨_, rfl, trivial, ?_⟩
               refine Mf [.sure, .sure, .plain] [0, 3, 4, 5, 63] ?_
               exact ⟨_, Sub.mk (by kernel_rfl), (!v60), rfl, h⟩
             · refine Mf [.skip, .skip, .skip, .skip, .skip, .skip, .skip, .skip, .sure, .plain] [0, 3, 4, 5, 63] ?_
               exact ⟨_, Sub.mk (by kernel_rfl), false, rfl, h⟩
         · rintro _ w5 ⟨t63, rfl, h⟩
           unfold F_towpathlaw01_Book_lookHeld_k2 at h
           refine Yc h (fun h => ?_) fun h => ?_
           · refine Yp P1 [2] ?_
             exact YS ⟨false, rfl, h⟩
           · refine Yskip ?_
             refine Yr ?_
             refine Yf P3 [0, 3, 4, 5] ?_
             have hb_ := again_1_h _ _ h
             exact ⟨_, hb_.2, _, Sub.mk (by kernel_rfl), (IntKind.i64.wrap (k_ + 1)), rfl, hb_.1, rfl⟩
       · refine Yexit 2 ?_
         refine Yr ?_
         refine Yf P3 [0, 3] ?_
         have hb_ := again__h _ _ h
         exact ⟨_, hb_.2, _, Sub.mk (by kernel_rfl), (IntKind.i64.wrap (i + 1)), rfl, hb_.1, rfl⟩
   · refine Yexit 0 ?_
     refine Yp P1 [2] ?_
     exact YS ⟨true, rfl, h⟩

/-! ### (*towpath/towpathlaw01.Book).lookHeldList (function 80) -/
def c80_0 := cb_ Tryz.f80
def c80_3 := cr_ c80_0
def c80_4 := cl_ c80_3
def c80_7 := cr_ c80_4
def c80_8 := cl_ c80_7
def c80_9 := cl_ c80_8
def c80_16 := cr_ c80_9
def c80_17 := cl_ c80_16
def c80_18 := cl_ c80_17
def c80_21 := cr_ c80_18
def c80_31 := cr_ c80_21
def c80_34 := cr_ c80_31
def c80_35 := cl_ c80_34
def c80_36 := cl_ c80_35
def c80_43 := cr_ c80_36
def c80_44 := cl_ c80_43
def c80_45 := cl_ c80_44
def c80_46 := cl_ c80_45
def r80_46 := co_ c80_46
def o_towpathlaw01_Book_lookHeldList_46 : List Nat := [0, 1, 2, 3, 4, 5, 6, 7, 8, 9, 10, 11, 12, 13, 14, 15, 16, 17, 18, 19, 20, 21, 22, 23, 24, 25, 26]

theorem S_towpathlaw01_Book_lookHeldList {b_ : Option Addr} {w : World} {R : Bool → World → Prop} (h : F_towpathlaw01_Book_lookHeldList b_ R w) : C_towpathlaw01_Book_lookHeldList b_ w R := by
 unfold F_towpathlaw01_Book_lookHeldList at h
 refine Yh Tryz.func80 ?_
 · refine Yp P1 [0] ?_
   refine Ys ?_
   refine Yp P1 [0, 3] ?_
   refine Yd 0 ?_
   obtain ⟨I, μ, h0, hr⟩ := h
   refine Yloop (fun m l w => ∃ (i : Int), l = [(0, Value.pointer b_), (3, Value.int .i64 i)] ∧ I i w ∧ μ i w = m) ⟨0, rfl, h0, rfl⟩ ?_
   rintro _ _ w1 ⟨i, rfl, hI, rfl⟩
   obtain ⟨again_, again__h, h⟩ : ∃ again_ : Int → World → Prop, (∀ i' w', again_ i' w' → I i' w' ∧ μ i' w' < μ i w1) ∧ F_towpathlaw01_Book_lookHeldList_L0 b_ R again_ i w1 := ⟨_, fun _ _ h => h, hr i w1 hI⟩
   clear h0 hI
   unfold F_towpathlaw01_Book_lookHeldList_L0 at h
   refine Ys ?_
   refine Yt ?_
   refine Yn P2 ?_
   refine Yv 7 h fun hp_31 h => ?_
   refine Yn P1 ?_
   refine Yn P1 ?_
   refine Yl h fun v10 h => ?_
   refine Yf P2 [0, 3, 12] ?_
   refine Yc h (fun h => ?_) fun h => ?_
   · refine Yskip ?_
     refine Ys ?_
     refine Yd 1 ?_
     refine Yt ?_
     refine Yn P1 ?_
     refine Yv 15 h fun hp_46 h => ?_
     refine Yn P1 ?_
     refine Yn P1 ?_
     refine Yl h fun v18 h => ?_
     refine Yn P1 ?_
     obtain ⟨hp_47, h⟩ := h
     refine Yu 18 (fun pp => .slice pp v18.len v18.cap) hp_47 ?_
     refine Yi h fun h => ?_
     refine YL h fun v21 h => ?_
     refine Yw pv_ h fun b_1 w2 h => ?_
     refine Yo h fun w3 h => ?_
     refine Yf [] [0, 3, 4] ?_
     refine Ys ?_
     refine Yt ?_
     refine Yn P1 ?_
     refine Yl h fun v23 h => ?_
     refine Yn P2 ?_
     refine Yl h fun v26 h => ?_
     refine Yf P3 [0, 3, 4, 29] ?_
     refine Yc h (fun h => ?_) fun h => ?_
     · refine Yp P1 [2] ?_
       exact YS ⟨false, rfl, h⟩
     · refine Yskip ?_
       refine Yp P1 [0, 3, 4, 5] ?_
       refine Yd 2 ?_
       obtain ⟨I, μ, h0, hr⟩ := h
       refine Yloop (fun m l w => ∃ (k_ : Int), l = [(0, Value.pointer b_), (3, Value.int .i64 i), (4, pv_ b_1), (5, Value.int .i64 k_)] ∧ I k_ w ∧ μ k_ w = m) ⟨0, rfl, h0, rfl⟩ ?_
       rintro _ _ w4 ⟨k_, rfl, hI, rfl⟩
       obtain ⟨again_1, again_1_h, h⟩ : ∃ again_1 : Int → World → Prop, (∀ k_' w', again_1 k_' w' → I k_' w' ∧ μ k_' w' < μ k_ w4) ∧ F_towpathlaw01_Book_lookHeldList_L1 R i again_ b_1 again_1 k_ w4 := ⟨_, fun _ _ h => h, hr k_ w4 hI⟩
       clear h0 hI
       unfold F_towpathlaw01_Book_lookHeldList_L1 at h
       refine Ys ?_
       refine Yt ?_
       refine Yn P2 ?_
       refine Yl h fun v32 h => ?_
       refine Yf P2 [0, 3, 4, 5, 34] ?_
       refine Yc h (fun h => ?_) fun h => ?_
       · refine Yskip ?_
         refine Ys ?_
         refine Yd 3 ?_
         refine Ycut (fun l w => ∃ (t63 : Bool), l = [(0, Value.pointer b_), (3, Value.int .i64 i), (4, pv_ b_1), (5, Value.int .i64 k_), (63, Value.bool t63)] ∧ F_towpathlaw01_Book_lookHeldList_k2 R k_ again_1 t63 w) ?_ ?_
         · refine wpE_mixregion (id := 10) (ops := r80_46) o_towpathlaw01_Book_lookHeldList_46 (by kernel_rfl) (by kernel_rfl) (by kernel_rfl) (by kernel_rfl) (fun w6 hw => ?_)
           replace h := h w6 hw
           clear hw
           refine Mn P1 ?_
           refine Ml 1 h fun v38 hc h => ?_
           refine Mn P1 ?_
           obtain ⟨hp_54, h⟩ := h
           refine Mu 38 (fun pp => .slice pp v38.len v38.cap) hp_54 ?_
           refine Mi1 3 h fun h => ?_
           refine Ml 4 h fun v41 hc h => ?_
           refine Mn P1 ?_
           refine Ml 6 h fun v43 hc h => ?_
           refine mreg_enter (op := (Op.call (Call.mk (Callee.value (Operand.func 144)) #[(Operand.tmp 41), (Operand.tmp 43)] #[66, 3]))) (ty := 4) (dst := some 44) 7 [4, 6, 3, 5, 1, 2, 0] [] 144 #[sv_ v41, Value.int .i64 v43] (by kernel_rfl) (by kernel_rfl) (by kernel_rfl) (by kernel_rfl) (by kernel_rfl) (fun ww => by kernel_rfl) (Calls.mono h ?_)
           rintro _ w7 ⟨v44, rfl, h⟩
           refine ⟨_, rfl, trivial, ?_⟩
           refine Mn P4 ?_
           refine Mspl 46 h (fun h => ?_) fun h => ?_
           · refine Mf [.skip, .skip, .skip, .skip, .skip, .skip, .skip, .skip, .skip, .skip, .skip, .skip, .skip, .skip, .plain] [0, 3, 4, 5, 63] ?_
             exact ⟨_, Sub.mk (by kernel_rfl), true, rfl, h⟩
           · refine Ml 12 h fun v49 hc h => ?_
             refine Mn [.sure, .sure, .sure, .plain] ?_
             refine Mspl 52 h (fun h => ?_) fun h => ?_
             · refine Ml 17 h fun v54 hc h => ?_
               refine Mn [.sure] ?_
               obtain ⟨hp_55, h⟩ := h
               refine Mu 54 (fun pp => .slice pp v54.len v54.cap) hp_55 ?_
               refine Mi1 19 h fun h => ?_
               refine Ml 20 h fun v57 hc h => ?_
               refine Mn [.sure] ?_
               refine Ml 22 h fun v59 hc h => ?_
               refine mreg_enter (op := (Op.call (Call.mk (Callee.value (Operand.func 144)) #[(Operand.tmp 57), (Operand.tmp 59)] #[66, 3]))) (ty := 4) (dst := some 60) 23 [15, 20, 22, 9, 14, 19, 21, 7, 8, 10, 13, 17, 18, 4, 6, 12, 16, 3, 5, 11, 1, 2, 0] [] 144 #[sv_ v57, Value.int .i64 v59] (by kernel_rfl) (by kernel_rfl) (by kernel_rfl) (by kernel_rfl) (by kernel_rfl) (fun ww => by kernel_rfl) (Calls.mono h ?_)
               rintro _ w8 ⟨v60, rfl, h⟩
               refine ⟨_, rfl, trivial, ?_⟩
               refine Mf [.sure, .sure, .plain] [0, 3, 4, 5, 63] ?_
               exact ⟨_, Sub.mk (by kernel_rfl), (!v60), rfl, h⟩
             · refine Mf [.skip, .skip, .skip, .skip, .skip, .skip, .skip, .skip, .sure, .plain] [0, 3, 4, 5, 63] ?_
               exact ⟨_, Sub.mk (by kernel_rfl), false, rfl, h⟩
         · rintro _ w5 ⟨t63, rfl, h⟩
           unfold F_towpathlaw01_Book_lookHeldList_k2 at h
           refine Yc h (fun h => ?_) fun h => ?_
           · refine Yp P1 [2] ?_
             exact YS ⟨false, rfl, h⟩
           · refine Yskip ?_
             refine Yr ?_
             refine Yf P3 [0, 3, 4, 5] ?_
             have hb_ := again_1_h _ _ h
             exact ⟨_, hb_.2, _, Sub.mk (by kernel_rfl), (IntKind.i64.wrap (k_ + 1)), rfl, hb_.1, rfl⟩
       · refine Yexit 2 ?_
         refine Yr ?_
         refine Yf P3 [0, 3] ?_
         have hb_ := again__h _ _ h
         exact ⟨_, hb_.2, _, Sub.mk (by kernel_rfl), (IntKind.i64.wrap (i + 1)), rfl, hb_.1, rfl⟩
   · refine Yexit 0 ?_
     refine Yp P1 [2] ?_
     exact YS ⟨true, rfl, h⟩

/-! ### (*towpath/towpathlaw01.Book).lookEvent (function 81) -/

theorem S_towpathlaw01_Book_lookEvent {b_ : Option Addr} {w : World} {R : Bool → World → Prop} (h : F_towpathlaw01_Book_lookEvent b_ R w) : C_towpathlaw01_Book_lookEvent b_ w R := by
 unfold F_towpathlaw01_Book_lookEvent at h
 refine Yh Tryz.func81 ?_
 · refine Yp P1 [0] ?_
   refine Ys ?_
   refine Yp P1 [0, 3] ?_
   refine Yd 0 ?_
   obtain ⟨I, μ, h0, hr⟩ := h
   refine Yloop (fun m l w => ∃ (i : Int), l = [(0, Value.pointer b_), (3, Value.int .i64 i)] ∧ I i w ∧ μ i w = m) ⟨0, rfl, h0, rfl⟩ ?_
   rintro _ _ w1 ⟨i, rfl, hI, rfl⟩
   obtain ⟨again_, again__h, h⟩ : ∃ again_ : Int → World → Prop, (∀ i' w', again_ i' w' → I i' w' ∧ μ i' w' < μ i w1) ∧ F_towpathlaw01_Book_lookEvent_L0 b_ R again_ i w1 := ⟨_, fun _ _ h => h, hr i w1 hI⟩
   clear h0 hI
   unfold F_towpathlaw01_Book_lookEvent_L0 at h
   refine Ys ?_
   refine Yt ?_
   refine Yn P2 ?_
   refine Yv 7 h fun hp_7 h => ?_
   refine Yn P1 ?_
   refine Yn P1 ?_
   refine Yl h fun v10 h => ?_
   refine Yf P2 [0, 3, 12] ?_
   refine Yc h (fun h => ?_) fun h => ?_
   · exact h.elim
   · refine Yexit 0 ?_
     refine Yp P1 [2] ?_
     exact YS ⟨true, rfl, h⟩

/-! ### (*towpath/towpathlaw01.Book).lookAnswer (function 82) -/

theorem S_towpathlaw01_Book_lookAnswer {b_ : Option Addr} {w : World} {R : Bool → World → Prop} (h : F_towpathlaw01_Book_lookAnswer b_ R w) : C_towpathlaw01_Book_lookAnswer b_ w R := by
 unfold F_towpathlaw01_Book_lookAnswer at h
 refine Yh Tryz.func82 ?_
 · refine Yp P1 [0] ?_
   refine Ys ?_
   refine Yp P1 [0, 3] ?_
   refine Yd 0 ?_
   obtain ⟨I, μ, h0, hr⟩ := h
   refine Yloop (fun m l w => ∃ (i : Int), l = [(0, Value.pointer b_), (3, Value.int .i64 i)] ∧ I i w ∧ μ i w = m) ⟨0, rfl, h0, rfl⟩ ?_
   rintro _ _ w1 ⟨i, rfl, hI, rfl⟩
   obtain ⟨again_, again__h, h⟩ : ∃ again_ : Int → World → Prop, (∀ i' w', again_ i' w' → I i' w' ∧ μ i' w' < μ i w1) ∧ F_towpathlaw01_Book_lookAnswer_L0 b_ R again_ i w1 := ⟨_, fun _ _ h => h, hr i w1 hI⟩
   clear h0 hI
   unfold F_towpathlaw01_Book_lookAnswer_L0 at h
   refine Ys ?_
   refine Yt ?_
   refine Yn P2 ?_
   refine Yv 7 h fun hp_7 h => ?_
   refine Yn P1 ?_
   refine Yn P1 ?_
   refine Yl h fun v10 h => ?_
   refine Yf P2 [0, 3, 12] ?_
   refine Yc h (fun h => ?_) fun h => ?_
   · exact h.elim
   · refine Yexit 0 ?_
     refine Yp P1 [2] ?_
     exact YS ⟨true, rfl, h⟩

/-! ### (*towpath/towpathlaw01.Book).keepInt (function 85) -/
def c85_0 := cb_ Tryz.f85
def c85_3 := cr_ c85_0
def r85_3 := co_ c85_3
def o_towpathlaw01_Book_keepInt_3 : List Nat := [0, 1, 2, 3, 4, 5, 6, 7, 8, 9, 10, 11, 12, 13, 14, 15]

theorem S_towpathlaw01_Book_keepInt {b_ : Option Addr} {l_ : Slc} {w : World} {R : World → Prop} (h : F_towpathlaw01_Book_keepInt b_ l_ R w) : C_towpathlaw01_Book_keepInt b_ l_ w R := by
 unfold F_towpathlaw01_Book_keepInt at h
 refine Yh Tryz.func85 ?_
 · refine Yt ?_
   refine Yn P1 ?_
   refine Yv 4 h fun hp_1 h => ?_
   refine Yn P1 ?_
   refine Yn P1 ?_
   refine Yl h fun v7 h => ?_
   refine Yn P3 ?_
   refine Yo h fun w1 h => ?_
   refine Yf [] [0, 1] ?_
   refine wpE_mixregion (id := 1) (ops := r85_3) o_towpathlaw01_Book_keepInt_3 (by kernel_rfl) (by kernel_rfl) (by kernel_rfl) (by kernel_rfl) (fun w2 hw => ?_)
   replace h := h w2 hw
   clear hw
   refine Mn P2 ?_
   refine Mv 12 h fun hp_2 h => ?_
   refine Mn P1 ?_
   refine Mn P1 ?_
   refine Ml 4 h fun v15 hc h => ?_
   refine Mn P2 ?_
   refine Mv 17 h fun hp_3 h => ?_
   refine Mn P1 ?_
   refine Mn P1 ?_
   refine Ml 9 h fun v20 hc h => ?_
   refine Mn P1 ?_
   refine mreg_new (op := (Op.buildSlice 36 1 #[(0, (Operand.tmp 21))])) (ty := 36) (dst := some 22) 11 [10, 5, 9, 8, 7, 6] [(4, fun w' => w'.cell? ⟨(pblk b_), (poff b_) + 2, none⟩ = some (sv_ v15))] (fun bb => Value.slice (some ⟨bb, 0, none⟩) 1 1) (Obj.cells ([sv_ l_, Value.slice none 0 0, Value.int .i64 v20]).toArray ty_towpathlaw01_heldInt (0, 0)) (by kernel_rfl) (by kernel_rfl) (by kernel_rfl) (by kernel_rfl) (by kernel_rfl) (by kernel_rfl) (fun b_1 w3 hb hw => ?_)
   replace h := h b_1 w3 hb hw
   clear hb hw
   obtain ⟨hk0, h⟩ := h
   refine ⟨⟨hk0, trivial⟩, ?_⟩
   obtain ⟨src, hs, h⟩ := h
   refine mreg_append (t := 36) (tx := 36) (e := 146) (a := (Operand.tmp 15)) (xo := (Operand.tmp 22)) (s := v15) (x := (Slc.mk (some ⟨b_1, 0, none⟩) 1 1)) (sz := 3) (by_ := 56) (zs := [Value.slice none 0 0, Value.slice none 0 0, Value.int .i64 0]) (ty := 36) (dst := some 23) 12 [4, 11, 3, 10, 2, 5, 9, 1, 8, 7, 6] [] src (by kernel_rfl) (by kernel_rfl) (by kernel_rfl) (by kernel_rfl) (by kernel_rfl) (by kernel_rfl) (by kernel_rfl) (by kernel_rfl) (by kernel_rfl) (by kernel_rfl) (by kernel_rfl) (by kernel_rfl) (by kernel_rfl) hs (AppendW.mono h (fun v23 w4 h => ?_))
   refine ⟨trivial, ?_⟩
   refine Mv 11 h fun hp_4 h => ?_
   refine Mn P1 ?_
   refine Mn P1 ?_
   refine Mstore 15 [0, 1, 2, 3, 4, 5, 6, 7, 8, 9, 10, 11, 12, 14, 13] [] h fun w5 h => ?_
   refine ⟨trivial, ?_⟩
   refine Mf [] [] ?_
   repeat (first | refine seqQ_exit ?_ | refine loopQ_exit ?_ | refine cutQ_exit ?_ | refine blockQ_hit ?_ | refine blockQ_miss (by kernel_rfl) ?_)
   refine retQ_normal ?_
   repeat (first | refine seqQ_ret ?_ | refine blockQ_ret ?_ | refine loopQ_ret ?_ | refine cutQ_ret ?_)
   exact retT (rs := []) (vs := []) (by kernel_rfl) (trivial) (by kernel_rfl) ⟨rfl, h⟩

/-! ### towpath/towpathlaw01.HeldsSize (function 87) -/
def c87_0 := cb_ Tryz.f87
def c87_3 := cr_ c87_0
def c87_6 := cr_ c87_3
def c87_7 := cl_ c87_6
def c87_10 := cr_ c87_7
def c87_11 := cl_ c87_10
def c87_12 := cl_ c87_11
def c87_19 := cr_ c87_12
def c87_20 := cl_ c87_19
def c87_21 := cl_ c87_20
def r87_21 := co_ c87_21

theorem S_towpathlaw01_HeldsSize {l_ : Slc} {w : World} {R : Int → World → Prop} (h : F_towpathlaw01_HeldsSize l_ R w) : C_towpathlaw01_HeldsSize l_ w R := by
 unfold F_towpathlaw01_HeldsSize at h
 refine Yh Tryz.func87 ?_
 · refine Yp P1 [0] ?_
   refine Yp P3 [0, 3] ?_
   refine Ys ?_
   refine Yp P1 [0, 3, 4] ?_
   refine Yd 0 ?_
   obtain ⟨I, μ, h0, hr⟩ := h
   refine Yloop (fun m l w => ∃ (n_ : Int) (i : Int), l = [(0, sv_ l_), (3, Value.int .i64 n_), (4, Value.int .i64 i)] ∧ I n_ i w ∧ μ n_ i w = m) ⟨((l_.len : Nat) : Int), 0, rfl, h0, rfl⟩ ?_
   rintro _ _ w1 ⟨n_, i, rfl, hI, rfl⟩
   obtain ⟨again_, again__h, h⟩ : ∃ again_ : Int → Int → World → Prop, (∀ n_' i' w', again_ n_' i' w' → I n_' i' w' ∧ μ n_' i' w' < μ n_ i w1) ∧ F_towpathlaw01_HeldsSize_L0 l_ R again_ n_ i w1 := ⟨_, fun _ _ _ h => h, hr n_ i w1 hI⟩
   clear h0 hI
   unfold F_towpathlaw01_HeldsSize_L0 at h
   refine Ys ?_
   refine Yp [.plain, .plain, .plain, .plain, .plain, .plain, .plain, .pick] [0, 3, 4, 14] ?_
   refine Yc h (fun h => ?_) fun h => ?_
   · refine Yskip ?_
     refine Ys ?_
     refine Yd 1 ?_
     refine wpE_drawregion (id := 5) (ops := r87_21) (by kernel_rfl) (by kernel_rfl) (by kernel_rfl) ?_
     refine Qn P3 ?_
     obtain ⟨hp_6, h⟩ := h
     refine Qu 18 (fun pp => .slice pp l_.len l_.cap) hp_6 ?_
     refine Qi h fun h => ?_
     refine Qn P1 ?_
     refine Ql h fun v22 h => ?_
     refine Qn P4 ?_
     obtain ⟨hp_7, h⟩ := h
     refine Qu 25 (fun pp => .slice pp l_.len l_.cap) hp_7 ?_
     refine Qi h fun h => ?_
     refine Qn P1 ?_
     refine Ql h fun v29 h => ?_
     obtain ⟨v30, hq, h⟩ := h
     refine qreg_enter (op := (Op.call (Call.mk (Callee.value (Operand.func 148)) #[(Operand.tmp 29)] #[102]))) (ty := 3) (dst := some 30) 148 #[sv_ v29] (Value.int .i64 v30) (by kernel_rfl) (fun ww => by kernel_rfl) (fun w' he => Calls.mono (hq w' he) (by rintro _ w'' ⟨_, rfl, rfl, hE⟩; exact ⟨rfl, hE⟩)) ?_
     clear hq
     refine Qf P2 [0, 3, 4] h fun w3 h => ?_
     refine Yr ?_
     refine Yf P3 [0, 3, 4] ?_
     have hb_ := again__h _ _ _ h
     exact ⟨_, hb_.2, _, Sub.mk (by kernel_rfl), (IntKind.i64.wrap ((IntKind.i64.wrap (n_ + ((v22.size : Nat) : Int))) + v30)), (IntKind.i64.wrap (i + 1)), rfl, hb_.1, rfl⟩
   · refine Yexit 0 ?_
     refine Yp P2 [2] ?_
     exact YS ⟨n_, rfl, h⟩
end
end Go.Proofs.YtpdegdnigcnjiaaGreatDoor
