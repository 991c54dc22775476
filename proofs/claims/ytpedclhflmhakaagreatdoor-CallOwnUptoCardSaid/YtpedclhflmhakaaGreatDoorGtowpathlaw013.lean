/- WRITTEN BY PROGRAM (dec.py): for each Go function the clean formula F, the call's contract C, and the proof S that F gives C. -/
import Derived.Test.YtpedclhflmhakaaGreatDoorRows
import Derived.Test.YtpedclhflmhakaaGreatDoorGF
namespace Go.Proofs.YtpedclhflmhakaaGreatDoor
open Go
set_option linter.unusedVariables false
set_option maxRecDepth 100000
set_option maxHeartbeats 4000000
noncomputable section

/-! ### (*towpath/towpathlaw01.Book).lookInt (function 59) -/
def c59_0 := cb_ Tryz.f59
def c59_3 := cr_ c59_0
def c59_4 := cl_ c59_3
def c59_7 := cr_ c59_4
def c59_8 := cl_ c59_7
def c59_9 := cl_ c59_8
def c59_16 := cr_ c59_9
def c59_17 := cl_ c59_16
def c59_18 := cl_ c59_17
def c59_21 := cr_ c59_18
def c59_31 := cr_ c59_21
def c59_34 := cr_ c59_31
def c59_35 := cl_ c59_34
def c59_36 := cl_ c59_35
def c59_43 := cr_ c59_36
def c59_44 := cl_ c59_43
def c59_45 := cl_ c59_44
def c59_46 := cl_ c59_45
def r59_46 := co_ c59_46

theorem S_towpathlaw01_Book_lookInt {b_ : Option Addr} {w : World} {R : Bool → World → Prop} (h : F_towpathlaw01_Book_lookInt b_ R w) : C_towpathlaw01_Book_lookInt b_ w R := by
 unfold F_towpathlaw01_Book_lookInt at h
 refine Yh Tryz.func59 ?_
 · refine Yp P1 [0] ?_
   refine Ys ?_
   refine Yp P1 [0, 3] ?_
   refine Yd 0 ?_
   obtain ⟨I, μ, h0, hr⟩ := h
   refine Yloop (fun m l w => ∃ (i : Int), l = [(0, Value.pointer b_), (3, Value.int .i64 i)] ∧ I i w ∧ μ i w = m) ⟨0, rfl, h0, rfl⟩ ?_
   rintro _ _ w1 ⟨i, rfl, hI, rfl⟩
   obtain ⟨again_, again__h, h⟩ : ∃ again_ : Int → World → Prop, (∀ i' w', again_ i' w' → I i' w' ∧ μ i' w' < μ i w1) ∧ F_towpathlaw01_Book_lookInt_L0 b_ R again_ i w1 := ⟨_, fun _ _ h => h, hr i w1 hI⟩
   clear h0 hI
   unfold F_towpathlaw01_Book_lookInt_L0 at h
   refine Ys ?_
   refine Yt ?_
   refine Yn P2 ?_
   refine Yv 7 h fun hp_31 h => ?_
   refine Yn P1 ?_
   refine Yn P1 ?_
   refine Yl h fun v10 h => ?_
   refine Yf P2 [0, 3, 12] ?_
   refine Yc h (fun h => ?_) fun h => ?_
   · refine Yskip ?_
     refine Ys ?_
     refine Yd 1 ?_
     refine Yt ?_
     refine Yn P1 ?_
     refine Yv 15 h fun hp_46 h => ?_
     refine Yn P1 ?_
     refine Yn P1 ?_
     refine Yl h fun v18 h => ?_
     refine Yn P1 ?_
     obtain ⟨hp_47, h⟩ := h
     refine Yu 18 (fun pp => .slice pp v18.len v18.cap) hp_47 ?_
     refine Yi h fun h => ?_
     refine YL h fun v21 h => ?_
     refine Yw pv_ h fun b_1 w2 h => ?_
     refine Yo h fun w3 h => ?_
     refine Yf [] [0, 3, 4] ?_
     refine Ys ?_
     refine Yt ?_
     refine Yn P1 ?_
     refine Yl h fun v23 h => ?_
     refine Yn P2 ?_
     refine Yl h fun v26 h => ?_
     refine Yf P3 [0, 3, 4, 29] ?_
     refine Yc h (fun h => ?_) fun h => ?_
     · refine Yp P1 [2] ?_
       exact YS ⟨false, rfl, h⟩
     · refine Yskip ?_
       refine Yp P1 [0, 3, 4, 5] ?_
       refine Yd 2 ?_
       obtain ⟨I, μ, h0, hr⟩ := h
       refine Yloop (fun m l w => ∃ (k_ : Int), l = [(0, Value.pointer b_), (3, Value.int .i64 i), (4, pv_ b_1), (5, Value.int .i64 k_)] ∧ I k_ w ∧ μ k_ w = m) ⟨0, rfl, h0, rfl⟩ ?_
       rintro _ _ w4 ⟨k_, rfl, hI, rfl⟩
       obtain ⟨again_1, again_1_h, h⟩ : ∃ again_1 : Int → World → Prop, (∀ k_' w', again_1 k_' w' → I k_' w' ∧ μ k_' w' < μ k_ w4) ∧ F_towpathlaw01_Book_lookInt_L1 R i again_ b_1 again_1 k_ w4 := ⟨_, fun _ _ h => h, hr k_ w4 hI⟩
       clear h0 hI
       unfold F_towpathlaw01_Book_lookInt_L1 at h
       refine Ys ?_
       refine Yt ?_
       refine Yn P2 ?_
       refine Yl h fun v32 h => ?_
       refine Yf P2 [0, 3, 4, 5, 34] ?_
       refine Yc h (fun h => ?_) fun h => ?_
       · refine Yskip ?_
         refine Ys ?_
         refine Yd 3 ?_
         refine Ycut (fun l w => ∃ (t63 : Bool), l = [(0, Value.pointer b_), (3, Value.int .i64 i), (4, pv_ b_1), (5, Value.int .i64 k_), (63, Value.bool t63)] ∧ F_towpathlaw01_Book_lookInt_k2 R k_ again_1 t63 w) ?_ ?_
         · refine wpE_drawregion (id := 10) (ops := r59_46) (by kernel_rfl) (by kernel_rfl) (by kernel_rfl) ?_
           refine Qn P1 ?_
           refine Ql h fun v38 h => ?_
           refine Qn P1 ?_
           obtain ⟨hp_54, h⟩ := h
           refine Qu 38 (fun pp => .slice pp v38.len v38.cap) hp_54 ?_
           refine Qi1 h fun h => ?_
           refine Ql h fun v41 h => ?_
           refine Qn P1 ?_
           refine Ql h fun v43 h => ?_
           obtain ⟨v44, hq, h⟩ := h
           refine qreg_enter (op := (Op.call (Call.mk (Callee.value (Operand.func 103)) #[(Operand.tmp 41), (Operand.tmp 43)] #[3, 3]))) (ty := 4) (dst := some 44) 103 #[Value.int .i64 v41, Value.int .i64 v43] (Value.bool v44) (by kernel_rfl) (fun ww => by kernel_rfl) (fun w' he => Calls.mono (hq w' he) (by rintro _ w'' ⟨_, rfl, rfl, hE⟩; exact ⟨rfl, hE⟩)) ?_
           clear hq
           refine Qn P4 ?_
           refine Qspl 46 h (fun h => ?_) fun h => ?_
           · refine Qf [.skip, .skip, .skip, .skip, .skip, .skip, .skip, .skip, .skip, .skip, .skip, .skip, .skip, .skip, .plain] [0, 3, 4, 5, 63] h fun w7 h => ?_
             exact ⟨_, Sub.mk (by kernel_rfl), true, rfl, h⟩
           · refine Ql h fun v49 h => ?_
             refine Qn [.sure, .sure, .sure, .plain] ?_
             refine Qspl 52 h (fun h => ?_) fun h => ?_
             · refine Ql h fun v54 h => ?_
               refine Qn [.sure] ?_
               obtain ⟨hp_55, h⟩ := h
               refine Qu 54 (fun pp => .slice pp v54.len v54.cap) hp_55 ?_
               refine Qi1 h fun h => ?_
               refine Ql h fun v57 h => ?_
               refine Qn [.sure] ?_
               refine Ql h fun v59 h => ?_
               obtain ⟨v60, hq, h⟩ := h
               refine qreg_enter (op := (Op.call (Call.mk (Callee.value (Operand.func 103)) #[(Operand.tmp 57), (Operand.tmp 59)] #[3, 3]))) (ty := 4) (dst := some 60) 103 #[Value.int .i64 v57, Value.int .i64 v59] (Value.bool v60) (by kernel_rfl) (fun ww => by kernel_rfl) (fun w' he => Calls.mono (hq w' he) (by rintro _ w'' ⟨_, rfl, rfl, hE⟩; exact ⟨rfl, hE⟩)) ?_
               clear hq
               refine Qf [.sure, .sure, .plain] [0, 3, 4, 5, 63] h fun w9 h => ?_
               exact ⟨_, Sub.mk (by kernel_rfl), (!v60), rfl, h⟩
             · refine Qf [.skip, .skip, .skip, .skip, .skip, .skip, .skip, .skip, .sure, .plain] [0, 3, 4, 5, 63] h fun w10 h => ?_
               exact ⟨_, Sub.mk (by kernel_rfl), false, rfl, h⟩
         · rintro _ w5 ⟨t63, rfl, h⟩
           unfold F_towpathlaw01_Book_lookInt_k2 at h
           refine Yc h (fun h => ?_) fun h => ?_
           · refine Yp P1 [2] ?_
             exact YS ⟨false, rfl, h⟩
           · refine Yskip ?_
             refine Yr ?_
             refine Yf P3 [0, 3, 4, 5] ?_
             have hb_ := again_1_h _ _ h
             exact ⟨_, hb_.2, _, Sub.mk (by kernel_rfl), (IntKind.i64.wrap (k_ + 1)), rfl, hb_.1, rfl⟩
       · refine Yexit 2 ?_
         refine Yr ?_
         refine Yf P3 [0, 3] ?_
         have hb_ := again__h _ _ h
         exact ⟨_, hb_.2, _, Sub.mk (by kernel_rfl), (IntKind.i64.wrap (i + 1)), rfl, hb_.1, rfl⟩
   · refine Yexit 0 ?_
     refine Yp P1 [2] ?_
     exact YS ⟨true, rfl, h⟩

/-! ### (*towpath/towpathlaw01.Book).lookText (function 60) -/

theorem S_towpathlaw01_Book_lookText {b_ : Option Addr} {w : World} {R : Bool → World → Prop} (h : F_towpathlaw01_Book_lookText b_ R w) : C_towpathlaw01_Book_lookText b_ w R := by
 unfold F_towpathlaw01_Book_lookText at h
 refine Yh Tryz.func60 ?_
 · refine Yp P1 [0] ?_
   refine Ys ?_
   refine Yp P1 [0, 3] ?_
   refine Yd 0 ?_
   obtain ⟨I, μ, h0, hr⟩ := h
   refine Yloop (fun m l w => ∃ (i : Int), l = [(0, Value.pointer b_), (3, Value.int .i64 i)] ∧ I i w ∧ μ i w = m) ⟨0, rfl, h0, rfl⟩ ?_
   rintro _ _ w1 ⟨i, rfl, hI, rfl⟩
   obtain ⟨again_, again__h, h⟩ : ∃ again_ : Int → World → Prop, (∀ i' w', again_ i' w' → I i' w' ∧ μ i' w' < μ i w1) ∧ F_towpathlaw01_Book_lookText_L0 b_ R again_ i w1 := ⟨_, fun _ _ h => h, hr i w1 hI⟩
   clear h0 hI
   unfold F_towpathlaw01_Book_lookText_L0 at h
   refine Ys ?_
   refine Yt ?_
   refine Yn P2 ?_
   refine Yv 7 h fun hp_7 h => ?_
   refine Yn P1 ?_
   refine Yn P1 ?_
   refine Yl h fun v10 h => ?_
   refine Yf P2 [0, 3, 12] ?_
   refine Yc h (fun h => ?_) fun h => ?_
   · exact h.elim
   · refine Yexit 0 ?_
     refine Yp P1 [2] ?_
     exact YS ⟨true, rfl, h⟩

/-! ### (*towpath/towpathlaw01.Book).lookWrite (function 61) -/

theorem S_towpathlaw01_Book_lookWrite {b_ : Option Addr} {w : World} {R : Bool → World → Prop} (h : F_towpathlaw01_Book_lookWrite b_ R w) : C_towpathlaw01_Book_lookWrite b_ w R := by
 unfold F_towpathlaw01_Book_lookWrite at h
 refine Yh Tryz.func61 ?_
 · refine Yp P1 [0] ?_
   refine Ys ?_
   refine Yp P1 [0, 3] ?_
   refine Yd 0 ?_
   obtain ⟨I, μ, h0, hr⟩ := h
   refine Yloop (fun m l w => ∃ (i : Int), l = [(0, Value.pointer b_), (3, Value.int .i64 i)] ∧ I i w ∧ μ i w = m) ⟨0, rfl, h0, rfl⟩ ?_
   rintro _ _ w1 ⟨i, rfl, hI, rfl⟩
   obtain ⟨again_, again__h, h⟩ : ∃ again_ : Int → World → Prop, (∀ i' w', again_ i' w' → I i' w' ∧ μ i' w' < μ i w1) ∧ F_towpathlaw01_Book_lookWrite_L0 b_ R again_ i w1 := ⟨_, fun _ _ h => h, hr i w1 hI⟩
   clear h0 hI
   unfold F_towpathlaw01_Book_lookWrite_L0 at h
   refine Ys ?_
   refine Yt ?_
   refine Yn P2 ?_
   refine Yv 7 h fun hp_7 h => ?_
   refine Yn P1 ?_
   refine Yn P1 ?_
   refine Yl h fun v10 h => ?_
   refine Yf P2 [0, 3, 12] ?_
   refine Yc h (fun h => ?_) fun h => ?_
   · exact h.elim
   · refine Yexit 0 ?_
     refine Yp P1 [2] ?_
     exact YS ⟨true, rfl, h⟩

/-! ### (*towpath/towpathlaw01.Book).lookEntry (function 62) -/
def c62_0 := cb_ Tryz.f62
def c62_3 := cr_ c62_0
def c62_4 := cl_ c62_3
def c62_7 := cr_ c62_4
def c62_8 := cl_ c62_7
def c62_9 := cl_ c62_8
def c62_16 := cr_ c62_9
def c62_17 := cl_ c62_16
def c62_18 := cl_ c62_17
def c62_21 := cr_ c62_18
def c62_31 := cr_ c62_21
def c62_34 := cr_ c62_31
def c62_35 := cl_ c62_34
def c62_36 := cl_ c62_35
def c62_43 := cr_ c62_36
def c62_44 := cl_ c62_43
def c62_45 := cl_ c62_44
def c62_46 := cl_ c62_45
def r62_46 := co_ c62_46
def o_towpathlaw01_Book_lookEntry_46 : List Nat := [0, 1, 2, 3, 4, 5, 6, 7, 8, 9, 10, 11, 12, 13, 14, 15, 16, 17, 18, 19, 20, 21, 22, 23, 24, 25, 26]

theorem S_towpathlaw01_Book_lookEntry {b_ : Option Addr} {w : World} {R : Bool → World → Prop} (h : F_towpathlaw01_Book_lookEntry b_ R w) : C_towpathlaw01_Book_lookEntry b_ w R := by
 unfold F_towpathlaw01_Book_lookEntry at h
 refine Yh Tryz.func62 ?_
 · refine Yp P1 [0] ?_
   refine Ys ?_
   refine Yp P1 [0, 3] ?_
   refine Yd 0 ?_
   obtain ⟨I, μ, h0, hr⟩ := h
   refine Yloop (fun m l w => ∃ (i : Int), l = [(0, Value.pointer b_), (3, Value.int .i64 i)] ∧ I i w ∧ μ i w = m) ⟨0, rfl, h0, rfl⟩ ?_
   rintro _ _ w1 ⟨i, rfl, hI, rfl⟩
   obtain ⟨again_, again__h, h⟩ : ∃ again_ : Int → World → Prop, (∀ i' w', again_ i' w' → I i' w' ∧ μ i' w' < μ i w1) ∧ F_towpathlaw01_Book_lookEntry_L0 b_ R again_ i w1 := ⟨_, fun _ _ h => h, hr i w1 hI⟩
   clear h0 hI
   unfold F_towpathlaw01_Book_lookEntry_L0 at h
   refine Ys ?_
   refine Yt ?_
   refine Yn P2 ?_
   refine Yv 7 h fun hp_31 h => ?_
   refine Yn P1 ?_
   refine Yn P1 ?_
   refine Yl h fun v10 h => ?_
   refine Yf P2 [0, 3, 12] ?_
   refine Yc h (fun h => ?_) fun h => ?_
   · refine Yskip ?_
     refine Ys ?_
     refine Yd 1 ?_
     refine Yt ?_
     refine Yn P1 ?_
     refine Yv 15 h fun hp_46 h => ?_
     refine Yn P1 ?_
     refine Yn P1 ?_
     refine Yl h fun v18 h => ?_
     refine Yn P1 ?_
     obtain ⟨hp_47, h⟩ := h
     refine Yu 18 (fun pp => .slice pp v18.len v18.cap) hp_47 ?_
     refine Yi h fun h => ?_
     refine YL h fun v21 h => ?_
     refine Yw pv_ h fun b_1 w2 h => ?_
     refine Yo h fun w3 h => ?_
     refine Yf [] [0, 3, 4] ?_
     refine Ys ?_
     refine Yt ?_
     refine Yn P1 ?_
     refine Yl h fun v23 h => ?_
     refine Yn P2 ?_
     refine Yl h fun v26 h => ?_
     refine Yf P3 [0, 3, 4, 29] ?_
     refine Yc h (fun h => ?_) fun h => ?_
     · refine Yp P1 [2] ?_
       exact YS ⟨false, rfl, h⟩
     · refine Yskip ?_
       refine Yp P1 [0, 3, 4, 5] ?_
       refine Yd 2 ?_
       obtain ⟨I, μ, h0, hr⟩ := h
       refine Yloop (fun m l w => ∃ (k_ : Int), l = [(0, Value.pointer b_), (3, Value.int .i64 i), (4, pv_ b_1), (5, Value.int .i64 k_)] ∧ I k_ w ∧ μ k_ w = m) ⟨0, rfl, h0, rfl⟩ ?_
       rintro _ _ w4 ⟨k_, rfl, hI, rfl⟩
       obtain ⟨again_1, again_1_h, h⟩ : ∃ again_1 : Int → World → Prop, (∀ k_' w', again_1 k_' w' → I k_' w' ∧ μ k_' w' < μ k_ w4) ∧ F_towpathlaw01_Book_lookEntry_L1 R i again_ b_1 again_1 k_ w4 := ⟨_, fun _ _ h => h, hr k_ w4 hI⟩
       clear h0 hI
       unfold F_towpathlaw01_Book_lookEntry_L1 at h
       refine Ys ?_
       refine Yt ?_
       refine Yn P2 ?_
       refine Yl h fun v32 h => ?_
       refine Yf P2 [0, 3, 4, 5, 34] ?_
       refine Yc h (fun h => ?_) fun h => ?_
       · refine Yskip ?_
         refine Ys ?_
         refine Yd 3 ?_
         refine Ycut (fun l w => ∃ (t63 : Bool), l = [(0, Value.pointer b_), (3, Value.int .i64 i), (4, pv_ b_1), (5, Value.int .i64 k_), (63, Value.bool t63)] ∧ F_towpathlaw01_Book_lookEntry_k2 R k_ again_1 t63 w) ?_ ?_
         · refine wpE_mixregion (id := 10) (ops := r62_46) o_towpathlaw01_Book_lookEntry_46 (by kernel_rfl) (by kernel_rfl) (by kernel_rfl) (by kernel_rfl) (fun w6 hw => ?_)
           replace h := h w6 hw
           clear hw
           refine Mn P1 ?_
           refine Ml 1 h fun v38 hc h => ?_
           refine Mn P1 ?_
           obtain ⟨hp_54, h⟩ := h
           refine Mu 38 (fun pp => .slice pp v38.len v38.cap) hp_54 ?_
           refine Mi 3 h fun h => ?_
           refine ML 4 h fun v41 hc h => ?_
           refine Mn P1 ?_
           refine Ml 6 h fun v43 hc h => ?_
           refine mreg_enter (op := (Op.call (Call.mk (Callee.value (Operand.func 106)) #[(Operand.tmp 41), (Operand.tmp 43)] #[131, 3]))) (ty := 4) (dst := some 44) 7 [4, 6, 3, 5, 1, 2, 0] [] 106 #[Value.agg #[Value.string v41.Key, Value.string v41.Val], Value.int .i64 v43] (by kernel_rfl) (by kernel_rfl) (by kernel_rfl) (by kernel_rfl) (by kernel_rfl) (fun ww => by kernel_rfl) (Calls.mono h ?_)
           rintro _ w7 ⟨v44, rfl, h⟩
           refine ⟨_, rfl, trivial, ?_⟩
           refine Mn P4 ?_
           refine Mspl 46 h (fun h => ?_) fun h => ?_
           · refine Mf [.skip, .skip, .skip, .skip, .skip, .skip, .skip, .skip, .skip, .skip, .skip, .skip, .skip, .skip, .plain] [0, 3, 4, 5, 63] ?_
             exact ⟨_, Sub.mk (by kernel_rfl), true, rfl, h⟩
           · refine Ml 12 h fun v49 hc h => ?_
             refine Mn [.sure, .sure, .sure, .plain] ?_
             refine Mspl 52 h (fun h => ?_) fun h => ?_
             · refine Ml 17 h fun v54 hc h => ?_
               refine Mn [.sure] ?_
               obtain ⟨hp_55, h⟩ := h
               refine Mu 54 (fun pp => .slice pp v54.len v54.cap) hp_55 ?_
               refine Mi 19 h fun h => ?_
               refine ML 20 h fun v57 hc h => ?_
               refine Mn [.sure] ?_
               refine Ml 22 h fun v59 hc h => ?_
               refine mreg_enter (op := (Op.call (Call.mk (Callee.value (Operand.func 106)) #[(Operand.tmp 57), (Operand.tmp 59)] #[131, 3]))) (ty := 4) (dst := some 60) 23 [15, 20, 22, 9, 14, 19, 21, 7, 8, 10, 13, 17, 18, 4, 6, 12, 16, 3, 5, 11, 1, 2, 0] [] 106 #[Value.agg #[Value.string v57.Key, Value.string v57.Val], Value.int .i64 v59] (by kernel_rfl) (by kernel_rfl) (by kernel_rfl) (by kernel_rfl) (by kernel_rfl) (fun ww => by kernel_rfl) (Calls.mono h ?_)
               rintro _ w8 ⟨v60, rfl, h⟩
               refine ⟨_, rfl, trivial, ?_⟩
               refine Mf [.sure, .sure, .plain] [0, 3, 4, 5, 63] ?_
               exact ⟨_, Sub.mk (by kernel_rfl), (!v60), rfl, h⟩
             · refine Mf [.skip, .skip, .skip, .skip, .skip, .skip, .skip, .skip, .sure, .plain] [0, 3, 4, 5, 63] ?_
               exact ⟨_, Sub.mk (by kernel_rfl), false, rfl, h⟩
         · rintro _ w5 ⟨t63, rfl, h⟩
           unfold F_towpathlaw01_Book_lookEntry_k2 at h
           refine Yc h (fun h => ?_) fun h => ?_
           · refine Yp P1 [2] ?_
             exact YS ⟨false, rfl, h⟩
           · refine Yskip ?_
             refine Yr ?_
             refine Yf P3 [0, 3, 4, 5] ?_
             have hb_ := again_1_h _ _ h
             exact ⟨_, hb_.2, _, Sub.mk (by kernel_rfl), (IntKind.i64.wrap (k_ + 1)), rfl, hb_.1, rfl⟩
       · refine Yexit 2 ?_
         refine Yr ?_
         refine Yf P3 [0, 3] ?_
         have hb_ := again__h _ _ h
         exact ⟨_, hb_.2, _, Sub.mk (by kernel_rfl), (IntKind.i64.wrap (i + 1)), rfl, hb_.1, rfl⟩
   · refine Yexit 0 ?_
     refine Yp P1 [2] ?_
     exact YS ⟨true, rfl, h⟩

/-! ### (*towpath/towpathlaw01.Book).lookVersion (function 63) -/
def c63_0 := cb_ Tryz.f63
def c63_3 := cr_ c63_0
def c63_4 := cl_ c63_3
def c63_7 := cr_ c63_4
def c63_8 := cl_ c63_7
def c63_9 := cl_ c63_8
def c63_16 := cr_ c63_9
def c63_17 := cl_ c63_16
def c63_18 := cl_ c63_17
def c63_21 := cr_ c63_18
def c63_31 := cr_ c63_21
def c63_34 := cr_ c63_31
def c63_35 := cl_ c63_34
def c63_36 := cl_ c63_35
def c63_43 := cr_ c63_36
def c63_44 := cl_ c63_43
def c63_45 := cl_ c63_44
def c63_46 := cl_ c63_45
def r63_46 := co_ c63_46

theorem S_towpathlaw01_Book_lookVersion {b_ : Option Addr} {w : World} {R : Bool → World → Prop} (h : F_towpathlaw01_Book_lookVersion b_ R w) : C_towpathlaw01_Book_lookVersion b_ w R := by
 unfold F_towpathlaw01_Book_lookVersion at h
 refine Yh Tryz.func63 ?_
 · refine Yp P1 [0] ?_
   refine Ys ?_
   refine Yp P1 [0, 3] ?_
   refine Yd 0 ?_
   obtain ⟨I, μ, h0, hr⟩ := h
   refine Yloop (fun m l w => ∃ (i : Int), l = [(0, Value.pointer b_), (3, Value.int .i64 i)] ∧ I i w ∧ μ i w = m) ⟨0, rfl, h0, rfl⟩ ?_
   rintro _ _ w1 ⟨i, rfl, hI, rfl⟩
   obtain ⟨again_, again__h, h⟩ : ∃ again_ : Int → World → Prop, (∀ i' w', again_ i' w' → I i' w' ∧ μ i' w' < μ i w1) ∧ F_towpathlaw01_Book_lookVersion_L0 b_ R again_ i w1 := ⟨_, fun _ _ h => h, hr i w1 hI⟩
   clear h0 hI
   unfold F_towpathlaw01_Book_lookVersion_L0 at h
   refine Ys ?_
   refine Yt ?_
   refine Yn P2 ?_
   refine Yv 7 h fun hp_31 h => ?_
   refine Yn P1 ?_
   refine Yn P1 ?_
   refine Yl h fun v10 h => ?_
   refine Yf P2 [0, 3, 12] ?_
   refine Yc h (fun h => ?_) fun h => ?_
   · refine Yskip ?_
     refine Ys ?_
     refine Yd 1 ?_
     refine Yt ?_
     refine Yn P1 ?_
     refine Yv 15 h fun hp_46 h => ?_
     refine Yn P1 ?_
     refine Yn P1 ?_
     refine Yl h fun v18 h => ?_
     refine Yn P1 ?_
     obtain ⟨hp_47, h⟩ := h
     refine Yu 18 (fun pp => .slice pp v18.len v18.cap) hp_47 ?_
     refine Yi h fun h => ?_
     refine YL h fun v21 h => ?_
     refine Yw pv_ h fun b_1 w2 h => ?_
     refine Yo h fun w3 h => ?_
     refine Yf [] [0, 3, 4] ?_
     refine Ys ?_
     refine Yt ?_
     refine Yn P1 ?_
     refine Yl h fun v23 h => ?_
     refine Yn P2 ?_
     refine Yl h fun v26 h => ?_
     refine Yf P3 [0, 3, 4, 29] ?_
     refine Yc h (fun h => ?_) fun h => ?_
     · refine Yp P1 [2] ?_
       exact YS ⟨false, rfl, h⟩
     · refine Yskip ?_
       refine Yp P1 [0, 3, 4, 5] ?_
       refine Yd 2 ?_
       obtain ⟨I, μ, h0, hr⟩ := h
       refine Yloop (fun m l w => ∃ (k_ : Int), l = [(0, Value.pointer b_), (3, Value.int .i64 i), (4, pv_ b_1), (5, Value.int .i64 k_)] ∧ I k_ w ∧ μ k_ w = m) ⟨0, rfl, h0, rfl⟩ ?_
       rintro _ _ w4 ⟨k_, rfl, hI, rfl⟩
       obtain ⟨again_1, again_1_h, h⟩ : ∃ again_1 : Int → World → Prop, (∀ k_' w', again_1 k_' w' → I k_' w' ∧ μ k_' w' < μ k_ w4) ∧ F_towpathlaw01_Book_lookVersion_L1 R i again_ b_1 again_1 k_ w4 := ⟨_, fun _ _ h => h, hr k_ w4 hI⟩
       clear h0 hI
       unfold F_towpathlaw01_Book_lookVersion_L1 at h
       refine Ys ?_
       refine Yt ?_
       refine Yn P2 ?_
       refine Yl h fun v32 h => ?_
       refine Yf P2 [0, 3, 4, 5, 34] ?_
       refine Yc h (fun h => ?_) fun h => ?_
       · refine Yskip ?_
         refine Ys ?_
         refine Yd 3 ?_
         refine Ycut (fun l w => ∃ (t63 : Bool), l = [(0, Value.pointer b_), (3, Value.int .i64 i), (4, pv_ b_1), (5, Value.int .i64 k_), (63, Value.bool t63)] ∧ F_towpathlaw01_Book_lookVersion_k2 R k_ again_1 t63 w) ?_ ?_
         · refine wpE_drawregion (id := 10) (ops := r63_46) (by kernel_rfl) (by kernel_rfl) (by kernel_rfl) ?_
           refine Qn P1 ?_
           refine Ql h fun v38 h => ?_
           refine Qn P1 ?_
           obtain ⟨hp_54, h⟩ := h
           refine Qu 38 (fun pp => .slice pp v38.len v38.cap) hp_54 ?_
           refine Qi h fun h => ?_
           refine QL h fun v41 h => ?_
           refine Qn P1 ?_
           refine Ql h fun v43 h => ?_
           obtain ⟨v44, hq, h⟩ := h
           refine qreg_enter (op := (Op.call (Call.mk (Callee.value (Operand.func 107)) #[(Operand.tmp 41), (Operand.tmp 43)] #[128, 3]))) (ty := 4) (dst := some 44) 107 #[Value.agg #[Value.int .i64 v41.Number, Value.string v41.Val, Value.bool v41.Drop], Value.int .i64 v43] (Value.bool v44) (by kernel_rfl) (fun ww => by kernel_rfl) (fun w' he => Calls.mono (hq w' he) (by rintro _ w'' ⟨_, rfl, rfl, hE⟩; exact ⟨rfl, hE⟩)) ?_
           clear hq
           refine Qn P4 ?_
           refine Qspl 46 h (fun h => ?_) fun h => ?_
           · refine Qf [.skip, .skip, .skip, .skip, .skip, .skip, .skip, .skip, .skip, .skip, .skip, .skip, .skip, .skip, .plain] [0, 3, 4, 5, 63] h fun w7 h => ?_
             exact ⟨_, Sub.mk (by kernel_rfl), true, rfl, h⟩
           · refine Ql h fun v49 h => ?_
             refine Qn [.sure, .sure, .sure, .plain] ?_
             refine Qspl 52 h (fun h => ?_) fun h => ?_
             · refine Ql h fun v54 h => ?_
               refine Qn [.sure] ?_
               obtain ⟨hp_55, h⟩ := h
               refine Qu 54 (fun pp => .slice pp v54.len v54.cap) hp_55 ?_
               refine Qi h fun h => ?_
               refine QL h fun v57 h => ?_
               refine Qn [.sure] ?_
               refine Ql h fun v59 h => ?_
               obtain ⟨v60, hq, h⟩ := h
               refine qreg_enter (op := (Op.call (Call.mk (Callee.value (Operand.func 107)) #[(Operand.tmp 57), (Operand.tmp 59)] #[128, 3]))) (ty := 4) (dst := some 60) 107 #[Value.agg #[Value.int .i64 v57.Number, Value.string v57.Val, Value.bool v57.Drop], Value.int .i64 v59] (Value.bool v60) (by kernel_rfl) (fun ww => by kernel_rfl) (fun w' he => Calls.mono (hq w' he) (by rintro _ w'' ⟨_, rfl, rfl, hE⟩; exact ⟨rfl, hE⟩)) ?_
               clear hq
               refine Qf [.sure, .sure, .plain] [0, 3, 4, 5, 63] h fun w9 h => ?_
               exact ⟨_, Sub.mk (by kernel_rfl), (!v60), rfl, h⟩
             · refine Qf [.skip, .skip, .skip, .skip, .skip, .skip, .skip, .skip, .sure, .plain] [0, 3, 4, 5, 63] h fun w10 h => ?_
               exact ⟨_, Sub.mk (by kernel_rfl), false, rfl, h⟩
         · rintro _ w5 ⟨t63, rfl, h⟩
           unfold F_towpathlaw01_Book_lookVersion_k2 at h
           refine Yc h (fun h => ?_) fun h => ?_
           · refine Yp P1 [2] ?_
             exact YS ⟨false, rfl, h⟩
           · refine Yskip ?_
             refine Yr ?_
             refine Yf P3 [0, 3, 4, 5] ?_
             have hb_ := again_1_h _ _ h
             exact ⟨_, hb_.2, _, Sub.mk (by kernel_rfl), (IntKind.i64.wrap (k_ + 1)), rfl, hb_.1, rfl⟩
       · refine Yexit 2 ?_
         refine Yr ?_
         refine Yf P3 [0, 3] ?_
         have hb_ := again__h _ _ h
         exact ⟨_, hb_.2, _, Sub.mk (by kernel_rfl), (IntKind.i64.wrap (i + 1)), rfl, hb_.1, rfl⟩
   · refine Yexit 0 ?_
     refine Yp P1 [2] ?_
     exact YS ⟨true, rfl, h⟩
end
end Go.Proofs.YtpedclhflmhakaaGreatDoor
