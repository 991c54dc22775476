/- WRITTEN BY PROGRAM (dec.py): for each Go function the clean formula F, the call's contract C, and the proof S that F gives C. -/
import Derived.Test.YtpdegdnigcnjiaaGreatDoorRows
import Derived.Test.YtpdegdnigcnjiaaGreatDoorGF
namespace Go.Proofs.YtpdegdnigcnjiaaGreatDoor
open Go
set_option linter.unusedVariables false
set_option maxRecDepth 100000
set_option maxHeartbeats 4000000
noncomputable section

/-! ### (*towpath/towpathlaw01.Book).growEvent (function 70) -/

theorem S_towpathlaw01_Book_growEvent {b_ : Option Addr} {w : World} {R : World → Prop} (h : F_towpathlaw01_Book_growEvent b_ R w) : C_towpathlaw01_Book_growEvent b_ w R := by
 unfold F_towpathlaw01_Book_growEvent at h
 refine Yh Tryz.func70 ?_
 · refine Yp P1 [0, 2] ?_
   refine Yd 0 ?_
   obtain ⟨I, μ, h0, hr⟩ := h
   refine Yloop (fun m l w => ∃ (i : Int), l = [(0, Value.pointer b_), (2, Value.int .i64 i)] ∧ I i w ∧ μ i w = m) ⟨0, rfl, h0, rfl⟩ ?_
   rintro _ _ w1 ⟨i, rfl, hI, rfl⟩
   obtain ⟨again_, again__h, h⟩ : ∃ again_ : Int → World → Prop, (∀ i' w', again_ i' w' → I i' w' ∧ μ i' w' < μ i w1) ∧ F_towpathlaw01_Book_growEvent_L0 b_ R again_ i w1 := ⟨_, fun _ _ h => h, hr i w1 hI⟩
   clear h0 hI
   unfold F_towpathlaw01_Book_growEvent_L0 at h
   refine Ys ?_
   refine Yt ?_
   refine Yn P2 ?_
   refine Yv 7 h fun hp_3 h => ?_
   refine Yn P1 ?_
   refine Yn P1 ?_
   refine Yl h fun v10 h => ?_
   refine Yf P2 [0, 2, 12] ?_
   refine Yc h (fun h => ?_) fun h => ?_
   · exact h.elim
   · refine Yexit 0 ?_
     repeat (first | refine seqQ_exit ?_ | refine loopQ_exit ?_ | refine cutQ_exit ?_ | refine blockQ_hit ?_ | refine blockQ_miss (by kernel_rfl) ?_)
     refine retQ_normal ?_
     repeat (first | refine seqQ_ret ?_ | refine blockQ_ret ?_ | refine loopQ_ret ?_ | refine cutQ_ret ?_)
     exact retT (rs := []) (vs := []) (by kernel_rfl) (trivial) (by kernel_rfl) ⟨rfl, h⟩

/-! ### (*towpath/towpathlaw01.Book).growAnswer (function 71) -/

theorem S_towpathlaw01_Book_growAnswer {b_ : Option Addr} {w : World} {R : World → Prop} (h : F_towpathlaw01_Book_growAnswer b_ R w) : C_towpathlaw01_Book_growAnswer b_ w R := by
 unfold F_towpathlaw01_Book_growAnswer at h
 refine Yh Tryz.func71 ?_
 · refine Yp P1 [0, 2] ?_
   refine Yd 0 ?_
   obtain ⟨I, μ, h0, hr⟩ := h
   refine Yloop (fun m l w => ∃ (i : Int), l = [(0, Value.pointer b_), (2, Value.int .i64 i)] ∧ I i w ∧ μ i w = m) ⟨0, rfl, h0, rfl⟩ ?_
   rintro _ _ w1 ⟨i, rfl, hI, rfl⟩
   obtain ⟨again_, again__h, h⟩ : ∃ again_ : Int → World → Prop, (∀ i' w', again_ i' w' → I i' w' ∧ μ i' w' < μ i w1) ∧ F_towpathlaw01_Book_growAnswer_L0 b_ R again_ i w1 := ⟨_, fun _ _ h => h, hr i w1 hI⟩
   clear h0 hI
   unfold F_towpathlaw01_Book_growAnswer_L0 at h
   refine Ys ?_
   refine Yt ?_
   refine Yn P2 ?_
   refine Yv 7 h fun hp_3 h => ?_
   refine Yn P1 ?_
   refine Yn P1 ?_
   refine Yl h fun v10 h => ?_
   refine Yf P2 [0, 2, 12] ?_
   refine Yc h (fun h => ?_) fun h => ?_
   · exact h.elim
   · refine Yexit 0 ?_
     repeat (first | refine seqQ_exit ?_ | refine loopQ_exit ?_ | refine cutQ_exit ?_ | refine blockQ_hit ?_ | refine blockQ_miss (by kernel_rfl) ?_)
     refine retQ_normal ?_
     repeat (first | refine seqQ_ret ?_ | refine blockQ_ret ?_ | refine loopQ_ret ?_ | refine cutQ_ret ?_)
     exact retT (rs := []) (vs := []) (by kernel_rfl) (trivial) (by kernel_rfl) ⟨rfl, h⟩

/-! ### (*towpath/towpathlaw01.Book).lookByte (function 72) -/

theorem S_towpathlaw01_Book_lookByte {b_ : Option Addr} {w : World} {R : Bool → World → Prop} (h : F_towpathlaw01_Book_lookByte b_ R w) : C_towpathlaw01_Book_lookByte b_ w R := by
 unfold F_towpathlaw01_Book_lookByte at h
 refine Yh Tryz.func72 ?_
 · refine Yp P1 [0] ?_
   refine Ys ?_
   refine Yp P1 [0, 3] ?_
   refine Yd 0 ?_
   obtain ⟨I, μ, h0, hr⟩ := h
   refine Yloop (fun m l w => ∃ (i : Int), l = [(0, Value.pointer b_), (3, Value.int .i64 i)] ∧ I i w ∧ μ i w = m) ⟨0, rfl, h0, rfl⟩ ?_
   rintro _ _ w1 ⟨i, rfl, hI, rfl⟩
   obtain ⟨again_, again__h, h⟩ : ∃ again_ : Int → World → Prop, (∀ i' w', again_ i' w' → I i' w' ∧ μ i' w' < μ i w1) ∧ F_towpathlaw01_Book_lookByte_L0 b_ R again_ i w1 := ⟨_, fun _ _ h => h, hr i w1 hI⟩
   clear h0 hI
   unfold F_towpathlaw01_Book_lookByte_L0 at h
   refine Ys ?_
   refine Yt ?_
   refine Yn P2 ?_
   refine Yv 7 h fun hp_7 h => ?_
   refine Yn P1 ?_
   refine Yn P1 ?_
   refine Yl h fun v10 h => ?_
   refine Yf P2 [0, 3, 12] ?_
   refine Yc h (fun h => ?_) fun h => ?_
   · exact h.elim
   · refine Yexit 0 ?_
     refine Yp P1 [2] ?_
     exact YS ⟨true, rfl, h⟩

/-! ### (*towpath/towpathlaw01.Book).lookInt (function 73) -/
def c73_0 := cb_ Tryz.f73
def c73_3 := cr_ c73_0
def c73_4 := cl_ c73_3
def c73_7 := cr_ c73_4
def c73_8 := cl_ c73_7
def c73_9 := cl_ c73_8
def c73_16 := cr_ c73_9
def c73_17 := cl_ c73_16
def c73_18 := cl_ c73_17
def c73_21 := cr_ c73_18
def c73_31 := cr_ c73_21
def c73_34 := cr_ c73_31
def c73_35 := cl_ c73_34
def c73_36 := cl_ c73_35
def c73_43 := cr_ c73_36
def c73_44 := cl_ c73_43
def c73_45 := cl_ c73_44
def c73_46 := cl_ c73_45
def r73_46 := co_ c73_46

theorem S_towpathlaw01_Book_lookInt {b_ : Option Addr} {w : World} {R : Bool → World → Prop} (h : F_towpathlaw01_Book_lookInt b_ R w) : C_towpathlaw01_Book_lookInt b_ w R := by
 unfold F_towpathlaw01_Book_lookInt at h
 refine Yh Tryz.func73 ?_
 · refine Yp P1 [0] ?_
   refine Ys ?_
   refine Yp P1 [0, 3] ?_
   refine Yd 0 ?_
   obtain ⟨I, μ, h0, hr⟩ := h
   refine Yloop (fun m l w => ∃ (i : Int), l = [(0, Value.pointer b_), (3, Value.int .i64 i)] ∧ I i w ∧ μ i w = m) ⟨0, rfl, h0, rfl⟩ ?_
   rintro _ _ w1 ⟨i, rfl, hI, rfl⟩
   obtain ⟨again_, again__h, h⟩ : ∃ again_ : Int → World → Prop, (∀ i' w', again_ i' w' → I i' w' ∧ μ i' w' < μ i w1) ∧ F_towpathlaw01_Book_lookInt_L0 b_ R again_ i w1 := ⟨_, fun _ _ h => h, hr i w1 hI⟩
   clear h0 hI
   unfold F_towpathlaw01_Book_lookInt_L0 at h
   refine Ys ?_
   refine Yt ?_
   refine Yn P2 ?_
   refine Yv 7 h fun hp_31 h => ?_
   refine Yn P1 ?_
   refine Yn P1 ?_
   refine Yl h fun v10 h => ?_
   refine Yf P2 [0, 3, 12] ?_
   refine Yc h (fun h => ?_) fun h => ?_
   · refine Yskip ?_
     refine Ys ?_
     refine Yd 1 ?_
     refine Yt ?_
     refine Yn P1 ?_
     refine Yv 15 h fun hp_46 h => ?_
     refine Yn P1 ?_
     refine Yn P1 ?_
     refine Yl h fun v18 h => ?_
     refine Yn P1 ?_
     obtain ⟨hp_47, h⟩ := h
     refine Yu 18 (fun pp => .slice pp v18.len v18.cap) hp_47 ?_
     refine Yi h fun h => ?_
     refine YL h fun v21 h => ?_
     refine Yw pv_ h fun b_1 w2 h => ?_
     refine Yo h fun w3 h => ?_
     refine Yf [] [0, 3, 4] ?_
     refine Ys ?_
     refine Yt ?_
     refine Yn P1 ?_
     refine Yl h fun v23 h => ?_
     refine Yn P2 ?_
     refine Yl h fun v26 h => ?_
     refine Yf P3 [0, 3, 4, 29] ?_
     refine Yc h (fun h => ?_) fun h => ?_
     · refine Yp P1 [2] ?_
       exact YS ⟨false, rfl, h⟩
     · refine Yskip ?_
       refine Yp P1 [0, 3, 4, 5] ?_
       refine Yd 2 ?_
       obtain ⟨I, μ, h0, hr⟩ := h
       refine Yloop (fun m l w => ∃ (k_ : Int), l = [(0, Value.pointer b_), (3, Value.int .i64 i), (4, pv_ b_1), (5, Value.int .i64 k_)] ∧ I k_ w ∧ μ k_ w = m) ⟨0, rfl, h0, rfl⟩ ?_
       rintro _ _ w4 ⟨k_, rfl, hI, rfl⟩
       obtain ⟨again_1, again_1_h, h⟩ : ∃ again_1 : Int → World → Prop, (∀ k_' w', again_1 k_' w' → I k_' w' ∧ μ k_' w' < μ k_ w4) ∧ F_towpathlaw01_Book_lookInt_L1 R i again_ b_1 again_1 k_ w4 := ⟨_, fun _ _ h => h, hr k_ w4 hI⟩
       clear h0 hI
       unfold F_towpathlaw01_Book_lookInt_L1 at h
       refine Ys ?_
       refine Yt ?_
       refine Yn P2 ?_
       refine Yl h fun v32 h => ?_
       refine Yf P2 [0, 3, 4, 5, 34] ?_
       refine Yc h (fun h => ?_) fun h => ?_
       · refine Yskip ?_
         refine Ys ?_
         refine Yd 3 ?_
         refine Ycut (fun l w => ∃ (t63 : Bool), l = [(0, Value.pointer b_), (3, Value.int .i64 i), (4, pv_ b_1), (5, Value.int .i64 k_), (63, Value.bool t63)] ∧ F_towpathlaw01_Book_lookInt_k2 R k_ again_1 t63 w) ?_ ?_
         · refine wpE_drawregion (id := 10) (ops := r73_46) (by kernel_rfl) (by kernel_rfl) (by kernel_rfl) ?_
           refine Qn P1 ?_
           refine Ql h fun v38 h => ?_
           refine Qn P1 ?_
           obtain ⟨hp_54, h⟩ := h
           refine Qu 38 (fun pp => .slice pp v38.len v38.cap) hp_54 ?_
           refine Qi1 h fun h => ?_
           refine Ql h fun v41 h => ?_
           refine Qn P1 ?_
           refine Ql h fun v43 h => ?_
           obtain ⟨v44, hq, h⟩ := h
           refine qreg_enter (op := (Op.call (Call.mk (Callee.value (Operand.func 137)) #[(Operand.tmp 41), (Operand.tmp 43)] #[3, 3]))) (ty := 4) (dst := some 44) 137 #[Value.int .i64 v41, Value.int .i64 v43] (Value.bool v44) (by kernel_rfl) (fun ww => by kernel_rfl) (fun w' he => Calls.mono (hq w' he) (by rintro _ w'' ⟨_, rfl, rfl, hE⟩; exact ⟨rfl, hE⟩)) ?_
           clear hq
           refine Qn P4 ?_
           refine Qspl 46 h (fun h => ?_) fun h => ?_
           · refine Qf [.skip, .skip, .skip, .skip, .skip, .skip, .skip, .skip, .skip, .skip, .skip, .skip, .skip, .skip, .plain] [0, 3, 4, 5, 63] h fun w7 h => ?_
             exact ⟨_, Sub.mk (by kernel_rfl), true, rfl, h⟩
           · refine Ql h fun v49 h => ?_
             refine Qn [.sure, .sure, .sure, .plain] ?_
             refine Qspl 52 h (fun h => ?_) fun h => ?_
             · refine Ql h fun v54 h => ?_
               refine Qn [.sure] ?_
               obtain ⟨hp_55, h⟩ := h
               refine Qu 54 (fun pp => .slice pp v54.len v54.cap) hp_55 ?_
               refine Qi1 h fun h => ?_
               refine Ql h fun v57 h => ?_
               refine Qn [.sure] ?_
               refine Ql h fun v59 h => ?_
               obtain ⟨v60, hq, h⟩ := h
               refine qreg_enter (op := (Op.call (Call.mk (Callee.value (Operand.func 137)) #[(Operand.tmp 57), (Operand.tmp 59)] #[3, 3]))) (ty := 4) (dst := some 60) 137 #[Value.int .i64 v57, Value.int .i64 v59] (Value.bool v60) (by kernel_rfl) (fun ww => by kernel_rfl) (fun w' he => Calls.mono (hq w' he) (by rintro _ w'' ⟨_, rfl, rfl, hE⟩; exact ⟨rfl, hE⟩)) ?_
               clear hq
               refine Qf [.sure, .sure, .plain] [0, 3, 4, 5, 63] h fun w9 h => ?_
               exact ⟨_, Sub.mk (by kernel_rfl), (!v60), rfl, h⟩
             · refine Qf [.skip, .skip, .skip, .skip, .skip, .skip, .skip, .skip, .sure, .plain] [0, 3, 4, 5, 63] h fun w10 h => ?_
               exact ⟨_, Sub.mk (by kernel_rfl), false, rfl, h⟩
         · rintro _ w5 ⟨t63, rfl, h⟩
           unfold F_towpathlaw01_Book_lookInt_k2 at h
           refine Yc h (fun h => ?_) fun h => ?_
           · refine Yp P1 [2] ?_
             exact YS ⟨false, rfl, h⟩
           · refine Yskip ?_
             refine Yr ?_
             refine Yf P3 [0, 3, 4, 5] ?_
             have hb_ := again_1_h _ _ h
             exact ⟨_, hb_.2, _, Sub.mk (by kernel_rfl), (IntKind.i64.wrap (k_ + 1)), rfl, hb_.1, rfl⟩
       · refine Yexit 2 ?_
         refine Yr ?_
         refine Yf P3 [0, 3] ?_
         have hb_ := again__h _ _ h
         exact ⟨_, hb_.2, _, Sub.mk (by kernel_rfl), (IntKind.i64.wrap (i + 1)), rfl, hb_.1, rfl⟩
   · refine Yexit 0 ?_
     refine Yp P1 [2] ?_
     exact YS ⟨true, rfl, h⟩

/-! ### (*towpath/towpathlaw01.Book).lookText (function 74) -/

theorem S_towpathlaw01_Book_lookText {b_ : Option Addr} {w : World} {R : Bool → World → Prop} (h : F_towpathlaw01_Book_lookText b_ R w) : C_towpathlaw01_Book_lookText b_ w R := by
 unfold F_towpathlaw01_Book_lookText at h
 refine Yh Tryz.func74 ?_
 · refine Yp P1 [0] ?_
   refine Ys ?_
   refine Yp P1 [0, 3] ?_
   refine Yd 0 ?_
   obtain ⟨I, μ, h0, hr⟩ := h
   refine Yloop (fun m l w => ∃ (i : Int), l = [(0, Value.pointer b_), (3, Value.int .i64 i)] ∧ I i w ∧ μ i w = m) ⟨0, rfl, h0, rfl⟩ ?_
   rintro _ _ w1 ⟨i, rfl, hI, rfl⟩
   obtain ⟨again_, again__h, h⟩ : ∃ again_ : Int → World → Prop, (∀ i' w', again_ i' w' → I i' w' ∧ μ i' w' < μ i w1) ∧ F_towpathlaw01_Book_lookText_L0 b_ R again_ i w1 := ⟨_, fun _ _ h => h, hr i w1 hI⟩
   clear h0 hI
   unfold F_towpathlaw01_Book_lookText_L0 at h
   refine Ys ?_
   refine Yt ?_
   refine Yn P2 ?_
   refine Yv 7 h fun hp_7 h => ?_
   refine Yn P1 ?_
   refine Yn P1 ?_
   refine Yl h fun v10 h => ?_
   refine Yf P2 [0, 3, 12] ?_
   refine Yc h (fun h => ?_) fun h => ?_
   · exact h.elim
   · refine Yexit 0 ?_
     refine Yp P1 [2] ?_
     exact YS ⟨true, rfl, h⟩

/-! ### (*towpath/towpathlaw01.Book).lookWrite (function 75) -/

theorem S_towpathlaw01_Book_lookWrite {b_ : Option Addr} {w : World} {R : Bool → World → Prop} (h : F_towpathlaw01_Book_lookWrite b_ R w) : C_towpathlaw01_Book_lookWrite b_ w R := by
 unfold F_towpathlaw01_Book_lookWrite at h
 refine Yh Tryz.func75 ?_
 · refine Yp P1 [0] ?_
   refine Ys ?_
   refine Yp P1 [0, 3] ?_
   refine Yd 0 ?_
   obtain ⟨I, μ, h0, hr⟩ := h
   refine Yloop (fun m l w => ∃ (i : Int), l = [(0, Value.pointer b_), (3, Value.int .i64 i)] ∧ I i w ∧ μ i w = m) ⟨0, rfl, h0, rfl⟩ ?_
   rintro _ _ w1 ⟨i, rfl, hI, rfl⟩
   obtain ⟨again_, again__h, h⟩ : ∃ again_ : Int → World → Prop, (∀ i' w', again_ i' w' → I i' w' ∧ μ i' w' < μ i w1) ∧ F_towpathlaw01_Book_lookWrite_L0 b_ R again_ i w1 := ⟨_, fun _ _ h => h, hr i w1 hI⟩
   clear h0 hI
   unfold F_towpathlaw01_Book_lookWrite_L0 at h
   refine Ys ?_
   refine Yt ?_
   refine Yn P2 ?_
   refine Yv 7 h fun hp_7 h => ?_
   refine Yn P1 ?_
   refine Yn P1 ?_
   refine Yl h fun v10 h => ?_
   refine Yf P2 [0, 3, 12] ?_
   refine Yc h (fun h => ?_) fun h => ?_
   · exact h.elim
   · refine Yexit 0 ?_
     refine Yp P1 [2] ?_
     exact YS ⟨true, rfl, h⟩

/-! ### (*towpath/towpathlaw01.Book).lookEntry (function 76) -/

theorem S_towpathlaw01_Book_lookEntry {b_ : Option Addr} {w : World} {R : Bool → World → Prop} (h : F_towpathlaw01_Book_lookEntry b_ R w) : C_towpathlaw01_Book_lookEntry b_ w R := by
 unfold F_towpathlaw01_Book_lookEntry at h
 refine Yh Tryz.func76 ?_
 · refine Yp P1 [0] ?_
   refine Ys ?_
   refine Yp P1 [0, 3] ?_
   refine Yd 0 ?_
   obtain ⟨I, μ, h0, hr⟩ := h
   refine Yloop (fun m l w => ∃ (i : Int), l = [(0, Value.pointer b_), (3, Value.int .i64 i)] ∧ I i w ∧ μ i w = m) ⟨0, rfl, h0, rfl⟩ ?_
   rintro _ _ w1 ⟨i, rfl, hI, rfl⟩
   obtain ⟨again_, again__h, h⟩ : ∃ again_ : Int → World → Prop, (∀ i' w', again_ i' w' → I i' w' ∧ μ i' w' < μ i w1) ∧ F_towpathlaw01_Book_lookEntry_L0 b_ R again_ i w1 := ⟨_, fun _ _ h => h, hr i w1 hI⟩
   clear h0 hI
   unfold F_towpathlaw01_Book_lookEntry_L0 at h
   refine Ys ?_
   refine Yt ?_
   refine Yn P2 ?_
   refine Yv 7 h fun hp_7 h => ?_
   refine Yn P1 ?_
   refine Yn P1 ?_
   refine Yl h fun v10 h => ?_
   refine Yf P2 [0, 3, 12] ?_
   refine Yc h (fun h => ?_) fun h => ?_
   · exact h.elim
   · refine Yexit 0 ?_
     refine Yp P1 [2] ?_
     exact YS ⟨true, rfl, h⟩

/-! ### (*towpath/towpathlaw01.Book).lookVersion (function 77) -/
def c77_0 := cb_ Tryz.f77
def c77_3 := cr_ c77_0
def c77_4 := cl_ c77_3
def c77_7 := cr_ c77_4
def c77_8 := cl_ c77_7
def c77_9 := cl_ c77_8
def c77_16 := cr_ c77_9
def c77_17 := cl_ c77_16
def c77_18 := cl_ c77_17
def c77_21 := cr_ c77_18
def c77_31 := cr_ c77_21
def c77_34 := cr_ c77_31
def c77_35 := cl_ c77_34
def c77_36 := cl_ c77_35
def c77_43 := cr_ c77_36
def c77_44 := cl_ c77_43
def c77_45 := cl_ c77_44
def c77_46 := cl_ c77_45
def r77_46 := co_ c77_46

theorem S_towpathlaw01_Book_lookVersion {b_ : Option Addr} {w : World} {R : Bool → World → Prop} (h : F_towpathlaw01_Book_lookVersion b_ R w) : C_towpathlaw01_Book_lookVersion b_ w R := by
 unfold F_towpathlaw01_Book_lookVersion at h
 refine Yh Tryz.func77 ?_
 · refine Yp P1 [0] ?_
   refine Ys ?_
   refine Yp P1 [0, 3] ?_
   refine Yd 0 ?_
   obtain ⟨I, μ, h0, hr⟩ := h
   refine Yloop (fun m l w => ∃ (i : Int), l = [(0, Value.pointer b_), (3, Value.int .i64 i)] ∧ I i w ∧ μ i w = m) ⟨0, rfl, h0, rfl⟩ ?_
   rintro _ _ w1 ⟨i, rfl, hI, rfl⟩
   obtain ⟨again_, again__h, h⟩ : ∃ again_ : Int → World → Prop, (∀ i' w', again_ i' w' → I i' w' ∧ μ i' w' < μ i w1) ∧ F_towpathlaw01_Book_lookVersion_L0 b_ R again_ i w1 := ⟨_, fun _ _ h => h, hr i w1 hI⟩
   clear h0 hI
   unfold F_towpathlaw01_Book_lookVersion_L0 at h
   refine Ys ?_
   refine Yt ?_
   refine Yn P2 ?_
   refine Yv 7 h fun hp_31 h => ?_
   refine Yn P1 ?_
   refine Yn P1 ?_
   refine Yl h fun v10 h => ?_
   refine Yf P2 [0, 3, 12] ?_
   refine Yc h (fun h => ?_) fun h => ?_
   · refine Yskip ?_
     refine Ys ?_
     refine Yd 1 ?_
     refine Yt ?_
     refine Yn P1 ?_
     refine Yv 15 h fun hp_46 h => ?_
     refine Yn P1 ?_
     refine Yn P1 ?_
     refine Yl h fun v18 h => ?_
     refine Yn P1 ?_
     obtain ⟨hp_47, h⟩ := h
     refine Yu 18 (fun pp => .slice pp v18.len v18.cap) hp_47 ?_
     refine Yi h fun h => ?_
     refine YL h fun v21 h => ?_
     refine Yw pv_ h fun b_1 w2 h => ?_
     refine Yo h fun w3 h => ?_
     refine Yf [] [0, 3, 4] ?_
     refine Ys ?_
     refine Yt ?_
     refine Yn P1 ?_
     refine Yl h fun v23 h => ?_
     refine Yn P2 ?_
     refine Yl h fun v26 h => ?_
     refine Yf P3 [0, 3, 4, 29] ?_
     refine Yc h (fun h => ?_) fun h => ?_
     · refine Yp P1 [2] ?_
       exact YS ⟨false, rfl, h⟩
     · refine Yskip ?_
       refine Yp P1 [0, 3, 4, 5] ?_
       refine Yd 2 ?_
       obtain ⟨I, μ, h0, hr⟩ := h
       refine Yloop (fun m l w => ∃ (k_ : Int), l = [(0, Value.pointer b_), (3, Value.int .i64 i), (4, pv_ b_1), (5, Value.int .i64 k_)] ∧ I k_ w ∧ μ k_ w = m) ⟨0, rfl, h0, rfl⟩ ?_
       rintro _ _ w4 ⟨k_, rfl, hI, rfl⟩
       obtain ⟨again_1, again_1_h, h⟩ : ∃ again_1 : Int → World → Prop, (∀ k_' w', again_1 k_' w' → I k_' w' ∧ μ k_' w' < μ k_ w4) ∧ F_towpathlaw01_Book_lookVersion_L1 R i again_ b_1 again_1 k_ w4 := ⟨_, fun _ _ h => h, hr k_ w4 hI⟩
       clear h0 hI
       unfold F_towpathlaw01_Book_lookVersion_L1 at h
       refine Ys ?_
       refine Yt ?_
       refine Yn P2 ?_
       refine Yl h fun v32 h => ?_
       refine Yf P2 [0, 3, 4, 5, 34] ?_
       refine Yc h (fun h => ?_) fun h => ?_
       · refine Yskip ?_
         refine Ys ?_
         refine Yd 3 ?_
         refine Ycut (fun l w => ∃ (t63 : Bool), l = [(0, Value.pointer b_), (3, Value.int .i64 i), (4, pv_ b_1), (5, Value.int .i64 k_), (63, Value.bool t63)] ∧ F_towpathlaw01_Book_lookVersion_k2 R k_ again_1 t63 w) ?_ ?_
         · refine wpE_drawregion (id := 10) (ops := r77_46) (by kernel_rfl) (by kernel_rfl) (by kernel_rfl) ?_
           refine Qn P1 ?_
           refine Ql h fun v38 h => ?_
           refine Qn P1 ?_
           obtain ⟨hp_54, h⟩ := h
           refine Qu 38 (fun pp => .slice pp v38.len v38.cap) hp_54 ?_
           refine Qi h fun h => ?_
           refine QL h fun v41 h => ?_
           refine Qn P1 ?_
           refine Ql h fun v43 h => ?_
           obtain ⟨v44, hq, h⟩ := h
           refine qreg_enter (op := (Op.call (Call.mk (Callee.value (Operand.func 141)) #[(Operand.tmp 41), (Operand.tmp 43)] #[109, 3]))) (ty := 4) (dst := some 44) 141 #[Value.agg #[Value.int .i64 v41.Number, Value.string v41.Val, Value.bool v41.Drop], Value.int .i64 v43] (Value.bool v44) (by kernel_rfl) (fun ww => by kernel_rfl) (fun w' he => Calls.mono (hq w' he) (by rintro _ w'' ⟨_, rfl, rfl, hE⟩; exact ⟨rfl, hE⟩)) ?_
           clear hq
           refine Qn P4 ?_
           refine Qspl 46 h (fun h => ?_) fun h => ?_
           · refine Qf [.skip, .skip, .skip, .skip, .skip, .skip, .skip, .skip, .skip, .skip, .skip, .skip, .skip, .skip, .plain] [0, 3, 4, 5, 63] h fun w7 h => ?_
             exact ⟨_, Sub.mk (by kernel_rfl), true, rfl, h⟩
           · refine Ql h fun v49 h => ?_
             refine Qn [.sure, .sure, .sure, .plain] ?_
             refine Qspl 52 h (fun h => ?_) fun h => ?_
             · refine Ql h fun v54 h => ?_
               refine Qn [.sure] ?_
               obtain ⟨hp_55, h⟩ := h
               refine Qu 54 (fun pp => .slice pp v54.len v54.cap) hp_55 ?_
               refine Qi h fun h => ?_
               refine QL h fun v57 h => ?_
               refine Qn [.sure] ?_
               refine Ql h fun v59 h => ?_
               obtain ⟨v60, hq, h⟩ := h
               refine qreg_enter (op := (Op.call (Call.mk (Callee.value (Operand.func 141)) #[(Operand.tmp 57), (Operand.tmp 59)] #[109, 3]))) (ty := 4) (dst := some 60) 141 #[Value.agg #[Value.int .i64 v57.Number, Value.string v57.Val, Value.bool v57.Drop], Value.int .i64 v59] (Value.bool v60) (by kernel_rfl) (fun ww => by kernel_rfl) (fun w' he => Calls.mono (hq w' he) (by rintro _ w'' ⟨_, rfl, rfl, hE⟩; exact ⟨rfl, hE⟩)) ?_
               clear hq
               refine Qf [.sure, .sure, .plain] [0, 3, 4, 5, 63] h fun w9 h => ?_
               exact ⟨_, Sub.mk (by kernel_rfl), (!v60), rfl, h⟩
             · refine Qf [.skip, .skip, .skip, .skip, .skip, .skip, .skip, .skip, .sure, .plain] [0, 3, 4, 5, 63] h fun w10 h => ?_
               exact ⟨_, Sub.mk (by kernel_rfl), false, rfl, h⟩
         · rintro _ w5 ⟨t63, rfl, h⟩
           unfold F_towpathlaw01_Book_lookVersion_k2 at h
           refine Yc h (fun h => ?_) fun h => ?_
           · refine Yp P1 [2] ?_
             exact YS ⟨false, rfl, h⟩
           · refine Yskip ?_
             refine Yr ?_
             refine Yf P3 [0, 3, 4, 5] ?_
             have hb_ := again_1_h _ _ h
             exact ⟨_, hb_.2, _, Sub.mk (by kernel_rfl), (IntKind.i64.wrap (k_ + 1)), rfl, hb_.1, rfl⟩
       · refine Yexit 2 ?_
         refine Yr ?_
         refine Yf P3 [0, 3] ?_
         have hb_ := again__h _ _ h
         exact ⟨_, hb_.2, _, Sub.mk (by kernel_rfl), (IntKind.i64.wrap (i + 1)), rfl, hb_.1, rfl⟩
   · refine Yexit 0 ?_
     refine Yp P1 [2] ?_
     exact YS ⟨true, rfl, h⟩
end
end Go.Proofs.YtpdegdnigcnjiaaGreatDoor
