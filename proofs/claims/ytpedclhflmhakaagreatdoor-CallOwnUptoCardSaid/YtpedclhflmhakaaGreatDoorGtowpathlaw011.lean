/- WRITTEN BY PROGRAM (dec.py): for each Go function the clean formula F, the call's contract C, and the proof S that F gives C. -/
import Derived.Test.YtpedclhflmhakaaGreatDoorRows
import Derived.Test.YtpedclhflmhakaaGreatDoorGF
namespace Go.Proofs.YtpedclhflmhakaaGreatDoor
open Go
set_option linter.unusedVariables false
set_option maxRecDepth 100000
set_option maxHeartbeats 4000000
noncomputable section

/-! ### (*towpath/towpathlaw01.Book).fillVersion (function 41) -/
def c41_0 := cb_ Tryz.f41
def c41_3 := cr_ c41_0
def c41_4 := cl_ c41_3
def c41_5 := cl_ c41_4
def c41_12 := cr_ c41_5
def c41_13 := cl_ c41_12
def c41_14 := cl_ c41_13
def c41_17 := cr_ c41_14
def c41_20 := cr_ c41_17
def c41_21 := cl_ c41_20
def c41_22 := cl_ c41_21
def c41_29 := cr_ c41_22
def c41_30 := cl_ c41_29
def c41_31 := cl_ c41_30
def r41_31 := co_ c41_31
def o_towpathlaw01_Book_fillVersion_31 : List Nat := [0, 1, 2, 3, 4, 5, 6, 7]

theorem S_towpathlaw01_Book_fillVersion {b_ : Option Addr} {w : World} {R : World → Prop} (h : F_towpathlaw01_Book_fillVersion b_ R w) : C_towpathlaw01_Book_fillVersion b_ w R := by
 unfold F_towpathlaw01_Book_fillVersion at h
 refine Yh Tryz.func41 ?_
 · refine Yp P1 [0, 2] ?_
   refine Yd 0 ?_
   obtain ⟨I, μ, h0, hr⟩ := h
   refine Yloop (fun m l w => ∃ (i : Int), l = [(0, Value.pointer b_), (2, Value.int .i64 i)] ∧ I i w ∧ μ i w = m) ⟨0, rfl, h0, rfl⟩ ?_
   rintro _ _ w1 ⟨i, rfl, hI, rfl⟩
   obtain ⟨again_, again__h, h⟩ : ∃ again_ : Int → World → Prop, (∀ i' w', again_ i' w' → I i' w' ∧ μ i' w' < μ i w1) ∧ F_towpathlaw01_Book_fillVersion_L0 b_ R again_ i w1 := ⟨_, fun _ _ h => h, hr i w1 hI⟩
   clear h0 hI
   unfold F_towpathlaw01_Book_fillVersion_L0 at h
   refine Ys ?_
   refine Yt ?_
   refine Yn P2 ?_
   refine Yv 6 h fun hp_3 h => ?_
   refine Yn P1 ?_
   refine Yn P1 ?_
   refine Yl h fun v9 h => ?_
   refine Yf P2 [0, 2, 11] ?_
   refine Yc h (fun h => ?_) fun h => ?_
   · refine Yskip ?_
     refine Ys ?_
     refine Yd 1 ?_
     refine Yt ?_
     refine Yn P1 ?_
     refine Yv 14 h fun hp_12 h => ?_
     refine Yn P1 ?_
     refine Yn P1 ?_
     refine Yl h fun v17 h => ?_
     refine Yn P1 ?_
     obtain ⟨hp_13, h⟩ := h
     refine Yu 17 (fun pp => .slice pp v17.len v17.cap) hp_13 ?_
     refine Yi h fun h => ?_
     refine YL h fun v20 h => ?_
     refine Yw pv_ h fun b_1 w2 h => ?_
     refine Yo h fun w3 h => ?_
     refine Yf [] [0, 2, 3] ?_
     refine Yp P1 [0, 2, 3, 4] ?_
     refine Yd 2 ?_
     obtain ⟨I, μ, h0, hr⟩ := h
     refine Yloop (fun m l w => ∃ (k_ : Int), l = [(0, Value.pointer b_), (2, Value.int .i64 i), (3, pv_ b_1), (4, Value.int .i64 k_)] ∧ I k_ w ∧ μ k_ w = m) ⟨0, rfl, h0, rfl⟩ ?_
     rintro _ _ w4 ⟨k_, rfl, hI, rfl⟩
     obtain ⟨again_1, again_1_h, h⟩ : ∃ again_1 : Int → World → Prop, (∀ k_' w', again_1 k_' w' → I k_' w' ∧ μ k_' w' < μ k_ w4) ∧ F_towpathlaw01_Book_fillVersion_L1 i again_ b_1 again_1 k_ w4 := ⟨_, fun _ _ h => h, hr k_ w4 hI⟩
     clear h0 hI
     unfold F_towpathlaw01_Book_fillVersion_L1 at h
     refine Ys ?_
     refine Yt ?_
     refine Yn P2 ?_
     refine Yl h fun v23 h => ?_
     refine Yf P2 [0, 2, 3, 4, 25] ?_
     refine Yc h (fun h => ?_) fun h => ?_
     · refine Yskip ?_
       refine Ys ?_
       refine Yd 3 ?_
       refine wpE_mixregion (id := 7) (ops := r41_31) o_towpathlaw01_Book_fillVersion_31 (by kernel_rfl) (by kernel_rfl) (by kernel_rfl) (by kernel_rfl) (fun w5 hw => ?_)
       replace h := h w5 hw
       clear hw
       refine Mn P1 ?_
       refine Ml 1 h fun v29 hc h => ?_
       refine Mn P2 ?_
       refine Ml 4 h fun v32 hc h => ?_
       refine mreg_enter (op := (Op.call (Call.mk (Callee.value (Operand.func 96)) #[(Operand.tmp 32)] #[3]))) (ty := 128) (dst := some 33) 5 [4, 3] [(1, fun w' => w'.cell? ⟨b_1, 0, none⟩ = some (sv_ v29))] 96 #[Value.int .i64 v32] (by kernel_rfl) (by kernel_rfl) (by kernel_rfl) (by kernel_rfl) (by kernel_rfl) (fun ww => by kernel_rfl) (Calls.mono h ?_)
       rintro _ w6 ⟨v33, rfl, h⟩
       obtain ⟨hk0, h⟩ := h
       refine ⟨_, rfl, ⟨hk0, trivial⟩, ?_⟩
       obtain ⟨hp_15, h⟩ := h
       refine Mu 29 (fun pp => .slice pp v29.len v29.cap) hp_15 ?_
       refine Mi 6 h fun h => ?_
       refine Mstore 7 [0, 1, 2, 3, 4, 5, 6] [] h fun w7 h => ?_
       refine ⟨trivial, ?_⟩
       refine Mf [] [0, 2, 3, 4] ?_
       refine Yr ?_
       refine Yf P3 [0, 2, 3, 4] ?_
       have hb_ := again_1_h _ _ h
       exact ⟨_, hb_.2, _, Sub.mk (by kernel_rfl), (IntKind.i64.wrap (k_ + 1)), rfl, hb_.1, rfl⟩
     · refine Yexit 2 ?_
       refine Yr ?_
       refine Yf P3 [0, 2] ?_
       have hb_ := again__h _ _ h
       exact ⟨_, hb_.2, _, Sub.mk (by kernel_rfl), (IntKind.i64.wrap (i + 1)), rfl, hb_.1, rfl⟩
   · refine Yexit 0 ?_
     repeat (first | refine seqQ_exit ?_ | refine loopQ_exit ?_ | refine cutQ_exit ?_ | refine blockQ_hit ?_ | refine blockQ_miss (by kernel_rfl) ?_)
     refine retQ_normal ?_
     repeat (first | refine seqQ_ret ?_ | refine blockQ_ret ?_ | refine loopQ_ret ?_ | refine cutQ_ret ?_)
     exact retT (rs := []) (vs := []) (by kernel_rfl) (trivial) (by kernel_rfl) ⟨rfl, h⟩

/-! ### (*towpath/towpathlaw01.Book).fillTxn (function 42) -/

theorem S_towpathlaw01_Book_fillTxn {b_ : Option Addr} {w : World} {R : World → Prop} (h : F_towpathlaw01_Book_fillTxn b_ R w) : C_towpathlaw01_Book_fillTxn b_ w R := by
 unfold F_towpathlaw01_Book_fillTxn at h
 refine Yh Tryz.func42 ?_
 · refine Yp P1 [0, 2] ?_
   refine Yd 0 ?_
   obtain ⟨I, μ, h0, hr⟩ := h
   refine Yloop (fun m l w => ∃ (i : Int), l = [(0, Value.pointer b_), (2, Value.int .i64 i)] ∧ I i w ∧ μ i w = m) ⟨0, rfl, h0, rfl⟩ ?_
   rintro _ _ w1 ⟨i, rfl, hI, rfl⟩
   obtain ⟨again_, again__h, h⟩ : ∃ again_ : Int → World → Prop, (∀ i' w', again_ i' w' → I i' w' ∧ μ i' w' < μ i w1) ∧ F_towpathlaw01_Book_fillTxn_L0 b_ R again_ i w1 := ⟨_, fun _ _ h => h, hr i w1 hI⟩
   clear h0 hI
   unfold F_towpathlaw01_Book_fillTxn_L0 at h
   refine Ys ?_
   refine Yt ?_
   refine Yn P2 ?_
   refine Yv 6 h fun hp_3 h => ?_
   refine Yn P1 ?_
   refine Yn P1 ?_
   refine Yl h fun v9 h => ?_
   refine Yf P2 [0, 2, 11] ?_
   refine Yc h (fun h => ?_) fun h => ?_
   · exact h.elim
   · refine Yexit 0 ?_
     repeat (first | refine seqQ_exit ?_ | refine loopQ_exit ?_ | refine cutQ_exit ?_ | refine blockQ_hit ?_ | refine blockQ_miss (by kernel_rfl) ?_)
     refine retQ_normal ?_
     repeat (first | refine seqQ_ret ?_ | refine blockQ_ret ?_ | refine loopQ_ret ?_ | refine cutQ_ret ?_)
     exact retT (rs := []) (vs := []) (by kernel_rfl) (trivial) (by kernel_rfl) ⟨rfl, h⟩

/-! ### (*towpath/towpathlaw01.Book).fillHeld (function 43) -/
def c43_0 := cb_ Tryz.f43
def c43_3 := cr_ c43_0
def c43_4 := cl_ c43_3
def c43_5 := cl_ c43_4
def c43_12 := cr_ c43_5
def c43_13 := cl_ c43_12
def c43_14 := cl_ c43_13
def c43_17 := cr_ c43_14
def c43_20 := cr_ c43_17
def c43_21 := cl_ c43_20
def c43_22 := cl_ c43_21
def c43_29 := cr_ c43_22
def c43_30 := cl_ c43_29
def c43_31 := cl_ c43_30
def r43_31 := co_ c43_31
def o_towpathlaw01_Book_fillHeld_31 : List Nat := [0, 1, 2, 3, 4, 5, 6, 7]

theorem S_towpathlaw01_Book_fillHeld {b_ : Option Addr} {w : World} {R : World → Prop} (h : F_towpathlaw01_Book_fillHeld b_ R w) : C_towpathlaw01_Book_fillHeld b_ w R := by
 unfold F_towpathlaw01_Book_fillHeld at h
 refine Yh Tryz.func43 ?_
 · refine Yp P1 [0, 2] ?_
   refine Yd 0 ?_
   obtain ⟨I, μ, h0, hr⟩ := h
   refine Yloop (fun m l w => ∃ (i : Int), l = [(0, Value.pointer b_), (2, Value.int .i64 i)] ∧ I i w ∧ μ i w = m) ⟨0, rfl, h0, rfl⟩ ?_
   rintro _ _ w1 ⟨i, rfl, hI, rfl⟩
   obtain ⟨again_, again__h, h⟩ : ∃ again_ : Int → World → Prop, (∀ i' w', again_ i' w' → I i' w' ∧ μ i' w' < μ i w1) ∧ F_towpathlaw01_Book_fillHeld_L0 b_ R again_ i w1 := ⟨_, fun _ _ h => h, hr i w1 hI⟩
   clear h0 hI
   unfold F_towpathlaw01_Book_fillHeld_L0 at h
   refine Ys ?_
   refine Yt ?_
   refine Yn P2 ?_
   refine Yv 6 h fun hp_3 h => ?_
   refine Yn P1 ?_
   refine Yn P1 ?_
   refine Yl h fun v9 h => ?_
   refine Yf P2 [0, 2, 11] ?_
   refine Yc h (fun h => ?_) fun h => ?_
   · refine Yskip ?_
     refine Ys ?_
     refine Yd 1 ?_
     refine Yt ?_
     refine Yn P1 ?_
     refine Yv 14 h fun hp_12 h => ?_
     refine Yn P1 ?_
     refine Yn P1 ?_
     refine Yl h fun v17 h => ?_
     refine Yn P1 ?_
     obtain ⟨hp_13, h⟩ := h
     refine Yu 17 (fun pp => .slice pp v17.len v17.cap) hp_13 ?_
     refine Yi h fun h => ?_
     refine YL h fun v20 h => ?_
     refine Yw pv_ h fun b_1 w2 h => ?_
     refine Yo h fun w3 h => ?_
     refine Yf [] [0, 2, 3] ?_
     refine Yp P1 [0, 2, 3, 4] ?_
     refine Yd 2 ?_
     obtain ⟨I, μ, h0, hr⟩ := h
     refine Yloop (fun m l w => ∃ (k_ : Int), l = [(0, Value.pointer b_), (2, Value.int .i64 i), (3, pv_ b_1), (4, Value.int .i64 k_)] ∧ I k_ w ∧ μ k_ w = m) ⟨0, rfl, h0, rfl⟩ ?_
     rintro _ _ w4 ⟨k_, rfl, hI, rfl⟩
     obtain ⟨again_1, again_1_h, h⟩ : ∃ again_1 : Int → World → Prop, (∀ k_' w', again_1 k_' w' → I k_' w' ∧ μ k_' w' < μ k_ w4) ∧ F_towpathlaw01_Book_fillHeld_L1 i again_ b_1 again_1 k_ w4 := ⟨_, fun _ _ h => h, hr k_ w4 hI⟩
     clear h0 hI
     unfold F_towpathlaw01_Book_fillHeld_L1 at h
     refine Ys ?_
     refine Yt ?_
     refine Yn P2 ?_
     refine Yl h fun v23 h => ?_
     refine Yf P2 [0, 2, 3, 4, 25] ?_
     refine Yc h (fun h => ?_) fun h => ?_
     · refine Yskip ?_
       refine Ys ?_
       refine Yd 3 ?_
       refine wpE_mixregion (id := 7) (ops := r43_31) o_towpathlaw01_Book_fillHeld_31 (by kernel_rfl) (by kernel_rfl) (by kernel_rfl) (by kernel_rfl) (fun w5 hw => ?_)
       replace h := h w5 hw
       clear hw
       refine Mn P1 ?_
       refine Ml 1 h fun v29 hc h => ?_
       refine Mn P2 ?_
       refine Ml 4 h fun v32 hc h => ?_
       refine mreg_enter (op := (Op.call (Call.mk (Callee.value (Operand.func 98)) #[(Operand.tmp 32)] #[3]))) (ty := 125) (dst := some 33) 5 [4, 3] [(1, fun w' => w'.cell? ⟨b_1, 0, none⟩ = some (sv_ v29))] 98 #[Value.int .i64 v32] (by kernel_rfl) (by kernel_rfl) (by kernel_rfl) (by kernel_rfl) (by kernel_rfl) (fun ww => by kernel_rfl) (Calls.mono h ?_)
       rintro _ w6 ⟨v33, rfl, h⟩
       obtain ⟨hk0, h⟩ := h
       refine ⟨_, rfl, ⟨hk0, trivial⟩, ?_⟩
       obtain ⟨hp_15, h⟩ := h
       refine Mu 29 (fun pp => .slice pp v29.len v29.cap) hp_15 ?_
       refine Mi 6 h fun h => ?_
       refine Mstore 7 [0, 1, 2, 3, 4, 5, 6] [] h fun w7 h => ?_
       refine ⟨trivial, ?_⟩
       refine Mf [] [0, 2, 3, 4] ?_
       refine Yr ?_
       refine Yf P3 [0, 2, 3, 4] ?_
       have hb_ := again_1_h _ _ h
       exact ⟨_, hb_.2, _, Sub.mk (by kernel_rfl), (IntKind.i64.wrap (k_ + 1)), rfl, hb_.1, rfl⟩
     · refine Yexit 2 ?_
       refine Yr ?_
       refine Yf P3 [0, 2] ?_
       have hb_ := again__h _ _ h
       exact ⟨_, hb_.2, _, Sub.mk (by kernel_rfl), (IntKind.i64.wrap (i + 1)), rfl, hb_.1, rfl⟩
   · refine Yexit 0 ?_
     repeat (first | refine seqQ_exit ?_ | refine loopQ_exit ?_ | refine cutQ_exit ?_ | refine blockQ_hit ?_ | refine blockQ_miss (by kernel_rfl) ?_)
     refine retQ_normal ?_
     repeat (first | refine seqQ_ret ?_ | refine blockQ_ret ?_ | refine loopQ_ret ?_ | refine cutQ_ret ?_)
     exact retT (rs := []) (vs := []) (by kernel_rfl) (trivial) (by kernel_rfl) ⟨rfl, h⟩

/-! ### (*towpath/towpathlaw01.Book).fillHeldList (function 44) -/

theorem S_towpathlaw01_Book_fillHeldList {b_ : Option Addr} {w : World} {R : World → Prop} (h : F_towpathlaw01_Book_fillHeldList b_ R w) : C_towpathlaw01_Book_fillHeldList b_ w R := by
 unfold F_towpathlaw01_Book_fillHeldList at h
 refine Yh Tryz.func44 ?_
 · refine Yp P1 [0, 2] ?_
   refine Yd 0 ?_
   obtain ⟨I, μ, h0, hr⟩ := h
   refine Yloop (fun m l w => ∃ (i : Int), l = [(0, Value.pointer b_), (2, Value.int .i64 i)] ∧ I i w ∧ μ i w = m) ⟨0, rfl, h0, rfl⟩ ?_
   rintro _ _ w1 ⟨i, rfl, hI, rfl⟩
   obtain ⟨again_, again__h, h⟩ : ∃ again_ : Int → World → Prop, (∀ i' w', again_ i' w' → I i' w' ∧ μ i' w' < μ i w1) ∧ F_towpathlaw01_Book_fillHeldList_L0 b_ R again_ i w1 := ⟨_, fun _ _ h => h, hr i w1 hI⟩
   clear h0 hI
   unfold F_towpathlaw01_Book_fillHeldList_L0 at h
   refine Ys ?_
   refine Yt ?_
   refine Yn P2 ?_
   refine Yv 6 h fun hp_3 h => ?_
   refine Yn P1 ?_
   refine Yn P1 ?_
   refine Yl h fun v9 h => ?_
   refine Yf P2 [0, 2, 11] ?_
   refine Yc h (fun h => ?_) fun h => ?_
   · exact h.elim
   · refine Yexit 0 ?_
     repeat (first | refine seqQ_exit ?_ | refine loopQ_exit ?_ | refine cutQ_exit ?_ | refine blockQ_hit ?_ | refine blockQ_miss (by kernel_rfl) ?_)
     refine retQ_normal ?_
     repeat (first | refine seqQ_ret ?_ | refine blockQ_ret ?_ | refine loopQ_ret ?_ | refine cutQ_ret ?_)
     exact retT (rs := []) (vs := []) (by kernel_rfl) (trivial) (by kernel_rfl) ⟨rfl, h⟩

/-! ### (*towpath/towpathlaw01.Book).fillEvent (function 45) -/

theorem S_towpathlaw01_Book_fillEvent {b_ : Option Addr} {w : World} {R : World → Prop} (h : F_towpathlaw01_Book_fillEvent b_ R w) : C_towpathlaw01_Book_fillEvent b_ w R := by
 unfold F_towpathlaw01_Book_fillEvent at h
 refine Yh Tryz.func45 ?_
 · refine Yp P1 [0, 2] ?_
   refine Yd 0 ?_
   obtain ⟨I, μ, h0, hr⟩ := h
   refine Yloop (fun m l w => ∃ (i : Int), l = [(0, Value.pointer b_), (2, Value.int .i64 i)] ∧ I i w ∧ μ i w = m) ⟨0, rfl, h0, rfl⟩ ?_
   rintro _ _ w1 ⟨i, rfl, hI, rfl⟩
   obtain ⟨again_, again__h, h⟩ : ∃ again_ : Int → World → Prop, (∀ i' w', again_ i' w' → I i' w' ∧ μ i' w' < μ i w1) ∧ F_towpathlaw01_Book_fillEvent_L0 b_ R again_ i w1 := ⟨_, fun _ _ h => h, hr i w1 hI⟩
   clear h0 hI
   unfold F_towpathlaw01_Book_fillEvent_L0 at h
   refine Ys ?_
   refine Yt ?_
   refine Yn P2 ?_
   refine Yv 6 h fun hp_3 h => ?_
   refine Yn P1 ?_
   refine Yn P1 ?_
   refine Yl h fun v9 h => ?_
   refine Yf P2 [0, 2, 11] ?_
   refine Yc h (fun h => ?_) fun h => ?_
   · exact h.elim
   · refine Yexit 0 ?_
     repeat (first | refine seqQ_exit ?_ | refine loopQ_exit ?_ | refine cutQ_exit ?_ | refine blockQ_hit ?_ | refine blockQ_miss (by kernel_rfl) ?_)
     refine retQ_normal ?_
     repeat (first | refine seqQ_ret ?_ | refine blockQ_ret ?_ | refine loopQ_ret ?_ | refine cutQ_ret ?_)
     exact retT (rs := []) (vs := []) (by kernel_rfl) (trivial) (by kernel_rfl) ⟨rfl, h⟩

/-! ### (*towpath/towpathlaw01.Book).fillAnswer (function 46) -/

theorem S_towpathlaw01_Book_fillAnswer {b_ : Option Addr} {w : World} {R : World → Prop} (h : F_towpathlaw01_Book_fillAnswer b_ R w) : C_towpathlaw01_Book_fillAnswer b_ w R := by
 unfold F_towpathlaw01_Book_fillAnswer at h
 refine Yh Tryz.func46 ?_
 · refine Yp P1 [0, 2] ?_
   refine Yd 0 ?_
   obtain ⟨I, μ, h0, hr⟩ := h
   refine Yloop (fun m l w => ∃ (i : Int), l = [(0, Value.pointer b_), (2, Value.int .i64 i)] ∧ I i w ∧ μ i w = m) ⟨0, rfl, h0, rfl⟩ ?_
   rintro _ _ w1 ⟨i, rfl, hI, rfl⟩
   obtain ⟨again_, again__h, h⟩ : ∃ again_ : Int → World → Prop, (∀ i' w', again_ i' w' → I i' w' ∧ μ i' w' < μ i w1) ∧ F_towpathlaw01_Book_fillAnswer_L0 b_ R again_ i w1 := ⟨_, fun _ _ h => h, hr i w1 hI⟩
   clear h0 hI
   unfold F_towpathlaw01_Book_fillAnswer_L0 at h
   refine Ys ?_
   refine Yt ?_
   refine Yn P2 ?_
   refine Yv 6 h fun hp_3 h => ?_
   refine Yn P1 ?_
   refine Yn P1 ?_
   refine Yl h fun v9 h => ?_
   refine Yf P2 [0, 2, 11] ?_
   refine Yc h (fun h => ?_) fun h => ?_
   · exact h.elim
   · refine Yexit 0 ?_
     repeat (first | refine seqQ_exit ?_ | refine loopQ_exit ?_ | refine cutQ_exit ?_ | refine blockQ_hit ?_ | refine blockQ_miss (by kernel_rfl) ?_)
     refine retQ_normal ?_
     repeat (first | refine seqQ_ret ?_ | refine blockQ_ret ?_ | refine loopQ_ret ?_ | refine cutQ_ret ?_)
     exact retT (rs := []) (vs := []) (by kernel_rfl) (trivial) (by kernel_rfl) ⟨rfl, h⟩

/-! ### (*towpath/towpathlaw01.Book).growByte (function 47) -/

theorem S_towpathlaw01_Book_growByte {b_ : Option Addr} {w : World} {R : World → Prop} (h : F_towpathlaw01_Book_growByte b_ R w) : C_towpathlaw01_Book_growByte b_ w R := by
 unfold F_towpathlaw01_Book_growByte at h
 refine Yh Tryz.func47 ?_
 · refine Yp P1 [0, 2] ?_
   refine Yd 0 ?_
   obtain ⟨I, μ, h0, hr⟩ := h
   refine Yloop (fun m l w => ∃ (i : Int), l = [(0, Value.pointer b_), (2, Value.int .i64 i)] ∧ I i w ∧ μ i w = m) ⟨0, rfl, h0, rfl⟩ ?_
   rintro _ _ w1 ⟨i, rfl, hI, rfl⟩
   obtain ⟨again_, again__h, h⟩ : ∃ again_ : Int → World → Prop, (∀ i' w', again_ i' w' → I i' w' ∧ μ i' w' < μ i w1) ∧ F_towpathlaw01_Book_growByte_L0 b_ R again_ i w1 := ⟨_, fun _ _ h => h, hr i w1 hI⟩
   clear h0 hI
   unfold F_towpathlaw01_Book_growByte_L0 at h
   refine Ys ?_
   refine Yt ?_
   refine Yn P2 ?_
   refine Yv 7 h fun hp_3 h => ?_
   refine Yn P1 ?_
   refine Yn P1 ?_
   refine Yl h fun v10 h => ?_
   refine Yf P2 [0, 2, 12] ?_
   refine Yc h (fun h => ?_) fun h => ?_
   · exact h.elim
   · refine Yexit 0 ?_
     repeat (first | refine seqQ_exit ?_ | refine loopQ_exit ?_ | refine cutQ_exit ?_ | refine blockQ_hit ?_ | refine blockQ_miss (by kernel_rfl) ?_)
     refine retQ_normal ?_
     repeat (first | refine seqQ_ret ?_ | refine blockQ_ret ?_ | refine loopQ_ret ?_ | refine cutQ_ret ?_)
     exact retT (rs := []) (vs := []) (by kernel_rfl) (trivial) (by kernel_rfl) ⟨rfl, h⟩

/-! ### (*towpath/towpathlaw01.Book).growInt (function 48) -/

theorem S_towpathlaw01_Book_growInt {b_ : Option Addr} {w : World} {R : World → Prop} (h : F_towpathlaw01_Book_growInt b_ R w) : C_towpathlaw01_Book_growInt b_ w R := by
 unfold F_towpathlaw01_Book_growInt at h
 refine Yh Tryz.func48 ?_
 · refine Yp P1 [0, 2] ?_
   refine Yd 0 ?_
   obtain ⟨I, μ, h0, hr⟩ := h
   refine Yloop (fun m l w => ∃ (i : Int), l = [(0, Value.pointer b_), (2, Value.int .i64 i)] ∧ I i w ∧ μ i w = m) ⟨0, rfl, h0, rfl⟩ ?_
   rintro _ _ w1 ⟨i, rfl, hI, rfl⟩
   obtain ⟨again_, again__h, h⟩ : ∃ again_ : Int → World → Prop, (∀ i' w', again_ i' w' → I i' w' ∧ μ i' w' < μ i w1) ∧ F_towpathlaw01_Book_growInt_L0 b_ R again_ i w1 := ⟨_, fun _ _ h => h, hr i w1 hI⟩
   clear h0 hI
   unfold F_towpathlaw01_Book_growInt_L0 at h
   refine Ys ?_
   refine Yt ?_
   refine Yn P2 ?_
   refine Yv 7 h fun hp_3 h => ?_
   refine Yn P1 ?_
   refine Yn P1 ?_
   refine Yl h fun v10 h => ?_
   refine Yf P2 [0, 2, 12] ?_
   refine Yc h (fun h => ?_) fun h => ?_
   · refine Yskip ?_
     refine Ys ?_
     refine Yd 1 ?_
     refine Yt ?_
     refine Yn P1 ?_
     refine Yv 15 h fun hp_12 h => ?_
     refine Yn P1 ?_
     refine Yn P1 ?_
     refine Yl h fun v18 h => ?_
     refine Yn P1 ?_
     obtain ⟨hp_13, h⟩ := h
     refine Yu 18 (fun pp => .slice pp v18.len v18.cap) hp_13 ?_
     refine Yi h fun h => ?_
     refine YL h fun v21 h => ?_
     refine Yw pv_ h fun b_1 w2 h => ?_
     refine Yo h fun w3 h => ?_
     refine Yf [] [0, 2, 3] ?_
     refine Yt ?_
     refine Yn P1 ?_
     refine Yl h fun long h => ?_
     refine Yf P1 [0, 2, 3, 4] ?_
     refine Ys ?_
     refine Yp P1 [0, 2, 3, 4, 5] ?_
     refine Yd 2 ?_
     obtain ⟨I, μ, h0, hr⟩ := h
     refine Yloop (fun m l w => ∃ (long1 : Slc) (k_ : Int), l = [(0, Value.pointer b_), (2, Value.int .i64 i), (3, pv_ b_1), (4, sv_ long1), (5, Value.int .i64 k_)] ∧ I long1 k_ w ∧ μ long1 k_ w = m) ⟨long, 0, rfl, h0, rfl⟩ ?_
     rintro _ _ w4 ⟨long1, k_, rfl, hI, rfl⟩
     obtain ⟨again_1, again_1_h, h⟩ : ∃ again_1 : Slc → Int → World → Prop, (∀ long1' k_' w', again_1 long1' k_' w' → I long1' k_' w' ∧ μ long1' k_' w' < μ long1 k_ w4) ∧ F_towpathlaw01_Book_growInt_L1 b_ i again_ b_1 again_1 long1 k_ w4 := ⟨_, fun _ _ _ h => h, hr long1 k_ w4 hI⟩
     clear h0 hI
     unfold F_towpathlaw01_Book_growInt_L1 at h
     refine Ys ?_
     refine Yp P2 [0, 2, 3, 4, 5, 25] ?_
     refine Yc h (fun h => ?_) fun h => ?_
     · refine Yskip ?_
       refine Ys ?_
       refine Yd 3 ?_
       refine Yr ?_
       refine Yn P2 ?_
       refine Yl h fun v30 h => ?_
       refine Ym1 h fun v31 w5 h => ?_
       refine Yw (sl_ 1 1) h fun b_2 w6 h => ?_
       obtain ⟨src, hs, h⟩ := h
       refine reg_append (t := 67) (tx := 67) (e := 3) (a := (Operand.tmp 28)) (xo := (Operand.tmp 32)) (s := long1) (x := (Slc.mk (some ⟨b_2, 0, none⟩) 1 1)) (sz := 1) (by_ := 8) (zs := [Value.int .i64 0]) (ty := 67) (dst := some 33)  src (by kernel_rfl) (by kernel_rfl) (by kernel_rfl) (by kernel_rfl) (by kernel_rfl) (by kernel_rfl) (by kernel_rfl) (by kernel_rfl) (by kernel_rfl) hs (AppendW.mono h (fun long2 w7 h => ?_))
       refine Yf P1 [0, 2, 3, 4, 5] ?_
       refine Yr ?_
       refine Yf P3 [0, 2, 3, 4, 5] ?_
       have hb_ := again_1_h _ _ _ h
       exact ⟨_, hb_.2, _, Sub.mk (by kernel_rfl), long2, (IntKind.i64.wrap (k_ + 1)), rfl, hb_.1, rfl⟩
     · refine Yexit 2 ?_
       refine Yr ?_
       refine Yn P1 ?_
       refine Yv 34 h fun hp_14 h => ?_
       refine Yn P1 ?_
       refine Yn P1 ?_
       refine Yl h fun v37 h => ?_
       refine Yn P2 ?_
       obtain ⟨hp_15, h⟩ := h
       refine Yu 37 (fun pp => .slice pp v37.len v37.cap) hp_15 ?_
       refine Yi h fun h => ?_
       refine Yn P1 ?_
       refine Yo h fun w8 h => ?_
       refine Yf [] [0, 2] ?_
       refine Yr ?_
       refine Yf P3 [0, 2] ?_
       have hb_ := again__h _ _ h
       exact ⟨_, hb_.2, _, Sub.mk (by kernel_rfl), (IntKind.i64.wrap (i + 1)), rfl, hb_.1, rfl⟩
   · refine Yexit 0 ?_
     repeat (first | refine seqQ_exit ?_ | refine loopQ_exit ?_ | refine cutQ_exit ?_ | refine blockQ_hit ?_ | refine blockQ_miss (by kernel_rfl) ?_)
     refine retQ_normal ?_
     repeat (first | refine seqQ_ret ?_ | refine blockQ_ret ?_ | refine loopQ_ret ?_ | refine cutQ_ret ?_)
     exact retT (rs := []) (vs := []) (by kernel_rfl) (trivial) (by kernel_rfl) ⟨rfl, h⟩

/-! ### (*towpath/towpathlaw01.Book).growText (function 49) -/

theorem S_towpathlaw01_Book_growText {b_ : Option Addr} {w : World} {R : World → Prop} (h : F_towpathlaw01_Book_growText b_ R w) : C_towpathlaw01_Book_growText b_ w R := by
 unfold F_towpathlaw01_Book_growText at h
 refine Yh Tryz.func49 ?_
 · refine Yp P1 [0, 2] ?_
   refine Yd 0 ?_
   obtain ⟨I, μ, h0, hr⟩ := h
   refine Yloop (fun m l w => ∃ (i : Int), l = [(0, Value.pointer b_), (2, Value.int .i64 i)] ∧ I i w ∧ μ i w = m) ⟨0, rfl, h0, rfl⟩ ?_
   rintro _ _ w1 ⟨i, rfl, hI, rfl⟩
   obtain ⟨again_, again__h, h⟩ : ∃ again_ : Int → World → Prop, (∀ i' w', again_ i' w' → I i' w' ∧ μ i' w' < μ i w1) ∧ F_towpathlaw01_Book_growText_L0 b_ R again_ i w1 := ⟨_, fun _ _ h => h, hr i w1 hI⟩
   clear h0 hI
   unfold F_towpathlaw01_Book_growText_L0 at h
   refine Ys ?_
   refine Yt ?_
   refine Yn P2 ?_
   refine Yv 7 h fun hp_3 h => ?_
   refine Yn P1 ?_
   refine Yn P1 ?_
   refine Yl h fun v10 h => ?_
   refine Yf P2 [0, 2, 12] ?_
   refine Yc h (fun h => ?_) fun h => ?_
   · exact h.elim
   · refine Yexit 0 ?_
     repeat (first | refine seqQ_exit ?_ | refine loopQ_exit ?_ | refine cutQ_exit ?_ | refine blockQ_hit ?_ | refine blockQ_miss (by kernel_rfl) ?_)
     refine retQ_normal ?_
     repeat (first | refine seqQ_ret ?_ | refine blockQ_ret ?_ | refine loopQ_ret ?_ | refine cutQ_ret ?_)
     exact retT (rs := []) (vs := []) (by kernel_rfl) (trivial) (by kernel_rfl) ⟨rfl, h⟩

/-! ### (*towpath/towpathlaw01.Book).growWrite (function 50) -/

theorem S_towpathlaw01_Book_growWrite {b_ : Option Addr} {w : World} {R : World → Prop} (h : F_towpathlaw01_Book_growWrite b_ R w) : C_towpathlaw01_Book_growWrite b_ w R := by
 unfold F_towpathlaw01_Book_growWrite at h
 refine Yh Tryz.func50 ?_
 · refine Yp P1 [0, 2] ?_
   refine Yd 0 ?_
   obtain ⟨I, μ, h0, hr⟩ := h
   refine Yloop (fun m l w => ∃ (i : Int), l = [(0, Value.pointer b_), (2, Value.int .i64 i)] ∧ I i w ∧ μ i w = m) ⟨0, rfl, h0, rfl⟩ ?_
   rintro _ _ w1 ⟨i, rfl, hI, rfl⟩
   obtain ⟨again_, again__h, h⟩ : ∃ again_ : Int → World → Prop, (∀ i' w', again_ i' w' → I i' w' ∧ μ i' w' < μ i w1) ∧ F_towpathlaw01_Book_growWrite_L0 b_ R again_ i w1 := ⟨_, fun _ _ h => h, hr i w1 hI⟩
   clear h0 hI
   unfold F_towpathlaw01_Book_growWrite_L0 at h
   refine Ys ?_
   refine Yt ?_
   refine Yn P2 ?_
   refine Yv 7 h fun hp_3 h => ?_
   refine Yn P1 ?_
   refine Yn P1 ?_
   refine Yl h fun v10 h => ?_
   refine Yf P2 [0, 2, 12] ?_
   refine Yc h (fun h => ?_) fun h => ?_
   · exact h.elim
   · refine Yexit 0 ?_
     repeat (first | refine seqQ_exit ?_ | refine loopQ_exit ?_ | refine cutQ_exit ?_ | refine blockQ_hit ?_ | refine blockQ_miss (by kernel_rfl) ?_)
     refine retQ_normal ?_
     repeat (first | refine seqQ_ret ?_ | refine blockQ_ret ?_ | refine loopQ_ret ?_ | refine cutQ_ret ?_)
     exact retT (rs := []) (vs := []) (by kernel_rfl) (trivial) (by kernel_rfl) ⟨rfl, h⟩
end
end Go.Proofs.YtpedclhflmhakaaGreatDoor
