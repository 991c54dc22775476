/- WRITTEN BY PROGRAM (dec.py): for each Go function the clean formula F, the call's contract C, and the proof S that F gives C. -/
import Derived.Test.YtpedclhflmhakaaGreatDoorRows
import Derived.Test.YtpedclhflmhakaaGreatDoorGF
namespace Go.Proofs.YtpedclhflmhakaaGreatDoor
open Go
set_option linter.unusedVariables false
set_option maxRecDepth 100000
set_option maxHeartbeats 4000000
noncomputable section

/-! ### (*towpath/towpathlaw01.Book).growEntry (function 51) -/

theorem S_towpathlaw01_Book_growEntry {b_ : Option Addr} {w : World} {R : World → Prop} (h : F_towpathlaw01_Book_growEntry b_ R w) : C_towpathlaw01_Book_growEntry b_ w R := by
 unfold F_towpathlaw01_Book_growEntry at h
 refine Yh Tryz.func51 ?_
 · refine Yp P1 [0, 2] ?_
   refine Yd 0 ?_
   obtain ⟨I, μ, h0, hr⟩ := h
   refine Yloop (fun m l w => ∃ (i : Int), l = [(0, Value.pointer b_), (2, Value.int .i64 i)] ∧ I i w ∧ μ i w = m) ⟨0, rfl, h0, rfl⟩ ?_
   rintro _ _ w1 ⟨i, rfl, hI, rfl⟩
   obtain ⟨again_, again__h, h⟩ : ∃ again_ : Int → World → Prop, (∀ i' w', again_ i' w' → I i' w' ∧ μ i' w' < μ i w1) ∧ F_towpathlaw01_Book_growEntry_L0 b_ R again_ i w1 := ⟨_, fun _ _ h => h, hr i w1 hI⟩
   clear h0 hI
   unfold F_towpathlaw01_Book_growEntry_L0 at h
   refine Ys ?_
   refine Yt ?_
   refine Yn P2 ?_
   refine Yv 7 h fun hp_3 h => ?_
   refine Yn P1 ?_
   refine Yn P1 ?_
   refine Yl h fun v10 h => ?_
   refine Yf P2 [0, 2, 12] ?_
   refine Yc h (fun h => ?_) fun h => ?_
   · refine Yskip ?_
     refine Ys ?_
     refine Yd 1 ?_
     refine Yt ?_
     refine Yn P1 ?_
     refine Yv 15 h fun hp_12 h => ?_
     refine Yn P1 ?_
     refine Yn P1 ?_
     refine Yl h fun v18 h => ?_
     refine Yn P1 ?_
     obtain ⟨hp_13, h⟩ := h
     refine Yu 18 (fun pp => .slice pp v18.len v18.cap) hp_13 ?_
     refine Yi h fun h => ?_
     refine YL h fun v21 h => ?_
     refine Yw pv_ h fun b_1 w2 h => ?_
     refine Yo h fun w3 h => ?_
     refine Yf [] [0, 2, 3] ?_
     refine Yt ?_
     refine Yn P1 ?_
     refine Yl h fun long h => ?_
     refine Yf P1 [0, 2, 3, 4] ?_
     refine Ys ?_
     refine Yp P1 [0, 2, 3, 4, 5] ?_
     refine Yd 2 ?_
     obtain ⟨I, μ, h0, hr⟩ := h
     refine Yloop (fun m l w => ∃ (long1 : Slc) (k_ : Int), l = [(0, Value.pointer b_), (2, Value.int .i64 i), (3, pv_ b_1), (4, sv_ long1), (5, Value.int .i64 k_)] ∧ I long1 k_ w ∧ μ long1 k_ w = m) ⟨long, 0, rfl, h0, rfl⟩ ?_
     rintro _ _ w4 ⟨long1, k_, rfl, hI, rfl⟩
     obtain ⟨again_1, again_1_h, h⟩ : ∃ again_1 : Slc → Int → World → Prop, (∀ long1' k_' w', again_1 long1' k_' w' → I long1' k_' w' ∧ μ long1' k_' w' < μ long1 k_ w4) ∧ F_towpathlaw01_Book_growEntry_L1 b_ i again_ b_1 again_1 long1 k_ w4 := ⟨_, fun _ _ _ h => h, hr long1 k_ w4 hI⟩
     clear h0 hI
     unfold F_towpathlaw01_Book_growEntry_L1 at h
     refine Ys ?_
     refine Yp P2 [0, 2, 3, 4, 5, 25] ?_
     refine Yc h (fun h => ?_) fun h => ?_
     · refine Yskip ?_
       refine Ys ?_
       refine Yd 3 ?_
       refine Yr ?_
       refine Yn P2 ?_
       refine Yl h fun v30 h => ?_
       refine Ym1 h fun v31 w5 h => ?_
       refine Yw (sl_ 1 1) h fun b_2 w6 h => ?_
       obtain ⟨src, hs, h⟩ := h
       refine reg_append (t := 68) (tx := 68) (e := 131) (a := (Operand.tmp 28)) (xo := (Operand.tmp 32)) (s := long1) (x := (Slc.mk (some ⟨b_2, 0, none⟩) 1 1)) (sz := 2) (by_ := 32) (zs := [Value.string ByteArray.empty, Value.string ByteArray.empty]) (ty := 68) (dst := some 33)  src (by kernel_rfl) (by kernel_rfl) (by kernel_rfl) (by kernel_rfl) (by kernel_rfl) (by kernel_rfl) (by kernel_rfl) (by kernel_rfl) (by kernel_rfl) hs (AppendW.mono h (fun long2 w7 h => ?_))
       refine Yf P1 [0, 2, 3, 4, 5] ?_
       refine Yr ?_
       refine Yf P3 [0, 2, 3, 4, 5] ?_
       have hb_ := again_1_h _ _ _ h
       exact ⟨_, hb_.2, _, Sub.mk (by kernel_rfl), long2, (IntKind.i64.wrap (k_ + 1)), rfl, hb_.1, rfl⟩
     · refine Yexit 2 ?_
       refine Yr ?_
       refine Yn P1 ?_
       refine Yv 34 h fun hp_14 h => ?_
       refine Yn P1 ?_
       refine Yn P1 ?_
       refine Yl h fun v37 h => ?_
       refine Yn P2 ?_
       obtain ⟨hp_15, h⟩ := h
       refine Yu 37 (fun pp => .slice pp v37.len v37.cap) hp_15 ?_
       refine Yi h fun h => ?_
       refine Yn P1 ?_
       refine Yo h fun w8 h => ?_
       refine Yf [] [0, 2] ?_
       refine Yr ?_
       refine Yf P3 [0, 2] ?_
       have hb_ := again__h _ _ h
       exact ⟨_, hb_.2, _, Sub.mk (by kernel_rfl), (IntKind.i64.wrap (i + 1)), rfl, hb_.1, rfl⟩
   · refine Yexit 0 ?_
     repeat (first | refine seqQ_exit ?_ | refine loopQ_exit ?_ | refine cutQ_exit ?_ | refine blockQ_hit ?_ | refine blockQ_miss (by kernel_rfl) ?_)
     refine retQ_normal ?_
     repeat (first | refine seqQ_ret ?_ | refine blockQ_ret ?_ | refine loopQ_ret ?_ | refine cutQ_ret ?_)
     exact retT (rs := []) (vs := []) (by kernel_rfl) (trivial) (by kernel_rfl) ⟨rfl, h⟩

/-! ### (*towpath/towpathlaw01.Book).growVersion (function 52) -/

theorem S_towpathlaw01_Book_growVersion {b_ : Option Addr} {w : World} {R : World → Prop} (h : F_towpathlaw01_Book_growVersion b_ R w) : C_towpathlaw01_Book_growVersion b_ w R := by
 unfold F_towpathlaw01_Book_growVersion at h
 refine Yh Tryz.func52 ?_
 · refine Yp P1 [0, 2] ?_
   refine Yd 0 ?_
   obtain ⟨I, μ, h0, hr⟩ := h
   refine Yloop (fun m l w => ∃ (i : Int), l = [(0, Value.pointer b_), (2, Value.int .i64 i)] ∧ I i w ∧ μ i w = m) ⟨0, rfl, h0, rfl⟩ ?_
   rintro _ _ w1 ⟨i, rfl, hI, rfl⟩
   obtain ⟨again_, again__h, h⟩ : ∃ again_ : Int → World → Prop, (∀ i' w', again_ i' w' → I i' w' ∧ μ i' w' < μ i w1) ∧ F_towpathlaw01_Book_growVersion_L0 b_ R again_ i w1 := ⟨_, fun _ _ h => h, hr i w1 hI⟩
   clear h0 hI
   unfold F_towpathlaw01_Book_growVersion_L0 at h
   refine Ys ?_
   refine Yt ?_
   refine Yn P2 ?_
   refine Yv 7 h fun hp_3 h => ?_
   refine Yn P1 ?_
   refine Yn P1 ?_
   refine Yl h fun v10 h => ?_
   refine Yf P2 [0, 2, 12] ?_
   refine Yc h (fun h => ?_) fun h => ?_
   · refine Yskip ?_
     refine Ys ?_
     refine Yd 1 ?_
     refine Yt ?_
     refine Yn P1 ?_
     refine Yv 15 h fun hp_12 h => ?_
     refine Yn P1 ?_
     refine Yn P1 ?_
     refine Yl h fun v18 h => ?_
     refine Yn P1 ?_
     obtain ⟨hp_13, h⟩ := h
     refine Yu 18 (fun pp => .slice pp v18.len v18.cap) hp_13 ?_
     refine Yi h fun h => ?_
     refine YL h fun v21 h => ?_
     refine Yw pv_ h fun b_1 w2 h => ?_
     refine Yo h fun w3 h => ?_
     refine Yf [] [0, 2, 3] ?_
     refine Yt ?_
     refine Yn P1 ?_
     refine Yl h fun long h => ?_
     refine Yf P1 [0, 2, 3, 4] ?_
     refine Ys ?_
     refine Yp P1 [0, 2, 3, 4, 5] ?_
     refine Yd 2 ?_
     obtain ⟨I, μ, h0, hr⟩ := h
     refine Yloop (fun m l w => ∃ (long1 : Slc) (k_ : Int), l = [(0, Value.pointer b_), (2, Value.int .i64 i), (3, pv_ b_1), (4, sv_ long1), (5, Value.int .i64 k_)] ∧ I long1 k_ w ∧ μ long1 k_ w = m) ⟨long, 0, rfl, h0, rfl⟩ ?_
     rintro _ _ w4 ⟨long1, k_, rfl, hI, rfl⟩
     obtain ⟨again_1, again_1_h, h⟩ : ∃ again_1 : Slc → Int → World → Prop, (∀ long1' k_' w', again_1 long1' k_' w' → I long1' k_' w' ∧ μ long1' k_' w' < μ long1 k_ w4) ∧ F_towpathlaw01_Book_growVersion_L1 b_ i again_ b_1 again_1 long1 k_ w4 := ⟨_, fun _ _ _ h => h, hr long1 k_ w4 hI⟩
     clear h0 hI
     unfold F_towpathlaw01_Book_growVersion_L1 at h
     refine Ys ?_
     refine Yp P2 [0, 2, 3, 4, 5, 25] ?_
     refine Yc h (fun h => ?_) fun h => ?_
     · refine Yskip ?_
       refine Ys ?_
       refine Yd 3 ?_
       refine Yr ?_
       refine Yn P2 ?_
       refine Yl h fun v30 h => ?_
       refine Ym1 h fun v31 w5 h => ?_
       refine Yw (sl_ 1 1) h fun b_2 w6 h => ?_
       obtain ⟨src, hs, h⟩ := h
       refine reg_append (t := 123) (tx := 123) (e := 128) (a := (Operand.tmp 28)) (xo := (Operand.tmp 32)) (s := long1) (x := (Slc.mk (some ⟨b_2, 0, none⟩) 1 1)) (sz := 3) (by_ := 32) (zs := [Value.int .i64 0, Value.string ByteArray.empty, Value.bool false]) (ty := 123) (dst := some 33)  src (by kernel_rfl) (by kernel_rfl) (by kernel_rfl) (by kernel_rfl) (by kernel_rfl) (by kernel_rfl) (by kernel_rfl) (by kernel_rfl) (by kernel_rfl) hs (AppendW.mono h (fun long2 w7 h => ?_))
       refine Yf P1 [0, 2, 3, 4, 5] ?_
       refine Yr ?_
       refine Yf P3 [0, 2, 3, 4, 5] ?_
       have hb_ := again_1_h _ _ _ h
       exact ⟨_, hb_.2, _, Sub.mk (by kernel_rfl), long2, (IntKind.i64.wrap (k_ + 1)), rfl, hb_.1, rfl⟩
     · refine Yexit 2 ?_
       refine Yr ?_
       refine Yn P1 ?_
       refine Yv 34 h fun hp_14 h => ?_
       refine Yn P1 ?_
       refine Yn P1 ?_
       refine Yl h fun v37 h => ?_
       refine Yn P2 ?_
       obtain ⟨hp_15, h⟩ := h
       refine Yu 37 (fun pp => .slice pp v37.len v37.cap) hp_15 ?_
       refine Yi h fun h => ?_
       refine Yn P1 ?_
       refine Yo h fun w8 h => ?_
       refine Yf [] [0, 2] ?_
       refine Yr ?_
       refine Yf P3 [0, 2] ?_
       have hb_ := again__h _ _ h
       exact ⟨_, hb_.2, _, Sub.mk (by kernel_rfl), (IntKind.i64.wrap (i + 1)), rfl, hb_.1, rfl⟩
   · refine Yexit 0 ?_
     repeat (first | refine seqQ_exit ?_ | refine loopQ_exit ?_ | refine cutQ_exit ?_ | refine blockQ_hit ?_ | refine blockQ_miss (by kernel_rfl) ?_)
     refine retQ_normal ?_
     repeat (first | refine seqQ_ret ?_ | refine blockQ_ret ?_ | refine loopQ_ret ?_ | refine cutQ_ret ?_)
     exact retT (rs := []) (vs := []) (by kernel_rfl) (trivial) (by kernel_rfl) ⟨rfl, h⟩

/-! ### (*towpath/towpathlaw01.Book).growTxn (function 53) -/

theorem S_towpathlaw01_Book_growTxn {b_ : Option Addr} {w : World} {R : World → Prop} (h : F_towpathlaw01_Book_growTxn b_ R w) : C_towpathlaw01_Book_growTxn b_ w R := by
 unfold F_towpathlaw01_Book_growTxn at h
 refine Yh Tryz.func53 ?_
 · refine Yp P1 [0, 2] ?_
   refine Yd 0 ?_
   obtain ⟨I, μ, h0, hr⟩ := h
   refine Yloop (fun m l w => ∃ (i : Int), l = [(0, Value.pointer b_), (2, Value.int .i64 i)] ∧ I i w ∧ μ i w = m) ⟨0, rfl, h0, rfl⟩ ?_
   rintro _ _ w1 ⟨i, rfl, hI, rfl⟩
   obtain ⟨again_, again__h, h⟩ : ∃ again_ : Int → World → Prop, (∀ i' w', again_ i' w' → I i' w' ∧ μ i' w' < μ i w1) ∧ F_towpathlaw01_Book_growTxn_L0 b_ R again_ i w1 := ⟨_, fun _ _ h => h, hr i w1 hI⟩
   clear h0 hI
   unfold F_towpathlaw01_Book_growTxn_L0 at h
   refine Ys ?_
   refine Yt ?_
   refine Yn P2 ?_
   refine Yv 7 h fun hp_3 h => ?_
   refine Yn P1 ?_
   refine Yn P1 ?_
   refine Yl h fun v10 h => ?_
   refine Yf P2 [0, 2, 12] ?_
   refine Yc h (fun h => ?_) fun h => ?_
   · exact h.elim
   · refine Yexit 0 ?_
     repeat (first | refine seqQ_exit ?_ | refine loopQ_exit ?_ | refine cutQ_exit ?_ | refine blockQ_hit ?_ | refine blockQ_miss (by kernel_rfl) ?_)
     refine retQ_normal ?_
     repeat (first | refine seqQ_ret ?_ | refine blockQ_ret ?_ | refine loopQ_ret ?_ | refine cutQ_ret ?_)
     exact retT (rs := []) (vs := []) (by kernel_rfl) (trivial) (by kernel_rfl) ⟨rfl, h⟩

/-! ### (*towpath/towpathlaw01.Book).growHeld (function 54) -/

theorem S_towpathlaw01_Book_growHeld {b_ : Option Addr} {w : World} {R : World → Prop} (h : F_towpathlaw01_Book_growHeld b_ R w) : C_towpathlaw01_Book_growHeld b_ w R := by
 unfold F_towpathlaw01_Book_growHeld at h
 refine Yh Tryz.func54 ?_
 · refine Yp P1 [0, 2] ?_
   refine Yd 0 ?_
   obtain ⟨I, μ, h0, hr⟩ := h
   refine Yloop (fun m l w => ∃ (i : Int), l = [(0, Value.pointer b_), (2, Value.int .i64 i)] ∧ I i w ∧ μ i w = m) ⟨0, rfl, h0, rfl⟩ ?_
   rintro _ _ w1 ⟨i, rfl, hI, rfl⟩
   obtain ⟨again_, again__h, h⟩ : ∃ again_ : Int → World → Prop, (∀ i' w', again_ i' w' → I i' w' ∧ μ i' w' < μ i w1) ∧ F_towpathlaw01_Book_growHeld_L0 b_ R again_ i w1 := ⟨_, fun _ _ h => h, hr i w1 hI⟩
   clear h0 hI
   unfold F_towpathlaw01_Book_growHeld_L0 at h
   refine Ys ?_
   refine Yt ?_
   refine Yn P2 ?_
   refine Yv 7 h fun hp_3 h => ?_
   refine Yn P1 ?_
   refine Yn P1 ?_
   refine Yl h fun v10 h => ?_
   refine Yf P2 [0, 2, 12] ?_
   refine Yc h (fun h => ?_) fun h => ?_
   · refine Yskip ?_
     refine Ys ?_
     refine Yd 1 ?_
     refine Yt ?_
     refine Yn P1 ?_
     refine Yv 15 h fun hp_12 h => ?_
     refine Yn P1 ?_
     refine Yn P1 ?_
     refine Yl h fun v18 h => ?_
     refine Yn P1 ?_
     obtain ⟨hp_13, h⟩ := h
     refine Yu 18 (fun pp => .slice pp v18.len v18.cap) hp_13 ?_
     refine Yi h fun h => ?_
     refine YL h fun v21 h => ?_
     refine Yw pv_ h fun b_1 w2 h => ?_
     refine Yo h fun w3 h => ?_
     refine Yf [] [0, 2, 3] ?_
     refine Yt ?_
     refine Yn P1 ?_
     refine Yl h fun long h => ?_
     refine Yf P1 [0, 2, 3, 4] ?_
     refine Ys ?_
     refine Yp P1 [0, 2, 3, 4, 5] ?_
     refine Yd 2 ?_
     obtain ⟨I, μ, h0, hr⟩ := h
     refine Yloop (fun m l w => ∃ (long1 : Slc) (k_ : Int), l = [(0, Value.pointer b_), (2, Value.int .i64 i), (3, pv_ b_1), (4, sv_ long1), (5, Value.int .i64 k_)] ∧ I long1 k_ w ∧ μ long1 k_ w = m) ⟨long, 0, rfl, h0, rfl⟩ ?_
     rintro _ _ w4 ⟨long1, k_, rfl, hI, rfl⟩
     obtain ⟨again_1, again_1_h, h⟩ : ∃ again_1 : Slc → Int → World → Prop, (∀ long1' k_' w', again_1 long1' k_' w' → I long1' k_' w' ∧ μ long1' k_' w' < μ long1 k_ w4) ∧ F_towpathlaw01_Book_growHeld_L1 b_ i again_ b_1 again_1 long1 k_ w4 := ⟨_, fun _ _ _ h => h, hr long1 k_ w4 hI⟩
     clear h0 hI
     unfold F_towpathlaw01_Book_growHeld_L1 at h
     refine Ys ?_
     refine Yp P2 [0, 2, 3, 4, 5, 25] ?_
     refine Yc h (fun h => ?_) fun h => ?_
     · refine Yskip ?_
       refine Ys ?_
       refine Yd 3 ?_
       refine Yr ?_
       refine Yn P2 ?_
       refine Yl h fun v30 h => ?_
       refine Ym1 h fun v31 w5 h => ?_
       refine Yw (sl_ 1 1) h fun b_2 w6 h => ?_
       obtain ⟨src, hs, h⟩ := h
       refine reg_append (t := 69) (tx := 69) (e := 125) (a := (Operand.tmp 28)) (xo := (Operand.tmp 32)) (s := long1) (x := (Slc.mk (some ⟨b_2, 0, none⟩) 1 1)) (sz := 2) (by_ := 40) (zs := [Value.string ByteArray.empty, Value.slice none 0 0]) (ty := 69) (dst := some 33)  src (by kernel_rfl) (by kernel_rfl) (by kernel_rfl) (by kernel_rfl) (by kernel_rfl) (by kernel_rfl) (by kernel_rfl) (by kernel_rfl) (by kernel_rfl) hs (AppendW.mono h (fun long2 w7 h => ?_))
       refine Yf P1 [0, 2, 3, 4, 5] ?_
       refine Yr ?_
       refine Yf P3 [0, 2, 3, 4, 5] ?_
       have hb_ := again_1_h _ _ _ h
       exact ⟨_, hb_.2, _, Sub.mk (by kernel_rfl), long2, (IntKind.i64.wrap (k_ + 1)), rfl, hb_.1, rfl⟩
     · refine Yexit 2 ?_
       refine Yr ?_
       refine Yn P1 ?_
       refine Yv 34 h fun hp_14 h => ?_
       refine Yn P1 ?_
       refine Yn P1 ?_
       refine Yl h fun v37 h => ?_
       refine Yn P2 ?_
       obtain ⟨hp_15, h⟩ := h
       refine Yu 37 (fun pp => .slice pp v37.len v37.cap) hp_15 ?_
       refine Yi h fun h => ?_
       refine Yn P1 ?_
       refine Yo h fun w8 h => ?_
       refine Yf [] [0, 2] ?_
       refine Yr ?_
       refine Yf P3 [0, 2] ?_
       have hb_ := again__h _ _ h
       exact ⟨_, hb_.2, _, Sub.mk (by kernel_rfl), (IntKind.i64.wrap (i + 1)), rfl, hb_.1, rfl⟩
   · refine Yexit 0 ?_
     repeat (first | refine seqQ_exit ?_ | refine loopQ_exit ?_ | refine cutQ_exit ?_ | refine blockQ_hit ?_ | refine blockQ_miss (by kernel_rfl) ?_)
     refine retQ_normal ?_
     repeat (first | refine seqQ_ret ?_ | refine blockQ_ret ?_ | refine loopQ_ret ?_ | refine cutQ_ret ?_)
     exact retT (rs := []) (vs := []) (by kernel_rfl) (trivial) (by kernel_rfl) ⟨rfl, h⟩

/-! ### (*towpath/towpathlaw01.Book).growHeldList (function 55) -/

theorem S_towpathlaw01_Book_growHeldList {b_ : Option Addr} {w : World} {R : World → Prop} (h : F_towpathlaw01_Book_growHeldList b_ R w) : C_towpathlaw01_Book_growHeldList b_ w R := by
 unfold F_towpathlaw01_Book_growHeldList at h
 refine Yh Tryz.func55 ?_
 · refine Yp P1 [0, 2] ?_
   refine Yd 0 ?_
   obtain ⟨I, μ, h0, hr⟩ := h
   refine Yloop (fun m l w => ∃ (i : Int), l = [(0, Value.pointer b_), (2, Value.int .i64 i)] ∧ I i w ∧ μ i w = m) ⟨0, rfl, h0, rfl⟩ ?_
   rintro _ _ w1 ⟨i, rfl, hI, rfl⟩
   obtain ⟨again_, again__h, h⟩ : ∃ again_ : Int → World → Prop, (∀ i' w', again_ i' w' → I i' w' ∧ μ i' w' < μ i w1) ∧ F_towpathlaw01_Book_growHeldList_L0 b_ R again_ i w1 := ⟨_, fun _ _ h => h, hr i w1 hI⟩
   clear h0 hI
   unfold F_towpathlaw01_Book_growHeldList_L0 at h
   refine Ys ?_
   refine Yt ?_
   refine Yn P2 ?_
   refine Yv 7 h fun hp_3 h => ?_
   refine Yn P1 ?_
   refine Yn P1 ?_
   refine Yl h fun v10 h => ?_
   refine Yf P2 [0, 2, 12] ?_
   refine Yc h (fun h => ?_) fun h => ?_
   · exact h.elim
   · refine Yexit 0 ?_
     repeat (first | refine seqQ_exit ?_ | refine loopQ_exit ?_ | refine cutQ_exit ?_ | refine blockQ_hit ?_ | refine blockQ_miss (by kernel_rfl) ?_)
     refine retQ_normal ?_
     repeat (first | refine seqQ_ret ?_ | refine blockQ_ret ?_ | refine loopQ_ret ?_ | refine cutQ_ret ?_)
     exact retT (rs := []) (vs := []) (by kernel_rfl) (trivial) (by kernel_rfl) ⟨rfl, h⟩

/-! ### (*towpath/towpathlaw01.Book).growEvent (function 56) -/

theorem S_towpathlaw01_Book_growEvent {b_ : Option Addr} {w : World} {R : World → Prop} (h : F_towpathlaw01_Book_growEvent b_ R w) : C_towpathlaw01_Book_growEvent b_ w R := by
 unfold F_towpathlaw01_Book_growEvent at h
 refine Yh Tryz.func56 ?_
 · refine Yp P1 [0, 2] ?_
   refine Yd 0 ?_
   obtain ⟨I, μ, h0, hr⟩ := h
   refine Yloop (fun m l w => ∃ (i : Int), l = [(0, Value.pointer b_), (2, Value.int .i64 i)] ∧ I i w ∧ μ i w = m) ⟨0, rfl, h0, rfl⟩ ?_
   rintro _ _ w1 ⟨i, rfl, hI, rfl⟩
   obtain ⟨again_, again__h, h⟩ : ∃ again_ : Int → World → Prop, (∀ i' w', again_ i' w' → I i' w' ∧ μ i' w' < μ i w1) ∧ F_towpathlaw01_Book_growEvent_L0 b_ R again_ i w1 := ⟨_, fun _ _ h => h, hr i w1 hI⟩
   clear h0 hI
   unfold F_towpathlaw01_Book_growEvent_L0 at h
   refine Ys ?_
   refine Yt ?_
   refine Yn P2 ?_
   refine Yv 7 h fun hp_3 h => ?_
   refine Yn P1 ?_
   refine Yn P1 ?_
   refine Yl h fun v10 h => ?_
   refine Yf P2 [0, 2, 12] ?_
   refine Yc h (fun h => ?_) fun h => ?_
   · exact h.elim
   · refine Yexit 0 ?_
     repeat (first | refine seqQ_exit ?_ | refine loopQ_exit ?_ | refine cutQ_exit ?_ | refine blockQ_hit ?_ | refine blockQ_miss (by kernel_rfl) ?_)
     refine retQ_normal ?_
     repeat (first | refine seqQ_ret ?_ | refine blockQ_ret ?_ | refine loopQ_ret ?_ | refine cutQ_ret ?_)
     exact retT (rs := []) (vs := []) (by kernel_rfl) (trivial) (by kernel_rfl) ⟨rfl, h⟩

/-! ### (*towpath/towpathlaw01.Book).growAnswer (function 57) -/

theorem S_towpathlaw01_Book_growAnswer {b_ : Option Addr} {w : World} {R : World → Prop} (h : F_towpathlaw01_Book_growAnswer b_ R w) : C_towpathlaw01_Book_growAnswer b_ w R := by
 unfold F_towpathlaw01_Book_growAnswer at h
 refine Yh Tryz.func57 ?_
 · refine Yp P1 [0, 2] ?_
   refine Yd 0 ?_
   obtain ⟨I, μ, h0, hr⟩ := h
   refine Yloop (fun m l w => ∃ (i : Int), l = [(0, Value.pointer b_), (2, Value.int .i64 i)] ∧ I i w ∧ μ i w = m) ⟨0, rfl, h0, rfl⟩ ?_
   rintro _ _ w1 ⟨i, rfl, hI, rfl⟩
   obtain ⟨again_, again__h, h⟩ : ∃ again_ : Int → World → Prop, (∀ i' w', again_ i' w' → I i' w' ∧ μ i' w' < μ i w1) ∧ F_towpathlaw01_Book_growAnswer_L0 b_ R again_ i w1 := ⟨_, fun _ _ h => h, hr i w1 hI⟩
   clear h0 hI
   unfold F_towpathlaw01_Book_growAnswer_L0 at h
   refine Ys ?_
   refine Yt ?_
   refine Yn P2 ?_
   refine Yv 7 h fun hp_3 h => ?_
   refine Yn P1 ?_
   refine Yn P1 ?_
   refine Yl h fun v10 h => ?_
   refine Yf P2 [0, 2, 12] ?_
   refine Yc h (fun h => ?_) fun h => ?_
   · exact h.elim
   · refine Yexit 0 ?_
     repeat (first | refine seqQ_exit ?_ | refine loopQ_exit ?_ | refine cutQ_exit ?_ | refine blockQ_hit ?_ | refine blockQ_miss (by kernel_rfl) ?_)
     refine retQ_normal ?_
     repeat (first | refine seqQ_ret ?_ | refine blockQ_ret ?_ | refine loopQ_ret ?_ | refine cutQ_ret ?_)
     exact retT (rs := []) (vs := []) (by kernel_rfl) (trivial) (by kernel_rfl) ⟨rfl, h⟩

/-! ### (*towpath/towpathlaw01.Book).lookByte (function 58) -/

theorem S_towpathlaw01_Book_lookByte {b_ : Option Addr} {w : World} {R : Bool → World → Prop} (h : F_towpathlaw01_Book_lookByte b_ R w) : C_towpathlaw01_Book_lookByte b_ w R := by
 unfold F_towpathlaw01_Book_lookByte at h
 refine Yh Tryz.func58 ?_
 · refine Yp P1 [0] ?_
   refine Ys ?_
   refine Yp P1 [0, 3] ?_
   refine Yd 0 ?_
   obtain ⟨I, μ, h0, hr⟩ := h
   refine Yloop (fun m l w => ∃ (i : Int), l = [(0, Value.pointer b_), (3, Value.int .i64 i)] ∧ I i w ∧ μ i w = m) ⟨0, rfl, h0, rfl⟩ ?_
   rintro _ _ w1 ⟨i, rfl, hI, rfl⟩
   obtain ⟨again_, again__h, h⟩ : ∃ again_ : Int → World → Prop, (∀ i' w', again_ i' w' → I i' w' ∧ μ i' w' < μ i w1) ∧ F_towpathlaw01_Book_lookByte_L0 b_ R again_ i w1 := ⟨_, fun _ _ h => h, hr i w1 hI⟩
   clear h0 hI
   unfold F_towpathlaw01_Book_lookByte_L0 at h
   refine Ys ?_
   refine Yt ?_
   refine Yn P2 ?_
   refine Yv 7 h fun hp_7 h => ?_
   refine Yn P1 ?_
   refine Yn P1 ?_
   refine Yl h fun v10 h => ?_
   refine Yf P2 [0, 3, 12] ?_
   refine Yc h (fun h => ?_) fun h => ?_
   · exact h.elim
   · refine Yexit 0 ?_
     refine Yp P1 [2] ?_
     exact YS ⟨true, rfl, h⟩
end
end Go.Proofs.YtpedclhflmhakaaGreatDoor
