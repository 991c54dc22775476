/- WRITTEN BY PROGRAM (dec.py): for each Go function the clean formula F, the call's contract C, and the proof S that F gives C. -/
import Derived.Test.YtpdegdnigcnjiaaRows
import Derived.Test.YtpdegdnigcnjiaaGF
namespace Go.Proofs.Ytpdegdnigcnjiaa
open Go
set_option linter.unusedVariables false
set_option maxRecDepth 100000
set_option maxHeartbeats 4000000
noncomputable section

/-! ### towpath/towpathlaw01.Beyond (function 10) -/

theorem S_towpathlaw01_Beyond {l_ : Slc} {w : World} {R : Bool → World → Prop} (h : F_towpathlaw01_Beyond l_ R w) : C_towpathlaw01_Beyond l_ w R := by
 unfold F_towpathlaw01_Beyond at h
 refine Yh Try.func10 ?_
 · refine Yp P1 [0] ?_
   refine Yp P1 [0, 3] ?_
   refine Ys ?_
   refine Yp P1 [0, 3, 4] ?_
   refine Yd 0 ?_
   obtain ⟨I, μ, h0, hr⟩ := h
   refine Yloop (fun m l w => ∃ (n_ : Int) (i : Int), l = [(0, sv_ l_), (3, Value.int .i64 n_), (4, Value.int .i64 i)] ∧ I n_ i w ∧ μ n_ i w = m) ⟨0, 0, rfl, h0, rfl⟩ ?_
   rintro _ _ w1 ⟨n_, i, rfl, hI, rfl⟩
   obtain ⟨again_, again__h, h⟩ : ∃ again_ : Int → Int → World → Prop, (∀ n_' i' w', again_ n_' i' w' → I n_' i' w' ∧ μ n_' i' w' < μ n_ i w1) ∧ F_towpathlaw01_Beyond_L0 l_ R again_ n_ i w1 := ⟨_, fun _ _ _ h => h, hr n_ i w1 hI⟩
   clear h0 hI
   unfold F_towpathlaw01_Beyond_L0 at h
   refine Ys ?_
   refine Yp P4 [0, 3, 4, 8] ?_
   refine Yc h (fun h => ?_) fun h => ?_
   · refine Yskip ?_
     refine Ys ?_
     refine Yd 1 ?_
     refine Yt ?_
     refine Yn P3 ?_
     obtain ⟨hp_7, h⟩ := h
     refine Yu 12 (fun pp => .slice pp l_.len l_.cap) hp_7 ?_
     refine Yi1 h fun h => ?_
     refine Yl h fun v15 h => ?_
     refine Yf P2 [0, 3, 4] ?_
     refine Yp P2 [0, 3, 4, 18] ?_
     refine Yc h (fun h => ?_) fun h => ?_
     · refine Yp P1 [2] ?_
       exact YS ⟨true, rfl, h⟩
     · refine Yskip ?_
       refine Yr ?_
       refine Yf P3 [0, 3, 4] ?_
       have hb_ := again__h _ _ _ h
       exact ⟨_, hb_.2, _, Sub.mk (by kernel_rfl), (IntKind.i64.wrap (n_ + v15)), (IntKind.i64.wrap (i + 1)), rfl, hb_.1, rfl⟩
   · refine Yexit 0 ?_
     refine Yp P1 [2] ?_
     exact YS ⟨false, rfl, h⟩

/-! ### towpath/towpathlaw01.SameBytes (function 14) -/
def c14_0 := cb_ Try.f14
def c14_3 := cr_ c14_0
def c14_13 := cr_ c14_3
def c14_14 := cl_ c14_13
def c14_17 := cr_ c14_14
def c14_18 := cl_ c14_17
def c14_19 := cl_ c14_18
def c14_26 := cr_ c14_19
def c14_27 := cl_ c14_26
def c14_28 := cl_ c14_27
def c14_29 := cl_ c14_28
def r14_29 := co_ c14_29

theorem S_towpathlaw01_SameBytes {a_ : Slc} {b_ : Slc} {w : World} {R : Bool → World → Prop} (h : F_towpathlaw01_SameBytes a_ b_ R w) : C_towpathlaw01_SameBytes a_ b_ w R := by
 unfold F_towpathlaw01_SameBytes at h
 refine Yh Try.func14 ?_
 · refine Yp P1 [0, 1] ?_
   refine Ys ?_
   refine Yp (Pl 5) [0, 1, 10] ?_
   refine Yc h (fun h => ?_) fun h => ?_
   · refine Yp P1 [4] ?_
     exact YS ⟨false, rfl, h⟩
   · refine Yskip ?_
     refine Ys ?_
     refine Yp P1 [0, 1, 5] ?_
     refine Yd 0 ?_
     obtain ⟨I, μ, h0, hr⟩ := h
     refine Yloop (fun m l w => ∃ (i : Int), l = [(0, sv_ a_), (1, sv_ b_), (5, Value.int .i64 i)] ∧ I i w ∧ μ i w = m) ⟨0, rfl, h0, rfl⟩ ?_
     rintro _ _ w1 ⟨i, rfl, hI, rfl⟩
     obtain ⟨again_, again__h, h⟩ : ∃ again_ : Int → World → Prop, (∀ i' w', again_ i' w' → I i' w' ∧ μ i' w' < μ i w1) ∧ F_towpathlaw01_SameBytes_L0 a_ b_ R again_ i w1 := ⟨_, fun _ _ h => h, hr i w1 hI⟩
     clear h0 hI
     unfold F_towpathlaw01_SameBytes_L0 at h
     refine Ys ?_
     refine Yp P4 [0, 1, 5, 14] ?_
     refine Yc h (fun h => ?_) fun h => ?_
     · refine Yskip ?_
       refine Ys ?_
       refine Yd 1 ?_
       refine Ys ?_
       refine wpE_drawregion (id := 6) (ops := r14_29) (by kernel_rfl) (by kernel_rfl) (by kernel_rfl) ?_
       refine Qn P2 ?_
       obtain ⟨hp_14, h⟩ := h
       refine Qu 17 (fun pp => .slice pp a_.len a_.cap) hp_14 ?_
       refine Qi1 h fun h => ?_
       refine Ql h fun v20 h => ?_
       refine Qn P2 ?_
       obtain ⟨hp_15, h⟩ := h
       refine Qu 21 (fun pp => .slice pp b_.len b_.cap) hp_15 ?_
       refine Qi1 h fun h => ?_
       refine Ql h fun v24 h => ?_
       refine Qf P1 [0, 1, 5, 25] h fun w2 h => ?_
       refine Yc h (fun h => ?_) fun h => ?_
       · refine Yp P1 [4] ?_
         exact YS ⟨false, rfl, h⟩
       · refine Yskip ?_
         refine Yr ?_
         refine Yf P3 [0, 1, 5] ?_
         have hb_ := again__h _ _ h
         exact ⟨_, hb_.2, _, Sub.mk (by kernel_rfl), (IntKind.i64.wrap (i + 1)), rfl, hb_.1, rfl⟩
     · refine Yexit 0 ?_
       refine Yp P1 [4] ?_
       exact YS ⟨true, rfl, h⟩

/-! ### towpath/towpathlaw01.SavedSize (function 29) -/
def c29_0 := cb_ Try.f29
def c29_3 := cr_ c29_0
def c29_4 := cl_ c29_3
def r29_4 := co_ c29_4

theorem S_towpathlaw01_SavedSize {s : T_api_Saved} {w : World} {R : Int → World → Prop} (h : F_towpathlaw01_SavedSize s R w) : C_towpathlaw01_SavedSize s w R := by
 unfold F_towpathlaw01_SavedSize at h
 refine Yh Try.func29 ?_
 · refine Yt ?_
   refine Yw pv_ h fun b_ w1 h => ?_
   refine Yf P1 [1] ?_
   refine Ys ?_
   refine wpE_drawregion (id := 1) (ops := r29_4) (by kernel_rfl) (by kernel_rfl) (by kernel_rfl) ?_
   refine Qn P1 ?_
   refine Ql h fun v4 h => ?_
   refine Qn P2 ?_
   refine Ql h fun v7 h => ?_
   obtain ⟨v8, hq, h⟩ := h
   refine qreg_enter (op := (Op.call (Call.mk (Callee.value (Operand.func 62)) #[(Operand.tmp 7)] #[26]))) (ty := 3) (dst := some 8) 62 #[sv_ v7] (Value.int .i64 v8) (by kernel_rfl) (fun ww => by kernel_rfl) (fun w' he => Calls.mono (hq w' he) (by rintro _ w'' ⟨_, rfl, rfl, hE⟩; exact ⟨rfl, hE⟩)) ?_
   clear hq
   refine Qf P2 [2] h fun w3 h => ?_
   exact YS ⟨(IntKind.i64.wrap (((v4.len : Nat) : Int) + v8)), rfl, h⟩

/-! ### towpath/towpathlaw01.SameHeld (function 33) -/

theorem S_towpathlaw01_SameHeld {a_ : T_api_Held} {b_ : T_api_Held} {w : World} {R : Bool → World → Prop} (h : F_towpathlaw01_SameHeld a_ b_ R w) : C_towpathlaw01_SameHeld a_ b_ w R := by
 unfold F_towpathlaw01_SameHeld at h
 refine Yh Try.func33 ?_
 · refine Yt ?_
   refine Yw pv_ h fun b_1 w1 h => ?_
   refine Yw pv_ h fun b_2 w2 h => ?_
   refine Yf P1 [2, 3] ?_
   refine Yt ?_
   refine Yn P1 ?_
   refine Yl h fun v6 h => ?_
   refine Yn P1 ?_
   refine Yl h fun v8 h => ?_
   refine Yn P3 ?_
   refine Yspl 10 h (fun h => ?_) fun h => ?_
   · refine Yl h fun v12 h => ?_
     refine Yn [.sure] ?_
     refine Yl h fun v14 h => ?_
     refine Ym1 h fun v15 w3 h => ?_
     refine Yf P2 [4] ?_
     exact YS ⟨v15, rfl, h⟩
   · refine Yf [.skip, .skip, .skip, .skip, .plain, .plain] [4] ?_
     exact YS ⟨false, rfl, h⟩

/-! ### towpath/towpathlaw01.HeldsSize (function 62) -/
def c62_0 := cb_ Try.f62
def c62_3 := cr_ c62_0
def c62_6 := cr_ c62_3
def c62_7 := cl_ c62_6
def c62_10 := cr_ c62_7
def c62_11 := cl_ c62_10
def c62_12 := cl_ c62_11
def c62_19 := cr_ c62_12
def c62_20 := cl_ c62_19
def c62_21 := cl_ c62_20
def r62_21 := co_ c62_21

theorem S_towpathlaw01_HeldsSize {l_ : Slc} {w : World} {R : Int → World → Prop} (h : F_towpathlaw01_HeldsSize l_ R w) : C_towpathlaw01_HeldsSize l_ w R := by
 unfold F_towpathlaw01_HeldsSize at h
 refine Yh Try.func62 ?_
 · refine Yp P1 [0] ?_
   refine Yp P3 [0, 3] ?_
   refine Ys ?_
   refine Yp P1 [0, 3, 4] ?_
   refine Yd 0 ?_
   obtain ⟨I, μ, h0, hr⟩ := h
   refine Yloop (fun m l w => ∃ (n_ : Int) (i : Int), l = [(0, sv_ l_), (3, Value.int .i64 n_), (4, Value.int .i64 i)] ∧ I n_ i w ∧ μ n_ i w = m) ⟨((l_.len : Nat) : Int), 0, rfl, h0, rfl⟩ ?_
   rintro _ _ w1 ⟨n_, i, rfl, hI, rfl⟩
   obtain ⟨again_, again__h, h⟩ : ∃ again_ : Int → Int → World → Prop, (∀ n_' i' w', again_ n_' i' w' → I n_' i' w' ∧ μ n_' i' w' < μ n_ i w1) ∧ F_towpathlaw01_HeldsSize_L0 l_ R again_ n_ i w1 := ⟨_, fun _ _ _ h => h, hr n_ i w1 hI⟩
   clear h0 hI
   unfold F_towpathlaw01_HeldsSize_L0 at h
   refine Ys ?_
   refine Yp [.plain, .plain, .plain, .plain, .plain, .plain, .plain, .pick] [0, 3, 4, 14] ?_
   refine Yc h (fun h => ?_) fun h => ?_
   · refine Yskip ?_
     refine Ys ?_
     refine Yd 1 ?_
     refine wpE_drawregion (id := 5) (ops := r62_21) (by kernel_rfl) (by kernel_rfl) (by kernel_rfl) ?_
     refine Qn P3 ?_
     obtain ⟨hp_6, h⟩ := h
     refine Qu 18 (fun pp => .slice pp l_.len l_.cap) hp_6 ?_
     refine Qi h fun h => ?_
     refine Qn P1 ?_
     refine Ql h fun v22 h => ?_
     refine Qn P4 ?_
     obtain ⟨hp_7, h⟩ := h
     refine Qu 25 (fun pp => .slice pp l_.len l_.cap) hp_7 ?_
     refine Qi h fun h => ?_
     refine Qn P1 ?_
     refine Ql h fun v29 h => ?_
     obtain ⟨v30, hq, h⟩ := h
     refine qreg_enter (op := (Op.call (Call.mk (Callee.value (Operand.func 87)) #[(Operand.tmp 29)] #[71]))) (ty := 3) (dst := some 30) 87 #[sv_ v29] (Value.int .i64 v30) (by kernel_rfl) (fun ww => by kernel_rfl) (fun w' he => Calls.mono (hq w' he) (by rintro _ w'' ⟨_, rfl, rfl, hE⟩; exact ⟨rfl, hE⟩)) ?_
     clear hq
     refine Qf P2 [0, 3, 4] h fun w3 h => ?_
     refine Yr ?_
     refine Yf P3 [0, 3, 4] ?_
     have hb_ := again__h _ _ _ h
     exact ⟨_, hb_.2, _, Sub.mk (by kernel_rfl), (IntKind.i64.wrap ((IntKind.i64.wrap (n_ + ((v22.size : Nat) : Int))) + v30)), (IntKind.i64.wrap (i + 1)), rfl, hb_.1, rfl⟩
   · refine Yexit 0 ?_
     refine Yp P2 [2] ?_
     exact YS ⟨n_, rfl, h⟩

/-! ### towpath/towpathlaw01.SameVersions (function 65) -/
def c65_0 := cb_ Try.f65
def c65_3 := cr_ c65_0
def c65_13 := cr_ c65_3
def c65_14 := cl_ c65_13
def c65_17 := cr_ c65_14
def c65_18 := cl_ c65_17
def c65_19 := cl_ c65_18
def c65_26 := cr_ c65_19
def c65_27 := cl_ c65_26
def c65_28 := cl_ c65_27
def c65_29 := cl_ c65_28
def r65_29 := co_ c65_29

theorem S_towpathlaw01_SameVersions {a_ : Slc} {b_ : Slc} {w : World} {R : Bool → World → Prop} (h : F_towpathlaw01_SameVersions a_ b_ R w) : C_towpathlaw01_SameVersions a_ b_ w R := by
 unfold F_towpathlaw01_SameVersions at h
 refine Yh Try.func65 ?_
 · refine Yp P1 [0, 1] ?_
   refine Ys ?_
   refine Yp (Pl 5) [0, 1, 10] ?_
   refine Yc h (fun h => ?_) fun h => ?_
   · refine Yp P1 [4] ?_
     exact YS ⟨false, rfl, h⟩
   · refine Yskip ?_
     refine Ys ?_
     refine Yp P1 [0, 1, 5] ?_
     refine Yd 0 ?_
     obtain ⟨I, μ, h0, hr⟩ := h
     refine Yloop (fun m l w => ∃ (i : Int), l = [(0, sv_ a_), (1, sv_ b_), (5, Value.int .i64 i)] ∧ I i w ∧ μ i w = m) ⟨0, rfl, h0, rfl⟩ ?_
     rintro _ _ w1 ⟨i, rfl, hI, rfl⟩
     obtain ⟨again_, again__h, h⟩ : ∃ again_ : Int → World → Prop, (∀ i' w', again_ i' w' → I i' w' ∧ μ i' w' < μ i w1) ∧ F_towpathlaw01_SameVersions_L0 a_ b_ R again_ i w1 := ⟨_, fun _ _ h => h, hr i w1 hI⟩
     clear h0 hI
     unfold F_towpathlaw01_SameVersions_L0 at h
     refine Ys ?_
     refine Yp P4 [0, 1, 5, 14] ?_
     refine Yc h (fun h => ?_) fun h => ?_
     · refine Yskip ?_
       refine Ys ?_
       refine Yd 1 ?_
       refine Ys ?_
       refine wpE_drawregion (id := 6) (ops := r65_29) (by kernel_rfl) (by kernel_rfl) (by kernel_rfl) ?_
       refine Qn P2 ?_
       obtain ⟨hp_14, h⟩ := h
       refine Qu 17 (fun pp => .slice pp a_.len a_.cap) hp_14 ?_
       refine Qi h fun h => ?_
       refine QL h fun v20 h => ?_
       refine Qn P2 ?_
       obtain ⟨hp_15, h⟩ := h
       refine Qu 21 (fun pp => .slice pp b_.len b_.cap) hp_15 ?_
       refine Qi h fun h => ?_
       refine QL h fun v24 h => ?_
       refine qreg_val (op := (Op.binOp BinOp.neq 89 (Operand.tmp 20) (Operand.tmp 24) 89)) (ty := 4) (dst := some 25) (Value.bool (!(((v20.Number == v24.Number) && (v20.Val == v24.Val)) && (v20.Drop == v24.Drop)))) (by kernel_rfl) (fun ww => run_struct_neq (xs := [Value.int .i64 v20.Number, Value.string v20.Val, Value.bool v20.Drop]) (ys := [Value.int .i64 v24.Number, Value.string v24.Val, Value.bool v24.Drop]) (by kernel_rfl) (by kernel_rfl) (by kernel_rfl) (by kernel_rfl) (by kernel_rfl) ww) ?_
       refine Qf [] [0, 1, 5, 25] h fun w2 h => ?_
       refine Yc h (fun h => ?_) fun h => ?_
       · refine Yp P1 [4] ?_
         exact YS ⟨false, rfl, h⟩
       · refine Yskip ?_
         refine Yr ?_
         refine Yf P3 [0, 1, 5] ?_
         have hb_ := again__h _ _ h
         exact ⟨_, hb_.2, _, Sub.mk (by kernel_rfl), (IntKind.i64.wrap (i + 1)), rfl, hb_.1, rfl⟩
     · refine Yexit 0 ?_
       refine Yp P1 [4] ?_
       exact YS ⟨true, rfl, h⟩

/-! ### towpath/towpathlaw01.VersionsSize (function 87) -/

theorem S_towpathlaw01_VersionsSize {l_ : Slc} {w : World} {R : Int → World → Prop} (h : F_towpathlaw01_VersionsSize l_ R w) : C_towpathlaw01_VersionsSize l_ w R := by
 unfold F_towpathlaw01_VersionsSize at h
 refine Yh Try.func87 ?_
 · refine Yp P1 [0] ?_
   refine Yp P3 [0, 3] ?_
   refine Ys ?_
   refine Yp P1 [0, 3, 4] ?_
   refine Yd 0 ?_
   obtain ⟨I, μ, h0, hr⟩ := h
   refine Yloop (fun m l w => ∃ (n_ : Int) (i : Int), l = [(0, sv_ l_), (3, Value.int .i64 n_), (4, Value.int .i64 i)] ∧ I n_ i w ∧ μ n_ i w = m) ⟨((l_.len : Nat) : Int), 0, rfl, h0, rfl⟩ ?_
   rintro _ _ w1 ⟨n_, i, rfl, hI, rfl⟩
   obtain ⟨again_, again__h, h⟩ : ∃ again_ : Int → Int → World → Prop, (∀ n_' i' w', again_ n_' i' w' → I n_' i' w' ∧ μ n_' i' w' < μ n_ i w1) ∧ F_towpathlaw01_VersionsSize_L0 l_ R again_ n_ i w1 := ⟨_, fun _ _ _ h => h, hr n_ i w1 hI⟩
   clear h0 hI
   unfold F_towpathlaw01_VersionsSize_L0 at h
   refine Ys ?_
   refine Yp [.plain, .plain, .plain, .plain, .plain, .plain, .plain, .pick] [0, 3, 4, 14] ?_
   refine Yc h (fun h => ?_) fun h => ?_
   · refine Yskip ?_
     refine Ys ?_
     refine Yd 1 ?_
     refine Yr ?_
     refine Yn P3 ?_
     obtain ⟨hp_3, h⟩ := h
     refine Yu 18 (fun pp => .slice pp l_.len l_.cap) hp_3 ?_
     refine Yi h fun h => ?_
     refine Yn P1 ?_
     refine Yl h fun v22 h => ?_
     refine Yf P3 [0, 3, 4] ?_
     refine Yr ?_
     refine Yf P3 [0, 3, 4] ?_
     have hb_ := again__h _ _ _ h
     exact ⟨_, hb_.2, _, Sub.mk (by kernel_rfl), (IntKind.i64.wrap (n_ + ((v22.size : Nat) : Int))), (IntKind.i64.wrap (i + 1)), rfl, hb_.1, rfl⟩
   · refine Yexit 0 ?_
     refine Yp P2 [2] ?_
     exact YS ⟨n_, rfl, h⟩
end
end Go.Proofs.Ytpdegdnigcnjiaa
