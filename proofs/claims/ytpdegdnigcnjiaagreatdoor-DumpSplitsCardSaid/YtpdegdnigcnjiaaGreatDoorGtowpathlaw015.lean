/- WRITTEN BY PROGRAM (dec.py): for each Go function the clean formula F, the call's contract C, and the proof S that F gives C. -/
import Derived.Test.YtpdegdnigcnjiaaGreatDoorRows
import Derived.Test.YtpdegdnigcnjiaaGreatDoorGF
namespace Go.Proofs.YtpdegdnigcnjiaaGreatDoor
open Go
set_option linter.unusedVariables false
set_option maxRecDepth 100000
set_option maxHeartbeats 4000000
noncomputable section

/-! ### towpath/towpathlaw01.TwinInts (function 88) -/

theorem S_towpathlaw01_TwinInts {l_ : Slc} {w : World} {R : Slc → World → Prop} (h : F_towpathlaw01_TwinInts l_ R w) : C_towpathlaw01_TwinInts l_ w R := by
 unfold F_towpathlaw01_TwinInts at h
 refine Yh Tryz.func88 ?_
 · refine Yp P1 [0] ?_
   refine Yt ?_
   refine Yn P3 ?_
   obtain ⟨h0, h1, h2, h⟩ := h
   refine reg_makeSlice (t := 23) (e := 3) (lo := (Operand.const (Value.int IntKind.i64 0))) (co := (Operand.tmp 7)) (l := 0) (c := (IntKind.i64.wrap (((l_.len : Nat) : Int) + 1))) (sz := 1) (by_ := 8) (zs := [Value.int .i64 0]) (ty := 23) (dst := some 8) (by kernel_rfl) (by kernel_rfl) (by kernel_rfl) (by kernel_rfl) (by kernel_rfl) (by kernel_rfl) (by kernel_rfl) (by kernel_rfl) (by kernel_rfl) h0 h1 h2 (fun b_ w1 hb hw => ?_)
   replace h := h b_ w1 hb hw
   clear hb hw
   refine Yf P1 [0, 3] ?_
   refine Ys ?_
   refine Yp P1 [0, 3, 4] ?_
   refine Yd 0 ?_
   obtain ⟨I, μ, h0, hr⟩ := h
   refine Yloop (fun m l w => ∃ (t_ : Slc) (i : Int), l = [(0, sv_ l_), (3, sv_ t_), (4, Value.int .i64 i)] ∧ I t_ i w ∧ μ t_ i w = m) ⟨(Slc.mk (some ⟨b_, 0, none⟩) 0 ((IntKind.i64.wrap (((l_.len : Nat) : Int) + 1)).toNat)), 0, rfl, h0, rfl⟩ ?_
   rintro _ _ w2 ⟨t_, i, rfl, hI, rfl⟩
   obtain ⟨again_, again__h, h⟩ : ∃ again_ : Slc → Int → World → Prop, (∀ t_' i' w', again_ t_' i' w' → I t_' i' w' ∧ μ t_' i' w' < μ t_ i w2) ∧ F_towpathlaw01_TwinInts_L0 l_ R again_ t_ i w2 := ⟨_, fun _ _ _ h => h, hr t_ i w2 hI⟩
   clear h0 hI
   unfold F_towpathlaw01_TwinInts_L0 at h
   refine Ys ?_
   refine Yp P4 [0, 3, 4, 12] ?_
   refine Yc h (fun h => ?_) fun h => ?_
   · refine Yskip ?_
     refine Ys ?_
     refine Yd 1 ?_
     refine Yr ?_
     refine Yn P3 ?_
     obtain ⟨hp_3, h⟩ := h
     refine Yu 16 (fun pp => .slice pp l_.len l_.cap) hp_3 ?_
     refine Yi1 h fun h => ?_
     refine Yl h fun v19 h => ?_
     refine Yw (sl_ 1 1) h fun b_1 w3 h => ?_
     obtain ⟨src, hs, h⟩ := h
     refine reg_append (t := 23) (tx := 23) (e := 3) (a := (Operand.tmp 15)) (xo := (Operand.tmp 20)) (s := t_) (x := (Slc.mk (some ⟨b_1, 0, none⟩) 1 1)) (sz := 1) (by_ := 8) (zs := [Value.int .i64 0]) (ty := 23) (dst := some 21)  src (by kernel_rfl) (by kernel_rfl) (by kernel_rfl) (by kernel_rfl) (by kernel_rfl) (by kernel_rfl) (by kernel_rfl) (by kernel_rfl) (by kernel_rfl) hs (AppendW.mono h (fun t_1 w4 h => ?_))
     refine Yf P1 [0, 3, 4] ?_
     refine Yr ?_
     refine Yf P3 [0, 3, 4] ?_
     have hb_ := again__h _ _ _ h
     exact ⟨_, hb_.2, _, Sub.mk (by kernel_rfl), t_1, (IntKind.i64.wrap (i + 1)), rfl, hb_.1, rfl⟩
   · refine Yexit 0 ?_
     refine Yt ?_
     refine Yn P1 ?_
     refine Yw (sl_ 1 1) h fun b_2 w5 h => ?_
     obtain ⟨src, hs, h⟩ := h
     refine reg_append (t := 23) (tx := 23) (e := 3) (a := (Operand.tmp 22)) (xo := (Operand.tmp 23)) (s := t_) (x := (Slc.mk (some ⟨b_2, 0, none⟩) 1 1)) (sz := 1) (by_ := 8) (zs := [Value.int .i64 0]) (ty := 23) (dst := some 24)  src (by kernel_rfl) (by kernel_rfl) (by kernel_rfl) (by kernel_rfl) (by kernel_rfl) (by kernel_rfl) (by kernel_rfl) (by kernel_rfl) (by kernel_rfl) hs (AppendW.mono h (fun v24 w6 h => ?_))
     refine Yn P2 ?_
     obtain ⟨h0, h1, h⟩ := h
     refine reg_sliceHi (t := 23) (e := 3) (x := (Operand.tmp 24)) (hi := (Operand.tmp 26)) (p := v24.ptr) (l := v24.len) (c := v24.cap) (sz := 1) (k := .i64) (j := ((l_.len : Nat) : Int)) (ty := 23) (dst := some 27) (by kernel_rfl) (by kernel_rfl) (by kernel_rfl) (by kernel_rfl) (by kernel_rfl) h0 h1 ?_
     refine Yf P1 [2] ?_
     exact YS ⟨(Slc.mk v24.ptr (((l_.len : Nat) : Int).toNat) v24.cap), rfl, h⟩

/-! ### towpath/towpathlaw01.TwinHelds (function 89) -/

theorem S_towpathlaw01_TwinHelds {l_ : Slc} {w : World} {R : Slc → World → Prop} (h : F_towpathlaw01_TwinHelds l_ R w) : C_towpathlaw01_TwinHelds l_ w R := by
 unfold F_towpathlaw01_TwinHelds at h
 refine Yh Tryz.func89 ?_
 · refine Yp P1 [0] ?_
   refine Yt ?_
   refine Yn P3 ?_
   obtain ⟨h0, h1, h2, h⟩ := h
   refine reg_makeSlice (t := 66) (e := 104) (lo := (Operand.const (Value.int IntKind.i64 0))) (co := (Operand.tmp 7)) (l := 0) (c := (IntKind.i64.wrap (((l_.len : Nat) : Int) + 1))) (sz := 2) (by_ := 40) (zs := [Value.string ByteArray.empty, Value.slice none 0 0]) (ty := 66) (dst := some 8) (by kernel_rfl) (by kernel_rfl) (by kernel_rfl) (by kernel_rfl) (by kernel_rfl) (by kernel_rfl) (by kernel_rfl) (by kernel_rfl) (by kernel_rfl) h0 h1 h2 (fun b_ w1 hb hw => ?_)
   replace h := h b_ w1 hb hw
   clear hb hw
   refine Yf P1 [0, 3] ?_
   refine Ys ?_
   refine Yp P1 [0, 3, 4] ?_
   refine Yd 0 ?_
   obtain ⟨I, μ, h0, hr⟩ := h
   refine Yloop (fun m l w => ∃ (t_ : Slc) (i : Int), l = [(0, sv_ l_), (3, sv_ t_), (4, Value.int .i64 i)] ∧ I t_ i w ∧ μ t_ i w = m) ⟨(Slc.mk (some ⟨b_, 0, none⟩) 0 ((IntKind.i64.wrap (((l_.len : Nat) : Int) + 1)).toNat)), 0, rfl, h0, rfl⟩ ?_
   rintro _ _ w2 ⟨t_, i, rfl, hI, rfl⟩
   obtain ⟨again_, again__h, h⟩ : ∃ again_ : Slc → Int → World → Prop, (∀ t_' i' w', again_ t_' i' w' → I t_' i' w' ∧ μ t_' i' w' < μ t_ i w2) ∧ F_towpathlaw01_TwinHelds_L0 l_ R again_ t_ i w2 := ⟨_, fun _ _ _ h => h, hr t_ i w2 hI⟩
   clear h0 hI
   unfold F_towpathlaw01_TwinHelds_L0 at h
   refine Ys ?_
   refine Yp P4 [0, 3, 4, 12] ?_
   refine Yc h (fun h => ?_) fun h => ?_
   · refine Yskip ?_
     refine Ys ?_
     refine Yd 1 ?_
     refine Yr ?_
     refine Yn P3 ?_
     obtain ⟨hp_3, h⟩ := h
     refine Yu 16 (fun pp => .slice pp l_.len l_.cap) hp_3 ?_
     refine Yi h fun h => ?_
     refine YL h fun v19 h => ?_
     refine Ym1 h fun v20 w3 h => ?_
     refine Yw (sl_ 1 1) h fun b_1 w4 h => ?_
     obtain ⟨src, hs, h⟩ := h
     refine reg_append (t := 66) (tx := 66) (e := 104) (a := (Operand.tmp 15)) (xo := (Operand.tmp 21)) (s := t_) (x := (Slc.mk (some ⟨b_1, 0, none⟩) 1 1)) (sz := 2) (by_ := 40) (zs := [Value.string ByteArray.empty, Value.slice none 0 0]) (ty := 66) (dst := some 22)  src (by kernel_rfl) (by kernel_rfl) (by kernel_rfl) (by kernel_rfl) (by kernel_rfl) (by kernel_rfl) (by kernel_rfl) (by kernel_rfl) (by kernel_rfl) hs (AppendW.mono h (fun t_1 w5 h => ?_))
     refine Yf P1 [0, 3, 4] ?_
     refine Yr ?_
     refine Yf P3 [0, 3, 4] ?_
     have hb_ := again__h _ _ _ h
     exact ⟨_, hb_.2, _, Sub.mk (by kernel_rfl), t_1, (IntKind.i64.wrap (i + 1)), rfl, hb_.1, rfl⟩
   · refine Yexit 0 ?_
     refine Yt ?_
     refine Yn P2 ?_
     refine Yw (sl_ 1 1) h fun b_2 w6 h => ?_
     obtain ⟨src, hs, h⟩ := h
     refine reg_append (t := 66) (tx := 66) (e := 104) (a := (Operand.tmp 23)) (xo := (Operand.tmp 25)) (s := t_) (x := (Slc.mk (some ⟨b_2, 0, none⟩) 1 1)) (sz := 2) (by_ := 40) (zs := [Value.string ByteArray.empty, Value.slice none 0 0]) (ty := 66) (dst := some 26)  src (by kernel_rfl) (by kernel_rfl) (by kernel_rfl) (by kernel_rfl) (by kernel_rfl) (by kernel_rfl) (by kernel_rfl) (by kernel_rfl) (by kernel_rfl) hs (AppendW.mono h (fun v26 w7 h => ?_))
     refine Yn P2 ?_
     obtain ⟨h0, h1, h⟩ := h
     refine reg_sliceHi (t := 66) (e := 104) (x := (Operand.tmp 26)) (hi := (Operand.tmp 28)) (p := v26.ptr) (l := v26.len) (c := v26.cap) (sz := 2) (k := .i64) (j := ((l_.len : Nat) : Int)) (ty := 66) (dst := some 29) (by kernel_rfl) (by kernel_rfl) (by kernel_rfl) (by kernel_rfl) (by kernel_rfl) h0 h1 ?_
     refine Yf P1 [2] ?_
     exact YS ⟨(Slc.mk v26.ptr (((l_.len : Nat) : Int).toNat) v26.cap), rfl, h⟩

/-! ### towpath/towpathlaw01.SameHelds (function 98) -/
def c98_0 := cb_ Tryz.f98
def c98_3 := cr_ c98_0
def c98_13 := cr_ c98_3
def c98_14 := cl_ c98_13
def c98_17 := cr_ c98_14
def c98_18 := cl_ c98_17
def c98_19 := cl_ c98_18
def c98_26 := cr_ c98_19
def c98_27 := cl_ c98_26
def c98_28 := cl_ c98_27
def c98_29 := cl_ c98_28
def r98_29 := co_ c98_29

theorem S_towpathlaw01_SameHelds {a_ : Slc} {b_ : Slc} {w : World} {R : Bool → World → Prop} (h : F_towpathlaw01_SameHelds a_ b_ R w) : C_towpathlaw01_SameHelds a_ b_ w R := by
 unfold F_towpathlaw01_SameHelds at h
 refine Yh Tryz.func98 ?_
 · refine Yp P1 [0, 1] ?_
   refine Ys ?_
   refine Yp (Pl 5) [0, 1, 10] ?_
   refine Yc h (fun h => ?_) fun h => ?_
   · refine Yp P1 [4] ?_
     exact YS ⟨false, rfl, h⟩
   · refine Yskip ?_
     refine Ys ?_
     refine Yp P1 [0, 1, 5] ?_
     refine Yd 0 ?_
     obtain ⟨I, μ, h0, hr⟩ := h
     refine Yloop (fun m l w => ∃ (i : Int), l = [(0, sv_ a_), (1, sv_ b_), (5, Value.int .i64 i)] ∧ I i w ∧ μ i w = m) ⟨0, rfl, h0, rfl⟩ ?_
     rintro _ _ w1 ⟨i, rfl, hI, rfl⟩
     obtain ⟨again_, again__h, h⟩ : ∃ again_ : Int → World → Prop, (∀ i' w', again_ i' w' → I i' w' ∧ μ i' w' < μ i w1) ∧ F_towpathlaw01_SameHelds_L0 a_ b_ R again_ i w1 := ⟨_, fun _ _ h => h, hr i w1 hI⟩
     clear h0 hI
     unfold F_towpathlaw01_SameHelds_L0 at h
     refine Ys ?_
     refine Yp P4 [0, 1, 5, 14] ?_
     refine Yc h (fun h => ?_) fun h => ?_
     · refine Yskip ?_
       refine Ys ?_
       refine Yd 1 ?_
       refine Ys ?_
       refine wpE_drawregion (id := 6) (ops := r98_29) (by kernel_rfl) (by kernel_rfl) (by kernel_rfl) ?_
       refine Qn P2 ?_
       obtain ⟨hp_14, h⟩ := h
       refine Qu 17 (fun pp => .slice pp a_.len a_.cap) hp_14 ?_
       refine Qi h fun h => ?_
       refine QL h fun v20 h => ?_
       refine Qn P2 ?_
       obtain ⟨hp_15, h⟩ := h
       refine Qu 21 (fun pp => .slice pp b_.len b_.cap) hp_15 ?_
       refine Qi h fun h => ?_
       refine QL h fun v24 h => ?_
       obtain ⟨v25, hq, h⟩ := h
       refine qreg_enter (op := (Op.call (Call.mk (Callee.value (Operand.func 159)) #[(Operand.tmp 20), (Operand.tmp 24)] #[104, 104]))) (ty := 4) (dst := some 25) 159 #[Value.agg #[Value.string v20.Key, sv_ v20.Versions], Value.agg #[Value.string v24.Key, sv_ v24.Versions]] (Value.bool v25) (by kernel_rfl) (fun ww => by kernel_rfl) (fun w' he => Calls.mono (hq w' he) (by rintro _ w'' ⟨_, rfl, rfl, hE⟩; exact ⟨rfl, hE⟩)) ?_
       clear hq
       refine Qf P1 [0, 1, 5, 26] h fun w3 h => ?_
       refine Yc h (fun h => ?_) fun h => ?_
       · refine Yp P1 [4] ?_
         exact YS ⟨false, rfl, h⟩
       · refine Yskip ?_
         refine Yr ?_
         refine Yf P3 [0, 1, 5] ?_
         have hb_ := again__h _ _ h
         exact ⟨_, hb_.2, _, Sub.mk (by kernel_rfl), (IntKind.i64.wrap (i + 1)), rfl, hb_.1, rfl⟩
     · refine Yexit 0 ?_
       refine Yp P1 [4] ?_
       exact YS ⟨true, rfl, h⟩

/-! ### towpath/towpathlaw01.LeftInts (function 99) -/
def c99_0 := cb_ Tryz.f99
def c99_3 := cr_ c99_0
def c99_13 := cr_ c99_3
def c99_14 := cl_ c99_13
def c99_17 := cr_ c99_14
def c99_18 := cl_ c99_17
def c99_19 := cl_ c99_18
def c99_26 := cr_ c99_19
def c99_27 := cl_ c99_26
def c99_28 := cl_ c99_27
def c99_29 := cl_ c99_28
def r99_29 := co_ c99_29

theorem S_towpathlaw01_LeftInts {t_ : Slc} {l_ : Slc} {w : World} {R : Bool → World → Prop} (h : F_towpathlaw01_LeftInts t_ l_ R w) : C_towpathlaw01_LeftInts t_ l_ w R := by
 unfold F_towpathlaw01_LeftInts at h
 refine Yh Tryz.func99 ?_
 · refine Yp P1 [0, 1] ?_
   refine Ys ?_
   refine Yp [.plain, .plain, .plain, .plain, .plain, .plain, .plain, .plain, .plain, .plain, .plain, .pick] [0, 1, 18] ?_
   refine Yc h (fun h => ?_) fun h => ?_
   · refine Yp P1 [4] ?_
     exact YS ⟨false, rfl, h⟩
   · refine Yskip ?_
     refine Ys ?_
     refine Yp P1 [0, 1, 5] ?_
     refine Yd 0 ?_
     obtain ⟨I, μ, h0, hr⟩ := h
     refine Yloop (fun m l w => ∃ (i : Int), l = [(0, sv_ t_), (1, sv_ l_), (5, Value.int .i64 i)] ∧ I i w ∧ μ i w = m) ⟨0, rfl, h0, rfl⟩ ?_
     rintro _ _ w1 ⟨i, rfl, hI, rfl⟩
     obtain ⟨again_, again__h, h⟩ : ∃ again_ : Int → World → Prop, (∀ i' w', again_ i' w' → I i' w' ∧ μ i' w' < μ i w1) ∧ F_towpathlaw01_LeftInts_L0 t_ l_ R again_ i w1 := ⟨_, fun _ _ h => h, hr i w1 hI⟩
     clear h0 hI
     unfold F_towpathlaw01_LeftInts_L0 at h
     refine Ys ?_
     refine Yp P4 [0, 1, 5, 22] ?_
     refine Yc h (fun h => ?_) fun h => ?_
     · refine Yskip ?_
       refine Ys ?_
       refine Yd 1 ?_
       refine Ys ?_
       refine wpE_drawregion (id := 6) (ops := r99_29) (by kernel_rfl) (by kernel_rfl) (by kernel_rfl) ?_
       refine Qn P2 ?_
       obtain ⟨hp_14, h⟩ := h
       refine Qu 25 (fun pp => .slice pp t_.len t_.cap) hp_14 ?_
       refine Qi1 h fun h => ?_
       refine Ql h fun v28 h => ?_
       refine Qn P2 ?_
       obtain ⟨hp_15, h⟩ := h
       refine Qu 29 (fun pp => .slice pp l_.len l_.cap) hp_15 ?_
       refine Qi1 h fun h => ?_
       refine Ql h fun v32 h => ?_
       refine Qf P1 [0, 1, 5, 33] h fun w2 h => ?_
       refine Yc h (fun h => ?_) fun h => ?_
       · refine Yp P1 [4] ?_
         exact YS ⟨false, rfl, h⟩
       · refine Yskip ?_
         refine Yr ?_
         refine Yf P3 [0, 1, 5] ?_
         have hb_ := again__h _ _ h
         exact ⟨_, hb_.2, _, Sub.mk (by kernel_rfl), (IntKind.i64.wrap (i + 1)), rfl, hb_.1, rfl⟩
     · refine Yexit 0 ?_
       refine Yt ?_
       refine Yn P4 ?_
       obtain ⟨h0, h1, h⟩ := h
       refine reg_sliceHi (t := 23) (e := 3) (x := (Operand.tmp 34)) (hi := (Operand.tmp 37)) (p := t_.ptr) (l := t_.len) (c := t_.cap) (sz := 1) (k := .i64) (j := (IntKind.i64.wrap (((l_.len : Nat) : Int) + 1))) (ty := 23) (dst := some 38) (by kernel_rfl) (by kernel_rfl) (by kernel_rfl) (by kernel_rfl) (by kernel_rfl) h0 h1 ?_
       refine Yn P2 ?_
       obtain ⟨hp_17, h⟩ := h
       refine Yu 38 (fun pp => .slice pp ((IntKind.i64.wrap (((l_.len : Nat) : Int) + 1)).toNat) t_.cap) hp_17 ?_
       refine Yi1 h fun h => ?_
       refine Yl h fun x h => ?_
       refine Yf P1 [6] ?_
       refine Yp P3 [4] ?_
       exact YS ⟨(x == 7777), rfl, h⟩

/-! ### towpath/towpathlaw01.LeftHelds (function 100) -/
def c100_0 := cb_ Tryz.f100
def c100_3 := cr_ c100_0
def c100_13 := cr_ c100_3
def c100_14 := cl_ c100_13
def c100_17 := cr_ c100_14
def c100_18 := cl_ c100_17
def c100_19 := cl_ c100_18
def c100_26 := cr_ c100_19
def c100_27 := cl_ c100_26
def c100_28 := cl_ c100_27
def c100_29 := cl_ c100_28
def r100_29 := co_ c100_29

theorem S_towpathlaw01_LeftHelds {t_ : Slc} {l_ : Slc} {w : World} {R : Bool → World → Prop} (h : F_towpathlaw01_LeftHelds t_ l_ R w) : C_towpathlaw01_LeftHelds t_ l_ w R := by
 unfold F_towpathlaw01_LeftHelds at h
 refine Yh Tryz.func100 ?_
 · refine Yp P1 [0, 1] ?_
   refine Ys ?_
   refine Yp [.plain, .plain, .plain, .plain, .plain, .plain, .plain, .plain, .plain, .plain, .plain, .pick] [0, 1, 18] ?_
   refine Yc h (fun h => ?_) fun h => ?_
   · refine Yp P1 [4] ?_
     exact YS ⟨false, rfl, h⟩
   · refine Yskip ?_
     refine Ys ?_
     refine Yp P1 [0, 1, 5] ?_
     refine Yd 0 ?_
     obtain ⟨I, μ, h0, hr⟩ := h
     refine Yloop (fun m l w => ∃ (i : Int), l = [(0, sv_ t_), (1, sv_ l_), (5, Value.int .i64 i)] ∧ I i w ∧ μ i w = m) ⟨0, rfl, h0, rfl⟩ ?_
     rintro _ _ w1 ⟨i, rfl, hI, rfl⟩
     obtain ⟨again_, again__h, h⟩ : ∃ again_ : Int → World → Prop, (∀ i' w', again_ i' w' → I i' w' ∧ μ i' w' < μ i w1) ∧ F_towpathlaw01_LeftHelds_L0 t_ l_ R again_ i w1 := ⟨_, fun _ _ h => h, hr i w1 hI⟩
     clear h0 hI
     unfold F_towpathlaw01_LeftHelds_L0 at h
     refine Ys ?_
     refine Yp P4 [0, 1, 5, 22] ?_
     refine Yc h (fun h => ?_) fun h => ?_
     · refine Yskip ?_
       refine Ys ?_
       refine Yd 1 ?_
       refine Ys ?_
       refine wpE_drawregion (id := 6) (ops := r100_29) (by kernel_rfl) (by kernel_rfl) (by kernel_rfl) ?_
       refine Qn P2 ?_
       obtain ⟨hp_14, h⟩ := h
       refine Qu 25 (fun pp => .slice pp t_.len t_.cap) hp_14 ?_
       refine Qi h fun h => ?_
       refine QL h fun v28 h => ?_
       refine Qn P2 ?_
       obtain ⟨hp_15, h⟩ := h
       refine Qu 29 (fun pp => .slice pp l_.len l_.cap) hp_15 ?_
       refine Qi h fun h => ?_
       refine QL h fun v32 h => ?_
       obtain ⟨v33, hq, h⟩ := h
       refine qreg_enter (op := (Op.call (Call.mk (Callee.value (Operand.func 160)) #[(Operand.tmp 28), (Operand.tmp 32)] #[104, 104]))) (ty := 4) (dst := some 33) 160 #[Value.agg #[Value.string v28.Key, sv_ v28.Versions], Value.agg #[Value.string v32.Key, sv_ v32.Versions]] (Value.bool v33) (by kernel_rfl) (fun ww => by kernel_rfl) (fun w' he => Calls.mono (hq w' he) (by rintro _ w'' ⟨_, rfl, rfl, hE⟩; exact ⟨rfl, hE⟩)) ?_
       clear hq
       refine Qf P1 [0, 1, 5, 34] h fun w3 h => ?_
       refine Yc h (fun h => ?_) fun h => ?_
       · refine Yp P1 [4] ?_
         exact YS ⟨false, rfl, h⟩
       · refine Yskip ?_
         refine Yr ?_
         refine Yf P3 [0, 1, 5] ?_
         have hb_ := again__h _ _ h
         exact ⟨_, hb_.2, _, Sub.mk (by kernel_rfl), (IntKind.i64.wrap (i + 1)), rfl, hb_.1, rfl⟩
     · refine Yexit 0 ?_
       refine Yt ?_
       refine Yn P4 ?_
       obtain ⟨h0, h1, h⟩ := h
       refine reg_sliceHi (t := 66) (e := 104) (x := (Operand.tmp 35)) (hi := (Operand.tmp 38)) (p := t_.ptr) (l := t_.len) (c := t_.cap) (sz := 2) (k := .i64) (j := (IntKind.i64.wrap (((l_.len : Nat) : Int) + 1))) (ty := 66) (dst := some 39) (by kernel_rfl) (by kernel_rfl) (by kernel_rfl) (by kernel_rfl) (by kernel_rfl) h0 h1 ?_
       refine Yn P2 ?_
       obtain ⟨hp_17, h⟩ := h
       refine Yu 39 (fun pp => .slice pp ((IntKind.i64.wrap (((l_.len : Nat) : Int) + 1)).toNat) t_.cap) hp_17 ?_
       refine Yi h fun h => ?_
       refine YL h fun v43 h => ?_
       refine Yw pv_ h fun b_ w4 h => ?_
       refine Yo h fun w5 h => ?_
       refine Yf [] [6] ?_
       refine Yt ?_
       refine Yn P1 ?_
       refine Yl h fun v45 h => ?_
       refine Yf P2 [4] ?_
       exact YS ⟨(v45.toList == (ByteArray.mk #[115, 112, 97, 114, 101]).toList), rfl, h⟩

/-! ### (*towpath/towpathlaw01.Book).Helds (function 101) -/

theorem S_towpathlaw01_Book_Helds {b_ : Option Addr} {l_ : Slc} {w : World} {R : World → Prop} (h : F_towpathlaw01_Book_Helds b_ l_ R w) : C_towpathlaw01_Book_Helds b_ l_ w R := by
 unfold F_towpathlaw01_Book_Helds at h
 refine Yh Tryz.func101 ?_
 · refine Ys ?_
   refine Yp P1 [0, 1, 4] ?_
   refine Yd 0 ?_
   obtain ⟨I, μ, h0, hr⟩ := h
   refine Yloop (fun m l w => ∃ (i : Int), l = [(0, Value.pointer b_), (1, sv_ l_), (4, Value.int .i64 i)] ∧ I i w ∧ μ i w = m) ⟨0, rfl, h0, rfl⟩ ?_
   rintro _ _ w1 ⟨i, rfl, hI, rfl⟩
   obtain ⟨again_, again__h, h⟩ : ∃ again_ : Int → World → Prop, (∀ i' w', again_ i' w' → I i' w' ∧ μ i' w' < μ i w1) ∧ F_towpathlaw01_Book_Helds_L0 b_ l_ R again_ i w1 := ⟨_, fun _ _ h => h, hr i w1 hI⟩
   clear h0 hI
   unfold F_towpathlaw01_Book_Helds_L0 at h
   refine Ys ?_
   refine Yp P4 [0, 1, 4, 8] ?_
   refine Yc h (fun h => ?_) fun h => ?_
   · refine Yskip ?_
     refine Ys ?_
     refine Yd 1 ?_
     refine Yr ?_
     refine Yn P3 ?_
     obtain ⟨hp_3, h⟩ := h
     refine Yu 12 (fun pp => .slice pp l_.len l_.cap) hp_3 ?_
     refine Yi h fun h => ?_
     refine Yn P1 ?_
     refine Yl h fun v16 h => ?_
     refine Ym0 h fun w2 h => ?_
     refine Yf [] [0, 1, 4] ?_
     refine Yr ?_
     refine Yf P3 [0, 1, 4] ?_
     have hb_ := again__h _ _ h
     exact ⟨_, hb_.2, _, Sub.mk (by kernel_rfl), (IntKind.i64.wrap (i + 1)), rfl, hb_.1, rfl⟩
   · refine Yexit 0 ?_
     refine Yr ?_
     refine Yn P2 ?_
     refine Ym0 h fun w3 h => ?_
     refine Yf [] [] ?_
     repeat (first | refine seqQ_exit ?_ | refine loopQ_exit ?_ | refine cutQ_exit ?_ | refine blockQ_hit ?_ | refine blockQ_miss (by kernel_rfl) ?_)
     refine retQ_normal ?_
     repeat (first | refine seqQ_ret ?_ | refine blockQ_ret ?_ | refine loopQ_ret ?_ | refine cutQ_ret ?_)
     exact retT (rs := []) (vs := []) (by kernel_rfl) (trivial) (by kernel_rfl) ⟨rfl, h⟩

/-! ### (*towpath/towpathlaw01.Book).keepHeldList (function 102) -/
def c102_0 := cb_ Tryz.f102
def c102_3 := cr_ c102_0
def r102_3 := co_ c102_3
def o_towpathlaw01_Book_keepHeldList_3 : List Nat := [0, 1, 2, 3, 4, 5, 6, 7, 8, 9, 10, 11, 12, 13, 14, 15]

theorem S_towpathlaw01_Book_keepHeldList {b_ : Option Addr} {l_ : Slc} {w : World} {R : World → Prop} (h : F_towpathlaw01_Book_keepHeldList b_ l_ R w) : C_towpathlaw01_Book_keepHeldList b_ l_ w R := by
 unfold F_towpathlaw01_Book_keepHeldList at h
 refine Yh Tryz.func102 ?_
 · refine Yt ?_
   refine Yn P1 ?_
   refine Yv 4 h fun hp_1 h => ?_
   refine Yn P1 ?_
   refine Yn P1 ?_
   refine Yl h fun v7 h => ?_
   refine Yn P3 ?_
   refine Yo h fun w1 h => ?_
   refine Yf [] [0, 1] ?_
   refine wpE_mixregion (id := 1) (ops := r102_3) o_towpathlaw01_Book_keepHeldList_3 (by kernel_rfl) (by kernel_rfl) (by kernel_rfl) (by kernel_rfl) (fun w2 hw => ?_)
   replace h := h w2 hw
   clear hw
   refine Mn P2 ?_
   refine Mv 12 h fun hp_2 h => ?_
   refine Mn P1 ?_
   refine Mn P1 ?_
   refine Ml 4 h fun v15 hc h => ?_
   refine Mn P2 ?_
   refine Mv 17 h fun hp_3 h => ?_
   refine Mn P1 ?_
   refine Mn P1 ?_
   refine Ml 9 h fun v20 hc h => ?_
   refine Mn P1 ?_
   refine mreg_new (op := (Op.buildSlice 43 1 #[(0, (Operand.tmp 21))])) (ty := 43) (dst := some 22) 11 [10, 5, 9, 8, 7, 6] [(4, fun w' => w'.cell? ⟨(pblk b_), (poff b_) + 9, none⟩ = some (sv_ v15))] (fun bb => Value.slice (some ⟨bb, 0, none⟩) 1 1) (Obj.cells ([sv_ l_, Value.slice none 0 0, Value.int .i64 v20]).toArray ty_towpathlaw01_heldHeldList (0, 0)) (by kernel_rfl) (by kernel_rfl) (by kernel_rfl) (by kernel_rfl) (by kernel_rfl) (by kernel_rfl) (fun b_1 w3 hb hw => ?_)
   replace h := h b_1 w3 hb hw
   clear hb hw
   obtain ⟨hk0, h⟩ := h
   refine ⟨⟨hk0, trivial⟩, ?_⟩
   obtain ⟨src, hs, h⟩ := h
   refine mreg_append (t := 43) (tx := 43) (e := 169) (a := (Operand.tmp 15)) (xo := (Operand.tmp 22)) (s := v15) (x := (Slc.mk (some ⟨b_1, 0, none⟩) 1 1)) (sz := 3) (by_ := 56) (zs := [Value.slice none 0 0, Value.slice none 0 0, Value.int .i64 0]) (ty := 43) (dst := some 23) 12 [4, 11, 3, 10, 2, 5, 9, 1, 8, 7, 6] [] src (by kernel_rfl) (by kernel_rfl) (by kernel_rfl) (by kernel_rfl) (by kernel_rfl) (by kernel_rfl) (by kernel_rfl) (by kernel_rfl) (by kernel_rfl) (by kernel_rfl) (by kernel_rfl) (by kernel_rfl) (by kernel_rfl) hs (AppendW.mono h (fun v23 w4 h => ?_))
   refine ⟨trivial, ?_⟩
   refine Mv 11 h fun hp_4 h => ?_
   refine Mn P1 ?_
   refine Mn P1 ?_
   refine Mstore 15 [0, 1, 2, 3, 4, 5, 6, 7, 8, 9, 10, 11, 12, 14, 13] [] h fun w5 h => ?_
   refine ⟨trivial, ?_⟩
   refine Mf [] [] ?_
   repeat (first | refine seqQ_exit ?_ | refine loopQ_exit ?_ | refine cutQ_exit ?_ | refine blockQ_hit ?_ | refine blockQ_miss (by kernel_rfl) ?_)
   refine retQ_normal ?_
   repeat (first | refine seqQ_ret ?_ | refine blockQ_ret ?_ | refine loopQ_ret ?_ | refine cutQ_ret ?_)
   exact retT (rs := []) (vs := []) (by kernel_rfl) (trivial) (by kernel_rfl) ⟨rfl, h⟩

/-! ### towpath/towpathlaw01.markInt (function 126) -/

theorem S_towpathlaw01_markInt {n_ : Int} {w : World} {R : Int → World → Prop} (h : F_towpathlaw01_markInt n_ R w) : C_towpathlaw01_markInt n_ w R := by
 unfold F_towpathlaw01_markInt at h
 refine Yh Tryz.func126 ?_
 · refine Yp P1 [0] ?_
   refine Yp P3 [2] ?_
   exact YS ⟨(IntKind.i64.wrap ((-1000) - n_)), rfl, h⟩

/-! ### towpath/towpathlaw01.markVersion (function 130) -/

theorem S_towpathlaw01_markVersion {n_ : Int} {w : World} {R : T_api_Version → World → Prop} (h : F_towpathlaw01_markVersion n_ R w) : C_towpathlaw01_markVersion n_ w R := by
 unfold F_towpathlaw01_markVersion at h
 refine Yh Tryz.func130 ?_
 · refine Yt ?_
   refine Yw pv_ h fun b_ w1 h => ?_
   refine Yf [] [0, 2] ?_
   refine Yt ?_
   refine Yn P3 ?_
   refine Yo h fun w2 h => ?_
   refine Yf [] [2] ?_
   obtain ⟨res, hc_res, h⟩ := h
   exact YSg (rs := [(ResultVar.cell 2 109)]) (v := Value.agg #[Value.int .i64 res.Number, Value.string res.Val, Value.bool res.Drop]) (⟨b_, 0, [Value.int .i64 res.Number, Value.string res.Val, Value.bool res.Drop], by kernel_rfl, hc_res, (sizeP_of (k := 3) (by kernel_rfl) (by kernel_rfl)), .inl ⟨by kernel_rfl, rfl⟩, trivial⟩) ⟨res, rfl, h⟩

/-! ### towpath/towpathlaw01.markHeld (function 132) -/

theorem S_towpathlaw01_markHeld {n_ : Int} {w : World} {R : T_api_Held → World → Prop} (h : F_towpathlaw01_markHeld n_ R w) : C_towpathlaw01_markHeld n_ w R := by
 unfold F_towpathlaw01_markHeld at h
 refine Yh Tryz.func132 ?_
 · refine Yt ?_
   refine Yw pv_ h fun b_ w1 h => ?_
   refine Yf [] [0, 2] ?_
   refine Yt ?_
   refine Yn P1 ?_
   refine Ym1 h fun v4 w2 h => ?_
   refine Yn P1 ?_
   refine Yo h fun w3 h => ?_
   refine Yf [] [2] ?_
   obtain ⟨res, hc_res, h⟩ := h
   exact YSg (rs := [(ResultVar.cell 2 104)]) (v := Value.agg #[Value.string res.Key, sv_ res.Versions]) (⟨b_, 0, [Value.string res.Key, sv_ res.Versions], by kernel_rfl, hc_res, (sizeP_of (k := 2) (by kernel_rfl) (by kernel_rfl)), .inl ⟨by kernel_rfl, rfl⟩, trivial⟩) ⟨res, rfl, h⟩

/-! ### towpath/towpathlaw01.markHeldList (function 133) -/

theorem S_towpathlaw01_markHeldList {n_ : Int} {w : World} {R : Slc → World → Prop} (h : F_towpathlaw01_markHeldList n_ R w) : C_towpathlaw01_markHeldList n_ w R := by
 unfold F_towpathlaw01_markHeldList at h
 refine Yh Tryz.func133 ?_
 · refine Yp P1 [0] ?_
   refine Yt ?_
   refine Yn P1 ?_
   refine Ym1 h fun v4 w1 h => ?_
   refine Yn P1 ?_
   refine Yw (sl_ 1 1) h fun b_ w2 h => ?_
   refine Yf P1 [2] ?_
   exact YS ⟨(Slc.mk (some ⟨b_, 0, none⟩) 1 1), rfl, h⟩

/-! ### towpath/towpathlaw01.isInt (function 137) -/

theorem S_towpathlaw01_isInt {x : Int} {n_ : Int} {w : World} {R : Bool → World → Prop} (h : F_towpathlaw01_isInt x n_ R w) : C_towpathlaw01_isInt x n_ w R := by
 unfold F_towpathlaw01_isInt at h
 refine Yh Tryz.func137 ?_
 · refine Yp P1 [0, 1] ?_
   refine Yp (Pl 5) [4] ?_
   exact YS ⟨(x == (IntKind.i64.wrap ((-1000) - n_))), rfl, h⟩

/-! ### towpath/towpathlaw01.isVersion (function 141) -/

theorem S_towpathlaw01_isVersion {x : T_api_Version} {n_ : Int} {w : World} {R : Bool → World → Prop} (h : F_towpathlaw01_isVersion x n_ R w) : C_towpathlaw01_isVersion x n_ w R := by
 unfold F_towpathlaw01_isVersion at h
 refine Yh Tryz.func141 ?_
 · refine Yt ?_
   refine Yw pv_ h fun b_ w1 h => ?_
   refine Yf P1 [1, 2] ?_
   refine Yt ?_
   refine YL h fun v5 h => ?_
   refine Yn P3 ?_
   refine reg_val (op := (Op.binOp BinOp.eql 109 (Operand.tmp 5) (Operand.tmp 8) 109)) (ty := 4) (dst := some 9) (Value.bool (((v5.Number == (IntKind.i64.wrap ((-1000) - n_))) && (v5.Val == ByteArray.empty)) && (v5.Drop == false))) (by kernel_rfl) (fun ww => run_struct_eql (xs := [Value.int .i64 v5.Number, Value.string v5.Val, Value.bool v5.Drop]) (ys := [Value.int .i64 (IntKind.i64.wrap ((-1000) - n_)), Value.string ByteArray.empty, Value.bool false]) (by kernel_rfl) (by kernel_rfl) (by kernel_rfl) (by kernel_rfl) (by kernel_rfl) ww) ?_
   refine Yf P1 [4] ?_
   exact YS ⟨(((v5.Number == (IntKind.i64.wrap ((-1000) - n_))) && (v5.Val == ByteArray.empty)) && (v5.Drop == false)), rfl, h⟩

/-! ### towpath/towpathlaw01.isHeld (function 143) -/
def c143_0 := cb_ Tryz.f143
def c143_3 := cr_ c143_0
def c143_4 := cl_ c143_3
def r143_4 := co_ c143_4
def o_towpathlaw01_isHeld_4 : List Nat := [0, 1, 2, 3, 4, 5, 6, 7, 8, 9, 10, 11]

theorem S_towpathlaw01_isHeld {x : T_api_Held} {n_ : Int} {w : World} {R : Bool → World → Prop} (h : F_towpathlaw01_isHeld x n_ R w) : C_towpathlaw01_isHeld x n_ w R := by
 unfold F_towpathlaw01_isHeld at h
 refine Yh Tryz.func143 ?_
 · refine Yt ?_
   refine Yw pv_ h fun b_ w1 h => ?_
   refine Yf P1 [1, 2] ?_
   refine Ys ?_
   refine wpE_mixregion (id := 1) (ops := r143_4) o_towpathlaw01_isHeld_4 (by kernel_rfl) (by kernel_rfl) (by kernel_rfl) (by kernel_rfl) (fun w2 hw => ?_)
   replace h := h w2 hw
   clear hw
   refine Mn P1 ?_
   refine Ml 1 h fun v6 hc h => ?_
   refine Mn P1 ?_
   refine mreg_enter (op := (Op.call (Call.mk (Callee.value (Operand.func 186)) #[(Operand.tmp 7)] #[3]))) (ty := 9) (dst := some 8) 3 [2] [(1, fun w' => w'.cell? ⟨b_, 0, none⟩ = some (Value.string v6))] 186 #[Value.int .i64 n_] (by kernel_rfl) (by kernel_rfl) (by kernel_rfl) (by kernel_rfl) (by kernel_rfl) (fun ww => by kernel_rfl) (Calls.mono h ?_)
   rintro _ w3 ⟨v8, rfl, h⟩
   obtain ⟨hk0, h⟩ := h
   refine ⟨_, rfl, ⟨hk0, trivial⟩, ?_⟩
   refine Mn P3 ?_
   refine Mspl 10 h (fun h => ?_) fun h => ?_
   · refine Ml 7 h fun v12 hc h => ?_
     refine Mf [.sure, .sure, .plain, .plain] [4] ?_
     exact YS ⟨(((v12.len : Nat) : Int) == 0), rfl, h⟩
   · refine Mf [.skip, .skip, .skip, .plain, .plain] [4] ?_
     exact YS ⟨false, rfl, h⟩

/-! ### towpath/towpathlaw01.isHeldList (function 144) -/
def c144_0 := cb_ Tryz.f144
def c144_3 := cr_ c144_0
def c144_4 := cl_ c144_3
def r144_4 := co_ c144_4
def o_towpathlaw01_isHeldList_4 : List Nat := [0, 1, 2, 3, 4, 5, 6, 7, 8, 9, 10, 11, 12]

theorem S_towpathlaw01_isHeldList {x : Slc} {n_ : Int} {w : World} {R : Bool → World → Prop} (h : F_towpathlaw01_isHeldList x n_ R w) : C_towpathlaw01_isHeldList x n_ w R := by
 unfold F_towpathlaw01_isHeldList at h
 refine Yh Tryz.func144 ?_
 · refine Yp P1 [0, 1] ?_
   refine Ys ?_
   refine wpE_mixregion (id := 1) (ops := r144_4) o_towpathlaw01_isHeldList_4 (by kernel_rfl) (by kernel_rfl) (by kernel_rfl) (by kernel_rfl) (fun w1 hw => ?_)
   replace h := h w1 hw
   clear hw
   refine Mn (Pl 5) ?_
   refine Mspl 8 h (fun h => ?_) fun h => ?_
   · obtain ⟨hp_0, h⟩ := h
     refine Mu 9 (fun pp => .slice pp x.len x.cap) hp_0 ?_
     refine Mi 5 h fun h => ?_
     refine Mn [.sure] ?_
     refine Ml 7 h fun v12 hc h => ?_
     refine Mn [.sure] ?_
     refine mreg_enter (op := (Op.call (Call.mk (Callee.value (Operand.func 186)) #[(Operand.tmp 13)] #[3]))) (ty := 9) (dst := some 14) 9 [3, 8, 2, 1, 0] [(7, fun w' => w'.cell? ⟨(pblk x.ptr), (poff x.ptr), none⟩ = some (Value.string v12))] 186 #[Value.int .i64 n_] (by kernel_rfl) (by kernel_rfl) (by kernel_rfl) (by kernel_rfl) (by kernel_rfl) (fun ww => by kernel_rfl) (Calls.mono h ?_)
     rintro _ w2 ⟨v14, rfl, h⟩
     obtain ⟨hk0, h⟩ := h
     refine ⟨_, rfl, ⟨hk0, trivial⟩, ?_⟩
     refine Mf [.sure, .plain, .plain] [4] ?_
     exact YS ⟨(v12.toList == v14.toList), rfl, h⟩
   · refine Mf [.skip, .skip, .skip, .skip, .skip, .skip, .plain, .plain] [4] ?_
     exact YS ⟨false, rfl, h⟩
end
end Go.Proofs.YtpdegdnigcnjiaaGreatDoor
