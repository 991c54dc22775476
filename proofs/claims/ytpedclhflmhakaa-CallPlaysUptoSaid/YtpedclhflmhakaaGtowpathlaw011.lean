/- WRITTEN BY PROGRAM (dec.py): for each Go function the clean formula F, the call's contract C, and the proof S that F gives C. -/
import Derived.Test.YtpedclhflmhakaaRows
import Derived.Test.YtpedclhflmhakaaGF
namespace Go.Proofs.Ytpedclhflmhakaa
open Go
set_option linter.unusedVariables false
set_option maxRecDepth 100000
set_option maxHeartbeats 4000000
noncomputable section

/-! ### towpath/towpathlaw01.TwinEntries (function 100) -/

theorem S_towpathlaw01_TwinEntries {l_ : Slc} {w : World} {R : Slc → World → Prop} (h : F_towpathlaw01_TwinEntries l_ R w) : C_towpathlaw01_TwinEntries l_ w R := by
 unfold F_towpathlaw01_TwinEntries at h
 refine Yh Try.func100 ?_
 · refine Yp P1 [0] ?_
   refine Yt ?_
   refine Yn P3 ?_
   obtain ⟨h0, h1, h2, h⟩ := h
   refine reg_makeSlice (t := 92) (e := 140) (lo := (Operand.const (Value.int IntKind.i64 0))) (co := (Operand.tmp 7)) (l := 0) (c := (IntKind.i64.wrap (((l_.len : Nat) : Int) + 1))) (sz := 2) (by_ := 32) (zs := [Value.string ByteArray.empty, Value.string ByteArray.empty]) (ty := 92) (dst := some 8) (by kernel_rfl) (by kernel_rfl) (by kernel_rfl) (by kernel_rfl) (by kernel_rfl) (by kernel_rfl) (by kernel_rfl) (by kernel_rfl) (by kernel_rfl) h0 h1 h2 (fun b_ w1 hb hw => ?_)
   replace h := h b_ w1 hb hw
   clear hb hw
   refine Yf P1 [0, 3] ?_
   refine Ys ?_
   refine Yp P1 [0, 3, 4] ?_
   refine Yd 0 ?_
   obtain ⟨I, μ, h0, hr⟩ := h
   refine Yloop (fun m l w => ∃ (t_ : Slc) (i : Int), l = [(0, sv_ l_), (3, sv_ t_), (4, Value.int .i64 i)] ∧ I t_ i w ∧ μ t_ i w = m) ⟨(Slc.mk (some ⟨b_, 0, none⟩) 0 ((IntKind.i64.wrap (((l_.len : Nat) : Int) + 1)).toNat)), 0, rfl, h0, rfl⟩ ?_
   rintro _ _ w2 ⟨t_, i, rfl, hI, rfl⟩
   obtain ⟨again_, again__h, h⟩ : ∃ again_ : Slc → Int → World → Prop, (∀ t_' i' w', again_ t_' i' w' → I t_' i' w' ∧ μ t_' i' w' < μ t_ i w2) ∧ F_towpathlaw01_TwinEntries_L0 l_ R again_ t_ i w2 := ⟨_, fun _ _ _ h => h, hr t_ i w2 hI⟩
   clear h0 hI
   unfold F_towpathlaw01_TwinEntries_L0 at h
   refine Ys ?_
   refine Yp P4 [0, 3, 4, 12] ?_
   refine Yc h (fun h => ?_) fun h => ?_
   · refine Yskip ?_
     refine Ys ?_
     refine Yd 1 ?_
     refine Yr ?_
     refine Yn P3 ?_
     obtain ⟨hp_3, h⟩ := h
     refine Yu 16 (fun pp => .slice pp l_.len l_.cap) hp_3 ?_
     refine Yi h fun h => ?_
     refine YL h fun v19 h => ?_
     refine Yw (sl_ 1 1) h fun b_1 w3 h => ?_
     obtain ⟨src, hs, h⟩ := h
     refine reg_append (t := 92) (tx := 92) (e := 140) (a := (Operand.tmp 15)) (xo := (Operand.tmp 20)) (s := t_) (x := (Slc.mk (some ⟨b_1, 0, none⟩) 1 1)) (sz := 2) (by_ := 32) (zs := [Value.string ByteArray.empty, Value.string ByteArray.empty]) (ty := 92) (dst := some 21)  src (by kernel_rfl) (by kernel_rfl) (by kernel_rfl) (by kernel_rfl) (by kernel_rfl) (by kernel_rfl) (by kernel_rfl) (by kernel_rfl) (by kernel_rfl) hs (AppendW.mono h (fun t_1 w4 h => ?_))
     refine Yf P1 [0, 3, 4] ?_
     refine Yr ?_
     refine Yf P3 [0, 3, 4] ?_
     have hb_ := again__h _ _ _ h
     exact ⟨_, hb_.2, _, Sub.mk (by kernel_rfl), t_1, (IntKind.i64.wrap (i + 1)), rfl, hb_.1, rfl⟩
   · refine Yexit 0 ?_
     refine Yt ?_
     refine Yn P2 ?_
     refine Yw (sl_ 1 1) h fun b_2 w5 h => ?_
     obtain ⟨src, hs, h⟩ := h
     refine reg_append (t := 92) (tx := 92) (e := 140) (a := (Operand.tmp 22)) (xo := (Operand.tmp 24)) (s := t_) (x := (Slc.mk (some ⟨b_2, 0, none⟩) 1 1)) (sz := 2) (by_ := 32) (zs := [Value.string ByteArray.empty, Value.string ByteArray.empty]) (ty := 92) (dst := some 25)  src (by kernel_rfl) (by kernel_rfl) (by kernel_rfl) (by kernel_rfl) (by kernel_rfl) (by kernel_rfl) (by kernel_rfl) (by kernel_rfl) (by kernel_rfl) hs (AppendW.mono h (fun v25 w6 h => ?_))
     refine Yn P2 ?_
     obtain ⟨h0, h1, h⟩ := h
     refine reg_sliceHi (t := 92) (e := 140) (x := (Operand.tmp 25)) (hi := (Operand.tmp 27)) (p := v25.ptr) (l := v25.len) (c := v25.cap) (sz := 2) (k := .i64) (j := ((l_.len : Nat) : Int)) (ty := 92) (dst := some 28) (by kernel_rfl) (by kernel_rfl) (by kernel_rfl) (by kernel_rfl) (by kernel_rfl) h0 h1 ?_
     refine Yf P1 [2] ?_
     exact YS ⟨(Slc.mk v25.ptr (((l_.len : Nat) : Int).toNat) v25.cap), rfl, h⟩

/-! ### towpath/towpathlaw01.TwinHelds (function 101) -/

theorem S_towpathlaw01_TwinHelds {l_ : Slc} {w : World} {R : Slc → World → Prop} (h : F_towpathlaw01_TwinHelds l_ R w) : C_towpathlaw01_TwinHelds l_ w R := by
 unfold F_towpathlaw01_TwinHelds at h
 refine Yh Try.func101 ?_
 · refine Yp P1 [0] ?_
   refine Yt ?_
   refine Yn P3 ?_
   obtain ⟨h0, h1, h2, h⟩ := h
   refine reg_makeSlice (t := 93) (e := 143) (lo := (Operand.const (Value.int IntKind.i64 0))) (co := (Operand.tmp 7)) (l := 0) (c := (IntKind.i64.wrap (((l_.len : Nat) : Int) + 1))) (sz := 2) (by_ := 40) (zs := [Value.string ByteArray.empty, Value.slice none 0 0]) (ty := 93) (dst := some 8) (by kernel_rfl) (by kernel_rfl) (by kernel_rfl) (by kernel_rfl) (by kernel_rfl) (by kernel_rfl) (by kernel_rfl) (by kernel_rfl) (by kernel_rfl) h0 h1 h2 (fun b_ w1 hb hw => ?_)
   replace h := h b_ w1 hb hw
   clear hb hw
   refine Yf P1 [0, 3] ?_
   refine Ys ?_
   refine Yp P1 [0, 3, 4] ?_
   refine Yd 0 ?_
   obtain ⟨I, μ, h0, hr⟩ := h
   refine Yloop (fun m l w => ∃ (t_ : Slc) (i : Int), l = [(0, sv_ l_), (3, sv_ t_), (4, Value.int .i64 i)] ∧ I t_ i w ∧ μ t_ i w = m) ⟨(Slc.mk (some ⟨b_, 0, none⟩) 0 ((IntKind.i64.wrap (((l_.len : Nat) : Int) + 1)).toNat)), 0, rfl, h0, rfl⟩ ?_
   rintro _ _ w2 ⟨t_, i, rfl, hI, rfl⟩
   obtain ⟨again_, again__h, h⟩ : ∃ again_ : Slc → Int → World → Prop, (∀ t_' i' w', again_ t_' i' w' → I t_' i' w' ∧ μ t_' i' w' < μ t_ i w2) ∧ F_towpathlaw01_TwinHelds_L0 l_ R again_ t_ i w2 := ⟨_, fun _ _ _ h => h, hr t_ i w2 hI⟩
   clear h0 hI
   unfold F_towpathlaw01_TwinHelds_L0 at h
   refine Ys ?_
   refine Yp P4 [0, 3, 4, 12] ?_
   refine Yc h (fun h => ?_) fun h => ?_
   · refine Yskip ?_
     refine Ys ?_
     refine Yd 1 ?_
     refine Yr ?_
     refine Yn P3 ?_
     obtain ⟨hp_3, h⟩ := h
     refine Yu 16 (fun pp => .slice pp l_.len l_.cap) hp_3 ?_
     refine Yi h fun h => ?_
     refine YL h fun v19 h => ?_
     refine Ym1 h fun v20 w3 h => ?_
     refine Yw (sl_ 1 1) h fun b_1 w4 h => ?_
     obtain ⟨src, hs, h⟩ := h
     refine reg_append (t := 93) (tx := 93) (e := 143) (a := (Operand.tmp 15)) (xo := (Operand.tmp 21)) (s := t_) (x := (Slc.mk (some ⟨b_1, 0, none⟩) 1 1)) (sz := 2) (by_ := 40) (zs := [Value.string ByteArray.empty, Value.slice none 0 0]) (ty := 93) (dst := some 22)  src (by kernel_rfl) (by kernel_rfl) (by kernel_rfl) (by kernel_rfl) (by kernel_rfl) (by kernel_rfl) (by kernel_rfl) (by kernel_rfl) (by kernel_rfl) hs (AppendW.mono h (fun t_1 w5 h => ?_))
     refine Yf P1 [0, 3, 4] ?_
     refine Yr ?_
     refine Yf P3 [0, 3, 4] ?_
     have hb_ := again__h _ _ _ h
     exact ⟨_, hb_.2, _, Sub.mk (by kernel_rfl), t_1, (IntKind.i64.wrap (i + 1)), rfl, hb_.1, rfl⟩
   · refine Yexit 0 ?_
     refine Yt ?_
     refine Yn P2 ?_
     refine Yw (sl_ 1 1) h fun b_2 w6 h => ?_
     obtain ⟨src, hs, h⟩ := h
     refine reg_append (t := 93) (tx := 93) (e := 143) (a := (Operand.tmp 23)) (xo := (Operand.tmp 25)) (s := t_) (x := (Slc.mk (some ⟨b_2, 0, none⟩) 1 1)) (sz := 2) (by_ := 40) (zs := [Value.string ByteArray.empty, Value.slice none 0 0]) (ty := 93) (dst := some 26)  src (by kernel_rfl) (by kernel_rfl) (by kernel_rfl) (by kernel_rfl) (by kernel_rfl) (by kernel_rfl) (by kernel_rfl) (by kernel_rfl) (by kernel_rfl) hs (AppendW.mono h (fun v26 w7 h => ?_))
     refine Yn P2 ?_
     obtain ⟨h0, h1, h⟩ := h
     refine reg_sliceHi (t := 93) (e := 143) (x := (Operand.tmp 26)) (hi := (Operand.tmp 28)) (p := v26.ptr) (l := v26.len) (c := v26.cap) (sz := 2) (k := .i64) (j := ((l_.len : Nat) : Int)) (ty := 93) (dst := some 29) (by kernel_rfl) (by kernel_rfl) (by kernel_rfl) (by kernel_rfl) (by kernel_rfl) h0 h1 ?_
     refine Yf P1 [2] ?_
     exact YS ⟨(Slc.mk v26.ptr (((l_.len : Nat) : Int).toNat) v26.cap), rfl, h⟩

/-! ### towpath/towpathlaw01.LeftEntries (function 102) -/
def c102_0 := cb_ Try.f102
def c102_3 := cr_ c102_0
def c102_13 := cr_ c102_3
def c102_14 := cl_ c102_13
def c102_17 := cr_ c102_14
def c102_18 := cl_ c102_17
def c102_19 := cl_ c102_18
def c102_26 := cr_ c102_19
def c102_27 := cl_ c102_26
def c102_28 := cl_ c102_27
def c102_29 := cl_ c102_28
def r102_29 := co_ c102_29

theorem S_towpathlaw01_LeftEntries {t_ : Slc} {l_ : Slc} {w : World} {R : Bool → World → Prop} (h : F_towpathlaw01_LeftEntries t_ l_ R w) : C_towpathlaw01_LeftEntries t_ l_ w R := by
 unfold F_towpathlaw01_LeftEntries at h
 refine Yh Try.func102 ?_
 · refine Yp P1 [0, 1] ?_
   refine Ys ?_
   refine Yp [.plain, .plain, .plain, .plain, .plain, .plain, .plain, .plain, .plain, .plain, .plain, .pick] [0, 1, 18] ?_
   refine Yc h (fun h => ?_) fun h => ?_
   · refine Yp P1 [4] ?_
     exact YS ⟨false, rfl, h⟩
   · refine Yskip ?_
     refine Ys ?_
     refine Yp P1 [0, 1, 5] ?_
     refine Yd 0 ?_
     obtain ⟨I, μ, h0, hr⟩ := h
     refine Yloop (fun m l w => ∃ (i : Int), l = [(0, sv_ t_), (1, sv_ l_), (5, Value.int .i64 i)] ∧ I i w ∧ μ i w = m) ⟨0, rfl, h0, rfl⟩ ?_
     rintro _ _ w1 ⟨i, rfl, hI, rfl⟩
     obtain ⟨again_, again__h, h⟩ : ∃ again_ : Int → World → Prop, (∀ i' w', again_ i' w' → I i' w' ∧ μ i' w' < μ i w1) ∧ F_towpathlaw01_LeftEntries_L0 t_ l_ R again_ i w1 := ⟨_, fun _ _ h => h, hr i w1 hI⟩
     clear h0 hI
     unfold F_towpathlaw01_LeftEntries_L0 at h
     refine Ys ?_
     refine Yp P4 [0, 1, 5, 22] ?_
     refine Yc h (fun h => ?_) fun h => ?_
     · refine Yskip ?_
       refine Ys ?_
       refine Yd 1 ?_
       refine Ys ?_
       refine wpE_drawregion (id := 6) (ops := r102_29) (by kernel_rfl) (by kernel_rfl) (by kernel_rfl) ?_
       refine Qn P2 ?_
       obtain ⟨hp_14, h⟩ := h
       refine Qu 25 (fun pp => .slice pp t_.len t_.cap) hp_14 ?_
       refine Qi h fun h => ?_
       refine QL h fun v28 h => ?_
       refine Qn P2 ?_
       obtain ⟨hp_15, h⟩ := h
       refine Qu 29 (fun pp => .slice pp l_.len l_.cap) hp_15 ?_
       refine Qi h fun h => ?_
       refine QL h fun v32 h => ?_
       refine qreg_val (op := (Op.binOp BinOp.neq 140 (Operand.tmp 28) (Operand.tmp 32) 140)) (ty := 4) (dst := some 33) (Value.bool (!((v28.Key == v32.Key) && (v28.Val == v32.Val)))) (by kernel_rfl) (fun ww => run_struct_neq (xs := [Value.string v28.Key, Value.string v28.Val]) (ys := [Value.string v32.Key, Value.string v32.Val]) (by kernel_rfl) (by kernel_rfl) (by kernel_rfl) (by kernel_rfl) (by kernel_rfl) ww) ?_
       refine Qf [] [0, 1, 5, 33] h fun w2 h => ?_
       refine Yc h (fun h => ?_) fun h => ?_
       · refine Yp P1 [4] ?_
         exact YS ⟨false, rfl, h⟩
       · refine Yskip ?_
         refine Yr ?_
         refine Yf P3 [0, 1, 5] ?_
         have hb_ := again__h _ _ h
         exact ⟨_, hb_.2, _, Sub.mk (by kernel_rfl), (IntKind.i64.wrap (i + 1)), rfl, hb_.1, rfl⟩
     · refine Yexit 0 ?_
       refine Yt ?_
       refine Yn P4 ?_
       obtain ⟨h0, h1, h⟩ := h
       refine reg_sliceHi (t := 92) (e := 140) (x := (Operand.tmp 34)) (hi := (Operand.tmp 37)) (p := t_.ptr) (l := t_.len) (c := t_.cap) (sz := 2) (k := .i64) (j := (IntKind.i64.wrap (((l_.len : Nat) : Int) + 1))) (ty := 92) (dst := some 38) (by kernel_rfl) (by kernel_rfl) (by kernel_rfl) (by kernel_rfl) (by kernel_rfl) h0 h1 ?_
       refine Yn P2 ?_
       obtain ⟨hp_17, h⟩ := h
       refine Yu 38 (fun pp => .slice pp ((IntKind.i64.wrap (((l_.len : Nat) : Int) + 1)).toNat) t_.cap) hp_17 ?_
       refine Yi h fun h => ?_
       refine YL h fun v42 h => ?_
       refine Yw pv_ h fun b_ w3 h => ?_
       refine Yo h fun w4 h => ?_
       refine Yf [] [6] ?_
       refine Yt ?_
       refine YL h fun v43 h => ?_
       refine Yn P1 ?_
       refine reg_val (op := (Op.binOp BinOp.eql 140 (Operand.tmp 43) (Operand.tmp 44) 140)) (ty := 4) (dst := some 45) (Value.bool ((v43.Key == (ByteArray.mk #[115, 112, 97, 114, 101])) && (v43.Val == ByteArray.empty))) (by kernel_rfl) (fun ww => run_struct_eql (xs := [Value.string v43.Key, Value.string v43.Val]) (ys := [Value.string (ByteArray.mk #[115, 112, 97, 114, 101]), Value.string ByteArray.empty]) (by kernel_rfl) (by kernel_rfl) (by kernel_rfl) (by kernel_rfl) (by kernel_rfl) ww) ?_
       refine Yf P1 [4] ?_
       exact YS ⟨((v43.Key == (ByteArray.mk #[115, 112, 97, 114, 101])) && (v43.Val == ByteArray.empty)), rfl, h⟩

/-! ### towpath/towpathlaw01.LeftHelds (function 103) -/
def c103_0 := cb_ Try.f103
def c103_3 := cr_ c103_0
def c103_13 := cr_ c103_3
def c103_14 := cl_ c103_13
def c103_17 := cr_ c103_14
def c103_18 := cl_ c103_17
def c103_19 := cl_ c103_18
def c103_26 := cr_ c103_19
def c103_27 := cl_ c103_26
def c103_28 := cl_ c103_27
def c103_29 := cl_ c103_28
def r103_29 := co_ c103_29

theorem S_towpathlaw01_LeftHelds {t_ : Slc} {l_ : Slc} {w : World} {R : Bool → World → Prop} (h : F_towpathlaw01_LeftHelds t_ l_ R w) : C_towpathlaw01_LeftHelds t_ l_ w R := by
 unfold F_towpathlaw01_LeftHelds at h
 refine Yh Try.func103 ?_
 · refine Yp P1 [0, 1] ?_
   refine Ys ?_
   refine Yp [.plain, .plain, .plain, .plain, .plain, .plain, .plain, .plain, .plain, .plain, .plain, .pick] [0, 1, 18] ?_
   refine Yc h (fun h => ?_) fun h => ?_
   · refine Yp P1 [4] ?_
     exact YS ⟨false, rfl, h⟩
   · refine Yskip ?_
     refine Ys ?_
     refine Yp P1 [0, 1, 5] ?_
     refine Yd 0 ?_
     obtain ⟨I, μ, h0, hr⟩ := h
     refine Yloop (fun m l w => ∃ (i : Int), l = [(0, sv_ t_), (1, sv_ l_), (5, Value.int .i64 i)] ∧ I i w ∧ μ i w = m) ⟨0, rfl, h0, rfl⟩ ?_
     rintro _ _ w1 ⟨i, rfl, hI, rfl⟩
     obtain ⟨again_, again__h, h⟩ : ∃ again_ : Int → World → Prop, (∀ i' w', again_ i' w' → I i' w' ∧ μ i' w' < μ i w1) ∧ F_towpathlaw01_LeftHelds_L0 t_ l_ R again_ i w1 := ⟨_, fun _ _ h => h, hr i w1 hI⟩
     clear h0 hI
     unfold F_towpathlaw01_LeftHelds_L0 at h
     refine Ys ?_
     refine Yp P4 [0, 1, 5, 22] ?_
     refine Yc h (fun h => ?_) fun h => ?_
     · refine Yskip ?_
       refine Ys ?_
       refine Yd 1 ?_
       refine Ys ?_
       refine wpE_drawregion (id := 6) (ops := r103_29) (by kernel_rfl) (by kernel_rfl) (by kernel_rfl) ?_
       refine Qn P2 ?_
       obtain ⟨hp_14, h⟩ := h
       refine Qu 25 (fun pp => .slice pp t_.len t_.cap) hp_14 ?_
       refine Qi h fun h => ?_
       refine QL h fun v28 h => ?_
       refine Qn P2 ?_
       obtain ⟨hp_15, h⟩ := h
       refine Qu 29 (fun pp => .slice pp l_.len l_.cap) hp_15 ?_
       refine Qi h fun h => ?_
       refine QL h fun v32 h => ?_
       obtain ⟨v33, hq, h⟩ := h
       refine qreg_enter (op := (Op.call (Call.mk (Callee.value (Operand.func 120)) #[(Operand.tmp 28), (Operand.tmp 32)] #[143, 143]))) (ty := 4) (dst := some 33) 120 #[Value.agg #[Value.string v28.Key, sv_ v28.Versions], Value.agg #[Value.string v32.Key, sv_ v32.Versions]] (Value.bool v33) (by kernel_rfl) (fun ww => by kernel_rfl) (fun w' he => Calls.mono (hq w' he) (by rintro _ w'' ⟨_, rfl, rfl, hE⟩; exact ⟨rfl, hE⟩)) ?_
       clear hq
       refine Qf P1 [0, 1, 5, 34] h fun w3 h => ?_
       refine Yc h (fun h => ?_) fun h => ?_
       · refine Yp P1 [4] ?_
         exact YS ⟨false, rfl, h⟩
       · refine Yskip ?_
         refine Yr ?_
         refine Yf P3 [0, 1, 5] ?_
         have hb_ := again__h _ _ h
         exact ⟨_, hb_.2, _, Sub.mk (by kernel_rfl), (IntKind.i64.wrap (i + 1)), rfl, hb_.1, rfl⟩
     · refine Yexit 0 ?_
       refine Yt ?_
       refine Yn P4 ?_
       obtain ⟨h0, h1, h⟩ := h
       refine reg_sliceHi (t := 93) (e := 143) (x := (Operand.tmp 35)) (hi := (Operand.tmp 38)) (p := t_.ptr) (l := t_.len) (c := t_.cap) (sz := 2) (k := .i64) (j := (IntKind.i64.wrap (((l_.len : Nat) : Int) + 1))) (ty := 93) (dst := some 39) (by kernel_rfl) (by kernel_rfl) (by kernel_rfl) (by kernel_rfl) (by kernel_rfl) h0 h1 ?_
       refine Yn P2 ?_
       obtain ⟨hp_17, h⟩ := h
       refine Yu 39 (fun pp => .slice pp ((IntKind.i64.wrap (((l_.len : Nat) : Int) + 1)).toNat) t_.cap) hp_17 ?_
       refine Yi h fun h => ?_
       refine YL h fun v43 h => ?_
       refine Yw pv_ h fun b_ w4 h => ?_
       refine Yo h fun w5 h => ?_
       refine Yf [] [6] ?_
       refine Yt ?_
       refine Yn P1 ?_
       refine Yl h fun v45 h => ?_
       refine Yf P2 [4] ?_
       exact YS ⟨(v45.toList == (ByteArray.mk #[115, 112, 97, 114, 101]).toList), rfl, h⟩

/-! ### towpath/towpathlaw01.SameEntries (function 106) -/
def c106_0 := cb_ Try.f106
def c106_3 := cr_ c106_0
def c106_13 := cr_ c106_3
def c106_14 := cl_ c106_13
def c106_17 := cr_ c106_14
def c106_18 := cl_ c106_17
def c106_19 := cl_ c106_18
def c106_26 := cr_ c106_19
def c106_27 := cl_ c106_26
def c106_28 := cl_ c106_27
def c106_29 := cl_ c106_28
def r106_29 := co_ c106_29

theorem S_towpathlaw01_SameEntries {a_ : Slc} {b_ : Slc} {w : World} {R : Bool → World → Prop} (h : F_towpathlaw01_SameEntries a_ b_ R w) : C_towpathlaw01_SameEntries a_ b_ w R := by
 unfold F_towpathlaw01_SameEntries at h
 refine Yh Try.func106 ?_
 · refine Yp P1 [0, 1] ?_
   refine Ys ?_
   refine Yp (Pl 5) [0, 1, 10] ?_
   refine Yc h (fun h => ?_) fun h => ?_
   · refine Yp P1 [4] ?_
     exact YS ⟨false, rfl, h⟩
   · refine Yskip ?_
     refine Ys ?_
     refine Yp P1 [0, 1, 5] ?_
     refine Yd 0 ?_
     obtain ⟨I, μ, h0, hr⟩ := h
     refine Yloop (fun m l w => ∃ (i : Int), l = [(0, sv_ a_), (1, sv_ b_), (5, Value.int .i64 i)] ∧ I i w ∧ μ i w = m) ⟨0, rfl, h0, rfl⟩ ?_
     rintro _ _ w1 ⟨i, rfl, hI, rfl⟩
     obtain ⟨again_, again__h, h⟩ : ∃ again_ : Int → World → Prop, (∀ i' w', again_ i' w' → I i' w' ∧ μ i' w' < μ i w1) ∧ F_towpathlaw01_SameEntries_L0 a_ b_ R again_ i w1 := ⟨_, fun _ _ h => h, hr i w1 hI⟩
     clear h0 hI
     unfold F_towpathlaw01_SameEntries_L0 at h
     refine Ys ?_
     refine Yp P4 [0, 1, 5, 14] ?_
     refine Yc h (fun h => ?_) fun h => ?_
     · refine Yskip ?_
       refine Ys ?_
       refine Yd 1 ?_
       refine Ys ?_
       refine wpE_drawregion (id := 6) (ops := r106_29) (by kernel_rfl) (by kernel_rfl) (by kernel_rfl) ?_
       refine Qn P2 ?_
       obtain ⟨hp_14, h⟩ := h
       refine Qu 17 (fun pp => .slice pp a_.len a_.cap) hp_14 ?_
       refine Qi h fun h => ?_
       refine QL h fun v20 h => ?_
       refine Qn P2 ?_
       obtain ⟨hp_15, h⟩ := h
       refine Qu 21 (fun pp => .slice pp b_.len b_.cap) hp_15 ?_
       refine Qi h fun h => ?_
       refine QL h fun v24 h => ?_
       refine qreg_val (op := (Op.binOp BinOp.neq 140 (Operand.tmp 20) (Operand.tmp 24) 140)) (ty := 4) (dst := some 25) (Value.bool (!((v20.Key == v24.Key) && (v20.Val == v24.Val)))) (by kernel_rfl) (fun ww => run_struct_neq (xs := [Value.string v20.Key, Value.string v20.Val]) (ys := [Value.string v24.Key, Value.string v24.Val]) (by kernel_rfl) (by kernel_rfl) (by kernel_rfl) (by kernel_rfl) (by kernel_rfl) ww) ?_
       refine Qf [] [0, 1, 5, 25] h fun w2 h => ?_
       refine Yc h (fun h => ?_) fun h => ?_
       · refine Yp P1 [4] ?_
         exact YS ⟨false, rfl, h⟩
       · refine Yskip ?_
         refine Yr ?_
         refine Yf P3 [0, 1, 5] ?_
         have hb_ := again__h _ _ h
         exact ⟨_, hb_.2, _, Sub.mk (by kernel_rfl), (IntKind.i64.wrap (i + 1)), rfl, hb_.1, rfl⟩
     · refine Yexit 0 ?_
       refine Yp P1 [4] ?_
       exact YS ⟨true, rfl, h⟩

/-! ### towpath/towpathlaw01.SameHeld (function 107) -/

theorem S_towpathlaw01_SameHeld {a_ : T_api_Held} {b_ : T_api_Held} {w : World} {R : Bool → World → Prop} (h : F_towpathlaw01_SameHeld a_ b_ R w) : C_towpathlaw01_SameHeld a_ b_ w R := by
 unfold F_towpathlaw01_SameHeld at h
 refine Yh Try.func107 ?_
 · refine Yt ?_
   refine Yw pv_ h fun b_1 w1 h => ?_
   refine Yw pv_ h fun b_2 w2 h => ?_
   refine Yf P1 [2, 3] ?_
   refine Yt ?_
   refine Yn P1 ?_
   refine Yl h fun v6 h => ?_
   refine Yn P1 ?_
   refine Yl h fun v8 h => ?_
   refine Yn P3 ?_
   refine Yspl 10 h (fun h => ?_) fun h => ?_
   · refine Yl h fun v12 h => ?_
     refine Yn [.sure] ?_
     refine Yl h fun v14 h => ?_
     refine Ym1 h fun v15 w3 h => ?_
     refine Yf P2 [4] ?_
     exact YS ⟨v15, rfl, h⟩
   · refine Yf [.skip, .skip, .skip, .skip, .plain, .plain] [4] ?_
     exact YS ⟨false, rfl, h⟩

/-! ### towpath/towpathlaw01.TwinHeld (function 119) -/
def c119_0 := cb_ Try.f119
def c119_3 := cr_ c119_0
def c119_4 := cl_ c119_3
def r119_4 := co_ c119_4
def o_towpathlaw01_TwinHeld_4 : List Nat := [0, 1, 2, 3, 4, 5, 6]

theorem S_towpathlaw01_TwinHeld {x : T_api_Held} {w : World} {R : T_api_Held → World → Prop} (h : F_towpathlaw01_TwinHeld x R w) : C_towpathlaw01_TwinHeld x w R := by
 unfold F_towpathlaw01_TwinHeld at h
 refine Yh Try.func119 ?_
 · refine Yt ?_
   refine Yw pv_ h fun b_ w1 h => ?_
   refine Yw pv_ h fun b_1 w2 h => ?_
   refine Yf [] [1, 2] ?_
   refine Ys ?_
   refine wpE_mixregion (id := 1) (ops := r119_4) o_towpathlaw01_TwinHeld_4 (by kernel_rfl) (by kernel_rfl) (by kernel_rfl) (by kernel_rfl) (fun w3 hw => ?_)
   replace h := h w3 hw
   clear hw
   refine Mn P1 ?_
   refine Ml 1 h fun v4 hc h => ?_
   refine Mn P1 ?_
   refine Ml 3 h fun v6 hc h => ?_
   refine mreg_enter (op := (Op.call (Call.mk (Callee.value (Operand.func 131)) #[(Operand.tmp 6)] #[141]))) (ty := 141) (dst := some 7) 4 [3, 2] [(1, fun w' => w'.cell? ⟨b_, 0, none⟩ = some (Value.string v4))] 131 #[sv_ v6] (by kernel_rfl) (by kernel_rfl) (by kernel_rfl) (by kernel_rfl) (by kernel_rfl) (fun ww => by kernel_rfl) (Calls.mono h ?_)
   rintro _ w4 ⟨v7, rfl, h⟩
   obtain ⟨hk0, h⟩ := h
   refine ⟨_, rfl, ⟨hk0, trivial⟩, ?_⟩
   refine Mn P1 ?_
   refine Mstore 6 [0, 1, 2, 3, 4, 5] [] h fun w5 h => ?_
   refine ⟨trivial, ?_⟩
   refine Mf [] [2] ?_
   obtain ⟨res, hc_res, h⟩ := h
   exact YSg (rs := [(ResultVar.cell 2 143)]) (v := Value.agg #[Value.string res.Key, sv_ res.Versions]) (⟨b_1, 0, [Value.string res.Key, sv_ res.Versions], by kernel_rfl, hc_res, (sizeP_of (k := 2) (by kernel_rfl) (by kernel_rfl)), .inl ⟨by kernel_rfl, rfl⟩, trivial⟩) ⟨res, rfl, h⟩

/-! ### towpath/towpathlaw01.LeftHeld (function 120) -/

theorem S_towpathlaw01_LeftHeld {t_ : T_api_Held} {x : T_api_Held} {w : World} {R : Bool → World → Prop} (h : F_towpathlaw01_LeftHeld t_ x R w) : C_towpathlaw01_LeftHeld t_ x w R := by
 unfold F_towpathlaw01_LeftHeld at h
 refine Yh Try.func120 ?_
 · refine Yt ?_
   refine Yw pv_ h fun b_ w1 h => ?_
   refine Yw pv_ h fun b_1 w2 h => ?_
   refine Yf P1 [2, 3] ?_
   refine Yt ?_
   refine Yn P1 ?_
   refine Yl h fun v6 h => ?_
   refine Yn P1 ?_
   refine Yl h fun v8 h => ?_
   refine Yn P3 ?_
   refine Yspl 10 h (fun h => ?_) fun h => ?_
   · refine Yl h fun v12 h => ?_
     refine Yn [.sure] ?_
     refine Yl h fun v14 h => ?_
     refine Ym1 h fun v15 w3 h => ?_
     refine Yf P2 [4] ?_
     exact YS ⟨v15, rfl, h⟩
   · refine Yf [.skip, .skip, .skip, .skip, .plain, .plain] [4] ?_
     exact YS ⟨false, rfl, h⟩

/-! ### towpath/towpathlaw01.SameVersions (function 121) -/
def c121_0 := cb_ Try.f121
def c121_3 := cr_ c121_0
def c121_13 := cr_ c121_3
def c121_14 := cl_ c121_13
def c121_17 := cr_ c121_14
def c121_18 := cl_ c121_17
def c121_19 := cl_ c121_18
def c121_26 := cr_ c121_19
def c121_27 := cl_ c121_26
def c121_28 := cl_ c121_27
def c121_29 := cl_ c121_28
def r121_29 := co_ c121_29

theorem S_towpathlaw01_SameVersions {a_ : Slc} {b_ : Slc} {w : World} {R : Bool → World → Prop} (h : F_towpathlaw01_SameVersions a_ b_ R w) : C_towpathlaw01_SameVersions a_ b_ w R := by
 unfold F_towpathlaw01_SameVersions at h
 refine Yh Try.func121 ?_
 · refine Yp P1 [0, 1] ?_
   refine Ys ?_
   refine Yp (Pl 5) [0, 1, 10] ?_
   refine Yc h (fun h => ?_) fun h => ?_
   · refine Yp P1 [4] ?_
     exact YS ⟨false, rfl, h⟩
   · refine Yskip ?_
     refine Ys ?_
     refine Yp P1 [0, 1, 5] ?_
     refine Yd 0 ?_
     obtain ⟨I, μ, h0, hr⟩ := h
     refine Yloop (fun m l w => ∃ (i : Int), l = [(0, sv_ a_), (1, sv_ b_), (5, Value.int .i64 i)] ∧ I i w ∧ μ i w = m) ⟨0, rfl, h0, rfl⟩ ?_
     rintro _ _ w1 ⟨i, rfl, hI, rfl⟩
     obtain ⟨again_, again__h, h⟩ : ∃ again_ : Int → World → Prop, (∀ i' w', again_ i' w' → I i' w' ∧ μ i' w' < μ i w1) ∧ F_towpathlaw01_SameVersions_L0 a_ b_ R again_ i w1 := ⟨_, fun _ _ h => h, hr i w1 hI⟩
     clear h0 hI
     unfold F_towpathlaw01_SameVersions_L0 at h
     refine Ys ?_
     refine Yp P4 [0, 1, 5, 14] ?_
     refine Yc h (fun h => ?_) fun h => ?_
     · refine Yskip ?_
       refine Ys ?_
       refine Yd 1 ?_
       refine Ys ?_
       refine wpE_drawregion (id := 6) (ops := r121_29) (by kernel_rfl) (by kernel_rfl) (by kernel_rfl) ?_
       refine Qn P2 ?_
       obtain ⟨hp_14, h⟩ := h
       refine Qu 17 (fun pp => .slice pp a_.len a_.cap) hp_14 ?_
       refine Qi h fun h => ?_
       refine QL h fun v20 h => ?_
       refine Qn P2 ?_
       obtain ⟨hp_15, h⟩ := h
       refine Qu 21 (fun pp => .slice pp b_.len b_.cap) hp_15 ?_
       refine Qi h fun h => ?_
       refine QL h fun v24 h => ?_
       refine qreg_val (op := (Op.binOp BinOp.neq 145 (Operand.tmp 20) (Operand.tmp 24) 145)) (ty := 4) (dst := some 25) (Value.bool (!(((v20.Number == v24.Number) && (v20.Val == v24.Val)) && (v20.Drop == v24.Drop)))) (by kernel_rfl) (fun ww => run_struct_neq (xs := [Value.int .i64 v20.Number, Value.string v20.Val, Value.bool v20.Drop]) (ys := [Value.int .i64 v24.Number, Value.string v24.Val, Value.bool v24.Drop]) (by kernel_rfl) (by kernel_rfl) (by kernel_rfl) (by kernel_rfl) (by kernel_rfl) ww) ?_
       refine Qf [] [0, 1, 5, 25] h fun w2 h => ?_
       refine Yc h (fun h => ?_) fun h => ?_
       · refine Yp P1 [4] ?_
         exact YS ⟨false, rfl, h⟩
       · refine Yskip ?_
         refine Yr ?_
         refine Yf P3 [0, 1, 5] ?_
         have hb_ := again__h _ _ h
         exact ⟨_, hb_.2, _, Sub.mk (by kernel_rfl), (IntKind.i64.wrap (i + 1)), rfl, hb_.1, rfl⟩
     · refine Yexit 0 ?_
       refine Yp P1 [4] ?_
       exact YS ⟨true, rfl, h⟩
end
end Go.Proofs.Ytpedclhflmhakaa
