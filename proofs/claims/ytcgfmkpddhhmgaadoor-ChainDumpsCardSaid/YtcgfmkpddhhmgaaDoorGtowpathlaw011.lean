/- WRITTEN BY PROGRAM (dec.py): for each Go function the clean formula F, the call's contract C, and the proof S that F gives C. -/
import Derived.Test.YtcgfmkpddhhmgaaDoorRows
import Derived.Test.YtcgfmkpddhhmgaaDoorGF
namespace Go.Proofs.YtcgfmkpddhhmgaaDoor
open Go
set_option linter.unusedVariables false

/-! ### towpath/towpathlaw01.LeftInts (function 20) -/
noncomputable def c_towpathlaw01_LeftInts_0 : Code := (Tryd.f20.body).getD Code.skip
noncomputable def c_towpathlaw01_LeftInts_1 : Code := Code.l c_towpathlaw01_LeftInts_0
noncomputable def r_towpathlaw01_LeftInts_1 : Array Oper := Code.ops c_towpathlaw01_LeftInts_1
noncomputable def c_towpathlaw01_LeftInts_3 : Code := Code.r c_towpathlaw01_LeftInts_0
noncomputable def c_towpathlaw01_LeftInts_4 : Code := Code.l c_towpathlaw01_LeftInts_3
noncomputable def c_towpathlaw01_LeftInts_5 : Code := Code.l c_towpathlaw01_LeftInts_4
noncomputable def r_towpathlaw01_LeftInts_5 : Array Oper := Code.ops c_towpathlaw01_LeftInts_5
noncomputable def c_towpathlaw01_LeftInts_7 : Code := Code.r c_towpathlaw01_LeftInts_4
noncomputable def c_towpathlaw01_LeftInts_8 : Code := Code.l c_towpathlaw01_LeftInts_7
noncomputable def c_towpathlaw01_LeftInts_9 : Code := Code.l c_towpathlaw01_LeftInts_8
noncomputable def r_towpathlaw01_LeftInts_9 : Array Oper := Code.ops c_towpathlaw01_LeftInts_9
noncomputable def c_towpathlaw01_LeftInts_11 : Code := Code.r c_towpathlaw01_LeftInts_8
noncomputable def c_towpathlaw01_LeftInts_12 : Code := Code.r c_towpathlaw01_LeftInts_7
noncomputable def c_towpathlaw01_LeftInts_13 : Code := Code.r c_towpathlaw01_LeftInts_3
noncomputable def c_towpathlaw01_LeftInts_14 : Code := Code.l c_towpathlaw01_LeftInts_13
noncomputable def c_towpathlaw01_LeftInts_15 : Code := Code.l c_towpathlaw01_LeftInts_14
noncomputable def r_towpathlaw01_LeftInts_15 : Array Oper := Code.ops c_towpathlaw01_LeftInts_15
noncomputable def c_towpathlaw01_LeftInts_17 : Code := Code.r c_towpathlaw01_LeftInts_14
noncomputable def c_towpathlaw01_LeftInts_18 : Code := Code.l c_towpathlaw01_LeftInts_17
noncomputable def c_towpathlaw01_LeftInts_19 : Code := Code.l c_towpathlaw01_LeftInts_18
noncomputable def c_towpathlaw01_LeftInts_20 : Code := Code.l c_towpathlaw01_LeftInts_19
noncomputable def c_towpathlaw01_LeftInts_21 : Code := Code.l c_towpathlaw01_LeftInts_20
noncomputable def r_towpathlaw01_LeftInts_21 : Array Oper := Code.ops c_towpathlaw01_LeftInts_21
noncomputable def c_towpathlaw01_LeftInts_23 : Code := Code.r c_towpathlaw01_LeftInts_20
noncomputable def c_towpathlaw01_LeftInts_24 : Code := Code.l c_towpathlaw01_LeftInts_23
noncomputable def c_towpathlaw01_LeftInts_25 : Code := Code.r c_towpathlaw01_LeftInts_23
noncomputable def c_towpathlaw01_LeftInts_26 : Code := Code.r c_towpathlaw01_LeftInts_19
noncomputable def c_towpathlaw01_LeftInts_27 : Code := Code.l c_towpathlaw01_LeftInts_26
noncomputable def c_towpathlaw01_LeftInts_28 : Code := Code.l c_towpathlaw01_LeftInts_27
noncomputable def c_towpathlaw01_LeftInts_29 : Code := Code.l c_towpathlaw01_LeftInts_28
noncomputable def r_towpathlaw01_LeftInts_29 : Array Oper := Code.ops c_towpathlaw01_LeftInts_29
noncomputable def c_towpathlaw01_LeftInts_31 : Code := Code.r c_towpathlaw01_LeftInts_28
noncomputable def c_towpathlaw01_LeftInts_32 : Code := Code.l c_towpathlaw01_LeftInts_31
noncomputable def c_towpathlaw01_LeftInts_33 : Code := Code.l c_towpathlaw01_LeftInts_32
noncomputable def r_towpathlaw01_LeftInts_33 : Array Oper := Code.ops c_towpathlaw01_LeftInts_33
noncomputable def c_towpathlaw01_LeftInts_35 : Code := Code.r c_towpathlaw01_LeftInts_32
noncomputable def c_towpathlaw01_LeftInts_36 : Code := Code.r c_towpathlaw01_LeftInts_31
noncomputable def c_towpathlaw01_LeftInts_37 : Code := Code.r c_towpathlaw01_LeftInts_26
noncomputable def r_towpathlaw01_LeftInts_37 : Array Oper := Code.ops c_towpathlaw01_LeftInts_37
noncomputable def c_towpathlaw01_LeftInts_39 : Code := Code.r c_towpathlaw01_LeftInts_13
noncomputable def c_towpathlaw01_LeftInts_40 : Code := Code.l c_towpathlaw01_LeftInts_39
noncomputable def r_towpathlaw01_LeftInts_40 : Array Oper := Code.ops c_towpathlaw01_LeftInts_40
noncomputable def c_towpathlaw01_LeftInts_42 : Code := Code.r c_towpathlaw01_LeftInts_39
noncomputable def c_towpathlaw01_LeftInts_43 : Code := Code.l c_towpathlaw01_LeftInts_42
noncomputable def r_towpathlaw01_LeftInts_43 : Array Oper := Code.ops c_towpathlaw01_LeftInts_43
noncomputable def c_towpathlaw01_LeftInts_45 : Code := Code.r c_towpathlaw01_LeftInts_42

set_option maxRecDepth 100000 in
set_option maxHeartbeats 4000000 in
theorem S_towpathlaw01_LeftInts {t_ : Slc} {l_ : Slc} {w : World} {R : Bool → World → Prop} (h : F_towpathlaw01_LeftInts t_ l_ R w) : C_towpathlaw01_LeftInts t_ l_ w R := by
  unfold F_towpathlaw01_LeftInts at h
  unfold C_towpathlaw01_LeftInts
  refine Calls.mono (calls_of_wpE (args := [Value.slice t_.ptr t_.len t_.cap, Value.slice l_.ptr l_.len l_.cap]) (R := fun v w' => ∃ (r0 : Bool), v = Value.bool r0 ∧ R r0 w') Tryd.func20 (c := c_towpathlaw01_LeftInts_0) (by kernel_rfl) 45 (by kernel_rfl) (by kernel_rfl) [(0, Value.slice t_.ptr t_.len t_.cap), (1, Value.slice l_.ptr l_.len l_.cap)] (by kernel_rfl) ?_) ?_
  · refine wpE_seq (x := c_towpathlaw01_LeftInts_1) (y := c_towpathlaw01_LeftInts_3) (by kernel_rfl) ?_
    refine wpE_region (id := 0) (ops := r_towpathlaw01_LeftInts_1) (by kernel_rfl) ?_
    refine reg_run [.plain] 1 [(0, [], Value.slice t_.ptr t_.len t_.cap), (1, [], Value.slice l_.ptr l_.len l_.cap)] (by kernel_rfl) (by kernel_rfl) ?_
    refine reg_end [(0, Value.slice t_.ptr t_.len t_.cap), (1, Value.slice l_.ptr l_.len l_.cap)] (by kernel_rfl) (by kernel_rfl) ?_
    change WpE _ _ c_towpathlaw01_LeftInts_3 _ _ _
    refine wpE_seq (x := c_towpathlaw01_LeftInts_4) (y := c_towpathlaw01_LeftInts_13) (by kernel_rfl) ?_
    refine wpE_seq (x := c_towpathlaw01_LeftInts_5) (y := c_towpathlaw01_LeftInts_7) (by kernel_rfl) ?_
    refine wpE_region (id := 1) (ops := r_towpathlaw01_LeftInts_5) (by kernel_rfl) ?_
    refine reg_run [.plain, .plain, .plain, .plain, .plain, .plain, .plain, .plain, .plain, .plain, .plain, .pick] 12 [(0, [], Value.slice t_.ptr t_.len t_.cap), (1, [], Value.slice l_.ptr l_.len l_.cap), (18, [], Value.bool ((((t_.len : Nat) : Int) != ((l_.len : Nat) : Int)) || (decide (((t_.cap : Nat) : Int) ≤ ((l_.len : Nat) : Int)))))] (by kernel_rfl) (by kernel_rfl) ?_
    refine reg_end [(0, Value.slice t_.ptr t_.len t_.cap), (1, Value.slice l_.ptr l_.len l_.cap), (18, Value.bool ((((t_.len : Nat) : Int) != ((l_.len : Nat) : Int)) || (decide (((t_.cap : Nat) : Int) ≤ ((l_.len : Nat) : Int)))))] (by kernel_rfl) (by kernel_rfl) ?_
    change WpE _ _ c_towpathlaw01_LeftInts_7 _ _ _
    refine wpE_cond (o := (Operand.tmp 18)) (b := ((((t_.len : Nat) : Int) != ((l_.len : Nat) : Int)) || (decide (((t_.cap : Nat) : Int) ≤ ((l_.len : Nat) : Int))))) (x := c_towpathlaw01_LeftInts_8) (y := c_towpathlaw01_LeftInts_12) (by kernel_rfl) (by kernel_rfl) (fun hb => ?_) (fun hb => ?_)
    · replace h := h.1 hb
      refine wpE_seq (x := c_towpathlaw01_LeftInts_9) (y := c_towpathlaw01_LeftInts_11) (by kernel_rfl) ?_
      refine wpE_region (id := 2) (ops := r_towpathlaw01_LeftInts_9) (by kernel_rfl) ?_
      refine reg_run [.plain] 1 [(4, [], Value.bool false)] (by kernel_rfl) (by kernel_rfl) ?_
      refine reg_end [(4, Value.bool false)] (by kernel_rfl) (by kernel_rfl) ?_
      change WpE _ _ c_towpathlaw01_LeftInts_11 _ _ _
      refine wpE_ret (by kernel_rfl) ?_
      repeat (first | refine seqQ_ret ?_ | refine blockQ_ret ?_ | refine loopQ_ret ?_ | refine cutQ_ret ?_)
      exact retS (rs := [(Go.ResultVar.tmp 4)]) (v := Value.bool false) (by kernel_rfl) (⟨by kernel_rfl, trivial⟩) ⟨false, rfl, h⟩
    · replace h := h.2 hb
      refine wpE_skip (by kernel_rfl) ?_
      change WpE _ _ c_towpathlaw01_LeftInts_13 _ _ _
      refine wpE_seq (x := c_towpathlaw01_LeftInts_14) (y := c_towpathlaw01_LeftInts_39) (by kernel_rfl) ?_
      refine wpE_seq (x := c_towpathlaw01_LeftInts_15) (y := c_towpathlaw01_LeftInts_17) (by kernel_rfl) ?_
      refine wpE_region (id := 3) (ops := r_towpathlaw01_LeftInts_15) (by kernel_rfl) ?_
      refine reg_run [.plain] 1 [(0, [], Value.slice t_.ptr t_.len t_.cap), (1, [], Value.slice l_.ptr l_.len l_.cap), (5, [], Value.int .i64 0)] (by kernel_rfl) (by kernel_rfl) ?_
      refine reg_end [(0, Value.slice t_.ptr t_.len t_.cap), (1, Value.slice l_.ptr l_.len l_.cap), (5, Value.int .i64 0)] (by kernel_rfl) (by kernel_rfl) ?_
      change WpE _ _ c_towpathlaw01_LeftInts_17 _ _ _
      refine wpE_block (id := 0) (x := c_towpathlaw01_LeftInts_18) (by kernel_rfl) ?_
      obtain ⟨I, μ, h0, hr⟩ := h
      refine wpE_loop (x := c_towpathlaw01_LeftInts_19) (by kernel_rfl) (fun m l w => ∃ (i : Int), l = [(0, Value.slice t_.ptr t_.len t_.cap), (1, Value.slice l_.ptr l_.len l_.cap), (5, Value.int .i64 i)] ∧ I i w ∧ μ i w = m) (l' := [(0, Value.slice t_.ptr t_.len t_.cap), (1, Value.slice l_.ptr l_.len l_.cap), (5, Value.int .i64 0)]) (Sub.mk (by kernel_rfl)) ⟨0, rfl, h0, rfl⟩ ?_
      rintro _ _ w1 ⟨i, rfl, hI, rfl⟩
      obtain ⟨again_, again__h, h⟩ : ∃ again_ : Int → World → Prop, (∀ i' w', again_ i' w' → I i' w' ∧ μ i' w' < μ i w1) ∧ F_towpathlaw01_LeftInts_L0 t_ l_ R again_ i w1 := ⟨_, fun _ _ h => h, hr i w1 hI⟩
      clear h0 hI
      unfold F_towpathlaw01_LeftInts_L0 at h
      refine wpE_seq (x := c_towpathlaw01_LeftInts_20) (y := c_towpathlaw01_LeftInts_26) (by kernel_rfl) ?_
      refine wpE_seq (x := c_towpathlaw01_LeftInts_21) (y := c_towpathlaw01_LeftInts_23) (by kernel_rfl) ?_
      refine wpE_region (id := 4) (ops := r_towpathlaw01_LeftInts_21) (by kernel_rfl) ?_
      refine reg_run [.plain, .plain, .plain, .plain] 4 [(0, [], Value.slice t_.ptr t_.len t_.cap), (1, [], Value.slice l_.ptr l_.len l_.cap), (5, [], Value.int .i64 i), (22, [], Value.bool (decide (i < ((l_.len : Nat) : Int))))] (by kernel_rfl) (by kernel_rfl) ?_
      refine reg_end [(0, Value.slice t_.ptr t_.len t_.cap), (1, Value.slice l_.ptr l_.len l_.cap), (5, Value.int .i64 i), (22, Value.bool (decide (i < ((l_.len : Nat) : Int))))] (by kernel_rfl) (by kernel_rfl) ?_
      change WpE _ _ c_towpathlaw01_LeftInts_23 _ _ _
      refine wpE_cond (o := (Operand.tmp 22)) (b := (decide (i < ((l_.len : Nat) : Int)))) (x := c_towpathlaw01_LeftInts_24) (y := c_towpathlaw01_LeftInts_25) (by kernel_rfl) (by kernel_rfl) (fun hb => ?_) (fun hb => ?_)
      · replace h := h.1 hb
        refine wpE_skip (by kernel_rfl) ?_
        change WpE _ _ c_towpathlaw01_LeftInts_26 _ _ _
        refine wpE_seq (x := c_towpathlaw01_LeftInts_27) (y := c_towpathlaw01_LeftInts_37) (by kernel_rfl) ?_
        refine wpE_block (id := 1) (x := c_towpathlaw01_LeftInts_28) (by kernel_rfl) ?_
        refine wpE_seq (x := c_towpathlaw01_LeftInts_29) (y := c_towpathlaw01_LeftInts_31) (by kernel_rfl) ?_
        refine wpE_drawregion (id := 6) (ops := r_towpathlaw01_LeftInts_29) (by kernel_rfl) (by kernel_rfl) (by kernel_rfl) ?_
        refine qreg_run [.plain, .plain] 2 [(0, [], Value.slice t_.ptr t_.len t_.cap), (1, [], Value.slice l_.ptr l_.len l_.cap), (5, [], Value.int .i64 i), (25, [], Value.slice t_.ptr t_.len t_.cap), (26, [], Value.int .i64 i)] (by kernel_rfl) (by kernel_rfl) ?_
        obtain ⟨hp_14, h⟩ := h
        refine qreg_conv [(0, [], Value.slice t_.ptr t_.len t_.cap), (1, [], Value.slice l_.ptr l_.len l_.cap), (5, [], Value.int .i64 i), (25, [], Value.slice (some ⟨(pblk t_.ptr), (poff t_.ptr), none⟩) t_.len t_.cap), (26, [], Value.int .i64 i)] (congrArg (fun pp => ([(0, [], Value.slice t_.ptr t_.len t_.cap), (1, [], Value.slice l_.ptr l_.len l_.cap), (5, [], Value.int .i64 i), (25, [], Value.slice pp t_.len t_.cap), (26, [], Value.int .i64 i)] : GEnv)) hp_14) ?_
        obtain ⟨h0, h1, h⟩ := h
        refine qreg_indexS1 (t := 50) (e := 3) (x := (Go.Operand.tmp 25)) (ix := (Go.Operand.tmp 26)) (b := (pblk t_.ptr)) (o := (poff t_.ptr)) (l := t_.len) (c := t_.cap) (k := .i64) (j := i) (ty := 0) (dst := some 27) (by kernel_rfl) (by kernel_rfl) (by kernel_rfl) (by kernel_rfl) (by kernel_rfl) h0 h1 ?_
        refine qreg_run [] 3 [(0, [], Value.slice t_.ptr t_.len t_.cap), (1, [], Value.slice l_.ptr l_.len l_.cap), (5, [], Value.int .i64 i), (27, [], Value.pointer (some ⟨(pblk t_.ptr), (poff t_.ptr) + i.toNat, none⟩))] (by kernel_rfl) (by kernel_rfl) ?_
        obtain ⟨v28, hc, h⟩ := h
        refine qreg_load1 (t := 3) (a := (Go.Operand.tmp 27)) (b := (pblk t_.ptr)) (o := ((poff t_.ptr) + i.toNat)) (ty := 3) (dst := some 28) (by kernel_rfl) (by kernel_rfl) (by kernel_rfl) hc ?_
        refine qreg_run [.plain, .plain] 6 [(0, [], Value.slice t_.ptr t_.len t_.cap), (1, [], Value.slice l_.ptr l_.len l_.cap), (5, [], Value.int .i64 i), (28, [], Value.int .i64 v28), (29, [], Value.slice l_.ptr l_.len l_.cap), (30, [], Value.int .i64 i)] (by kernel_rfl) (by kernel_rfl) ?_
        obtain ⟨hp_15, h⟩ := h
        refine qreg_conv [(0, [], Value.slice t_.ptr t_.len t_.cap), (1, [], Value.slice l_.ptr l_.len l_.cap), (5, [], Value.int .i64 i), (28, [], Value.int .i64 v28), (29, [], Value.slice (some ⟨(pblk l_.ptr), (poff l_.ptr), none⟩) l_.len l_.cap), (30, [], Value.int .i64 i)] (congrArg (fun pp => ([(0, [], Value.slice t_.ptr t_.len t_.cap), (1, [], Value.slice l_.ptr l_.len l_.cap), (5, [], Value.int .i64 i), (28, [], Value.int .i64 v28), (29, [], Value.slice pp l_.len l_.cap), (30, [], Value.int .i64 i)] : GEnv)) hp_15) ?_
        obtain ⟨h0, h1, h⟩ := h
        refine qreg_indexS1 (t := 50) (e := 3) (x := (Go.Operand.tmp 29)) (ix := (Go.Operand.tmp 30)) (b := (pblk l_.ptr)) (o := (poff l_.ptr)) (l := l_.len) (c := l_.cap) (k := .i64) (j := i) (ty := 0) (dst := some 31) (by kernel_rfl) (by kernel_rfl) (by kernel_rfl) (by kernel_rfl) (by kernel_rfl) h0 h1 ?_
        refine qreg_run [] 7 [(0, [], Value.slice t_.ptr t_.len t_.cap), (1, [], Value.slice l_.ptr l_.len l_.cap), (5, [], Value.int .i64 i), (28, [], Value.int .i64 v28), (31, [], Value.pointer (some ⟨(pblk l_.ptr), (poff l_.ptr) + i.toNat, none⟩))] (by kernel_rfl) (by kernel_rfl) ?_
        obtain ⟨v32, hc, h⟩ := h
        refine qreg_load1 (t := 3) (a := (Go.Operand.tmp 31)) (b := (pblk l_.ptr)) (o := ((poff l_.ptr) + i.toNat)) (ty := 3) (dst := some 32) (by kernel_rfl) (by kernel_rfl) (by kernel_rfl) hc ?_
        refine qreg_run [.plain] 9 [(0, [], Value.slice t_.ptr t_.len t_.cap), (1, [], Value.slice l_.ptr l_.len l_.cap), (5, [], Value.int .i64 i), (33, [], Value.bool (v28 != v32))] (by kernel_rfl) (by kernel_rfl) ?_
        refine qreg_end [(0, Value.slice t_.ptr t_.len t_.cap), (1, Value.slice l_.ptr l_.len l_.cap), (5, Value.int .i64 i), (33, Value.bool (v28 != v32))] (by kernel_rfl) (by kernel_rfl) (fun w2 hw => ?_)
        replace h := h w2 hw
        clear hw
        change WpE _ _ c_towpathlaw01_LeftInts_31 _ _ _
        refine wpE_cond (o := (Operand.tmp 33)) (b := (v28 != v32)) (x := c_towpathlaw01_LeftInts_32) (y := c_towpathlaw01_LeftInts_36) (by kernel_rfl) (by kernel_rfl) (fun hb => ?_) (fun hb => ?_)
        · replace h := h.1 hb
          refine wpE_seq (x := c_towpathlaw01_LeftInts_33) (y := c_towpathlaw01_LeftInts_35) (by kernel_rfl) ?_
          refine wpE_region (id := 7) (ops := r_towpathlaw01_LeftInts_33) (by kernel_rfl) ?_
          refine reg_run [.plain] 1 [(4, [], Value.bool false)] (by kernel_rfl) (by kernel_rfl) ?_
          refine reg_end [(4, Value.bool false)] (by kernel_rfl) (by kernel_rfl) ?_
          change WpE _ _ c_towpathlaw01_LeftInts_35 _ _ _
          refine wpE_ret (by kernel_rfl) ?_
          repeat (first | refine seqQ_ret ?_ | refine blockQ_ret ?_ | refine loopQ_ret ?_ | refine cutQ_ret ?_)
          exact retS (rs := [(Go.ResultVar.tmp 4)]) (v := Value.bool false) (by kernel_rfl) (⟨by kernel_rfl, trivial⟩) ⟨false, rfl, h⟩
        · replace h := h.2 hb
          refine wpE_skip (by kernel_rfl) ?_
          change WpE _ _ c_towpathlaw01_LeftInts_37 _ _ _
          refine wpE_region (id := 5) (ops := r_towpathlaw01_LeftInts_37) (by kernel_rfl) ?_
          refine reg_run [.plain, .plain, .plain] 3 [(0, [], Value.slice t_.ptr t_.len t_.cap), (1, [], Value.slice l_.ptr l_.len l_.cap), (5, [], Value.int .i64 (IntKind.i64.wrap (i + 1)))] (by kernel_rfl) (by kernel_rfl) ?_
          refine reg_end [(0, Value.slice t_.ptr t_.len t_.cap), (1, Value.slice l_.ptr l_.len l_.cap), (5, Value.int .i64 (IntKind.i64.wrap (i + 1)))] (by kernel_rfl) (by kernel_rfl) ?_
          have hb_ := again__h _ _ h
          exact ⟨_, hb_.2, [(0, Value.slice t_.ptr t_.len t_.cap), (1, Value.slice l_.ptr l_.len l_.cap), (5, Value.int .i64 (IntKind.i64.wrap (i + 1)))], Sub.mk (by kernel_rfl), (IntKind.i64.wrap (i + 1)), rfl, hb_.1, rfl⟩
      · replace h := h.2 hb
        refine wpE_exit (id := 0) (by kernel_rfl) ?_
        change WpE _ _ c_towpathlaw01_LeftInts_39 _ _ _
        refine wpE_seq (x := c_towpathlaw01_LeftInts_40) (y := c_towpathlaw01_LeftInts_42) (by kernel_rfl) ?_
        refine wpE_region (id := 8) (ops := r_towpathlaw01_LeftInts_40) (by kernel_rfl) ?_
        refine reg_run [.plain, .plain, .plain, .plain] 4 [(1, [], Value.slice l_.ptr l_.len l_.cap), (34, [], Value.slice t_.ptr t_.len t_.cap), (37, [], Value.int .i64 (IntKind.i64.wrap (((l_.len : Nat) : Int) + 1)))] (by kernel_rfl) (by kernel_rfl) ?_
        obtain ⟨h0, h1, h⟩ := h
        refine reg_sliceHi (t := 50) (e := 3) (x := (Go.Operand.tmp 34)) (hi := (Go.Operand.tmp 37)) (p := t_.ptr) (l := t_.len) (c := t_.cap) (sz := 1) (k := .i64) (j := (IntKind.i64.wrap (((l_.len : Nat) : Int) + 1))) (ty := 50) (dst := some 38) (by kernel_rfl) (by kernel_rfl) (by kernel_rfl) (by kernel_rfl) (by kernel_rfl) h0 h1 ?_
        refine reg_run [.plain, .plain] 7 [(38, [], Value.slice t_.ptr ((IntKind.i64.wrap (((l_.len : Nat) : Int) + 1)).toNat) t_.cap), (40, [], Value.int .i64 ((l_.len : Nat) : Int))] (by kernel_rfl) (by kernel_rfl) ?_
        obtain ⟨hp_17, h⟩ := h
        refine reg_conv [(38, [], Value.slice (some ⟨(pblk t_.ptr), (poff t_.ptr), none⟩) ((IntKind.i64.wrap (((l_.len : Nat) : Int) + 1)).toNat) t_.cap), (40, [], Value.int .i64 ((l_.len : Nat) : Int))] (congrArg (fun pp => ([(38, [], Value.slice pp ((IntKind.i64.wrap (((l_.len : Nat) : Int) + 1)).toNat) t_.cap), (40, [], Value.int .i64 ((l_.len : Nat) : Int))] : GEnv)) hp_17) ?_
        obtain ⟨h0, h1, h⟩ := h
        refine reg_indexS1 (t := 50) (e := 3) (x := (Go.Operand.tmp 38)) (ix := (Go.Operand.tmp 40)) (b := (pblk t_.ptr)) (o := (poff t_.ptr)) (l := ((IntKind.i64.wrap (((l_.len : Nat) : Int) + 1)).toNat)) (c := t_.cap) (k := .i64) (j := ((l_.len : Nat) : Int)) (ty := 0) (dst := some 41) (by kernel_rfl) (by kernel_rfl) (by kernel_rfl) (by kernel_rfl) (by kernel_rfl) h0 h1 ?_
        refine reg_run [] 8 [(41, [], Value.pointer (some ⟨(pblk t_.ptr), (poff t_.ptr) + ((l_.len : Nat) : Int).toNat, none⟩))] (by kernel_rfl) (by kernel_rfl) ?_
        obtain ⟨x, hc, h⟩ := h
        refine reg_load1 (t := 3) (a := (Go.Operand.tmp 41)) (b := (pblk t_.ptr)) (o := ((poff t_.ptr) + ((l_.len : Nat) : Int).toNat)) (ty := 3) (dst := some 42) (by kernel_rfl) (by kernel_rfl) (by kernel_rfl) hc ?_
        refine reg_run [.plain] 10 [(6, [], Value.int .i64 x)] (by kernel_rfl) (by kernel_rfl) ?_
        refine reg_end [(6, Value.int .i64 x)] (by kernel_rfl) (by kernel_rfl) ?_
        change WpE _ _ c_towpathlaw01_LeftInts_42 _ _ _
        refine wpE_seq (x := c_towpathlaw01_LeftInts_43) (y := c_towpathlaw01_LeftInts_45) (by kernel_rfl) ?_
        refine wpE_region (id := 9) (ops := r_towpathlaw01_LeftInts_43) (by kernel_rfl) ?_
        refine reg_run [.plain, .plain, .plain] 3 [(4, [], Value.bool (x == 7777))] (by kernel_rfl) (by kernel_rfl) ?_
        refine reg_end [(4, Value.bool (x == 7777))] (by kernel_rfl) (by kernel_rfl) ?_
        change WpE _ _ c_towpathlaw01_LeftInts_45 _ _ _
        refine wpE_ret (by kernel_rfl) ?_
        repeat (first | refine seqQ_ret ?_ | refine blockQ_ret ?_ | refine loopQ_ret ?_ | refine cutQ_ret ?_)
        exact retS (rs := [(Go.ResultVar.tmp 4)]) (v := Value.bool (x == 7777)) (by kernel_rfl) (⟨by kernel_rfl, trivial⟩) ⟨(x == 7777), rfl, h⟩
  · rintro e w' ⟨v, rfl, r0, rfl, h⟩; exact ⟨r0, rfl, h⟩

/-! ### (*towpath/towpathlaw01.Book).Ints (function 21) -/
noncomputable def c_towpathlaw01_Book_Ints_0 : Code := (Tryd.f21.body).getD Code.skip
noncomputable def r_towpathlaw01_Book_Ints_0 : Array Oper := Code.ops c_towpathlaw01_Book_Ints_0

set_option maxRecDepth 100000 in
set_option maxHeartbeats 4000000 in
theorem S_towpathlaw01_Book_Ints {b_ : Option Addr} {l_ : Slc} {w : World} {R : World → Prop} (h : F_towpathlaw01_Book_Ints b_ l_ R w) : C_towpathlaw01_Book_Ints b_ l_ w R := by
  unfold F_towpathlaw01_Book_Ints at h
  unfold C_towpathlaw01_Book_Ints
  refine Calls.mono (calls_of_wpE (args := [Value.pointer b_, Value.slice l_.ptr l_.len l_.cap]) (R := fun v w' => v = Value.tuple #[] ∧ R w') Tryd.func21 (c := c_towpathlaw01_Book_Ints_0) (by kernel_rfl) 7 (by kernel_rfl) (by kernel_rfl) [(0, Value.pointer b_), (1, Value.slice l_.ptr l_.len l_.cap)] (by kernel_rfl) ?_) ?_
  · refine wpE_region (id := 0) (ops := r_towpathlaw01_Book_Ints_0) (by kernel_rfl) ?_
    refine reg_run [.plain, .plain] 2 [(4, [], Value.pointer b_), (5, [], Value.slice l_.ptr l_.len l_.cap)] (by kernel_rfl) (by kernel_rfl) ?_
    refine reg_enter (op := (Go.Op.call (Go.Call.mk (Go.Callee.value (Go.Operand.func 64)) #[(Go.Operand.tmp 4), (Go.Operand.tmp 5)] #[64, 50]))) (ty := 0) (dst := some 6) 64 #[Value.pointer b_, Value.slice l_.ptr l_.len l_.cap] (by kernel_rfl) (fun ww => by kernel_rfl) (Calls.mono h ?_)
    rintro _ w1 ⟨rfl, h⟩
    refine ⟨_, rfl, ?_⟩
    refine reg_end [] (by kernel_rfl) (by kernel_rfl) ?_
    repeat (first | refine seqQ_exit ?_ | refine loopQ_exit ?_ | refine cutQ_exit ?_ | refine blockQ_hit ?_ | refine blockQ_miss (by kernel_rfl) ?_)
    refine retQ_normal ?_
    repeat (first | refine seqQ_ret ?_ | refine blockQ_ret ?_ | refine loopQ_ret ?_ | refine cutQ_ret ?_)
    exact retT (rs := []) (vs := []) (by kernel_rfl) (trivial) (by kernel_rfl) ⟨rfl, h⟩
  · rintro e w' ⟨v, rfl, rfl, h⟩; exact ⟨rfl, h⟩

/-! ### (*towpath/towpathlaw01.Book).keepVersion (function 29) -/
noncomputable def c_towpathlaw01_Book_keepVersion_0 : Code := (Tryd.f29.body).getD Code.skip
noncomputable def c_towpathlaw01_Book_keepVersion_1 : Code := Code.l c_towpathlaw01_Book_keepVersion_0
noncomputable def r_towpathlaw01_Book_keepVersion_1 : Array Oper := Code.ops c_towpathlaw01_Book_keepVersion_1
noncomputable def c_towpathlaw01_Book_keepVersion_3 : Code := Code.r c_towpathlaw01_Book_keepVersion_0
noncomputable def r_towpathlaw01_Book_keepVersion_3 : Array Oper := Code.ops c_towpathlaw01_Book_keepVersion_3
def o_towpathlaw01_Book_keepVersion_3 : List Nat := [0, 1, 2, 3, 4, 5, 6, 7, 8, 9, 10, 11, 12, 13, 14, 15]

set_option maxRecDepth 100000 in
set_option maxHeartbeats 4000000 in
theorem S_towpathlaw01_Book_keepVersion {b_ : Option Addr} {l_ : Slc} {w : World} {R : World → Prop} (h : F_towpathlaw01_Book_keepVersion b_ l_ R w) : C_towpathlaw01_Book_keepVersion b_ l_ w R := by
  unfold F_towpathlaw01_Book_keepVersion at h
  unfold C_towpathlaw01_Book_keepVersion
  refine Calls.mono (calls_of_wpE (args := [Value.pointer b_, Value.slice l_.ptr l_.len l_.cap]) (R := fun v w' => v = Value.tuple #[] ∧ R w') Tryd.func29 (c := c_towpathlaw01_Book_keepVersion_0) (by kernel_rfl) 26 (by kernel_rfl) (by kernel_rfl) [(0, Value.pointer b_), (1, Value.slice l_.ptr l_.len l_.cap)] (by kernel_rfl) ?_) ?_
  · refine wpE_seq (x := c_towpathlaw01_Book_keepVersion_1) (y := c_towpathlaw01_Book_keepVersion_3) (by kernel_rfl) ?_
    refine wpE_region (id := 0) (ops := r_towpathlaw01_Book_keepVersion_1) (by kernel_rfl) ?_
    refine reg_run [.plain] 1 [(0, [], Value.pointer b_), (1, [], Value.slice l_.ptr l_.len l_.cap), (4, [], Value.pointer b_)] (by kernel_rfl) (by kernel_rfl) ?_
    obtain ⟨hp_1, h⟩ := h
    refine reg_conv [(0, [], Value.pointer b_), (1, [], Value.slice l_.ptr l_.len l_.cap), (4, [], Value.pointer (some ⟨(pblk b_), (poff b_), none⟩))] (congrArg (fun pp => ([(0, [], Value.pointer b_), (1, [], Value.slice l_.ptr l_.len l_.cap), (4, [], Value.pointer pp)] : GEnv)) hp_1) ?_
    refine reg_run [.plain] 2 [(0, [], Value.pointer b_), (1, [], Value.slice l_.ptr l_.len l_.cap), (4, [], Value.pointer (some ⟨(pblk b_), (poff b_), none⟩)), (5, [], Value.pointer (some ⟨(pblk b_), (poff b_), none⟩))] (by kernel_rfl) (by kernel_rfl) ?_
    refine reg_run [.plain] 3 [(0, [], Value.pointer b_), (1, [], Value.slice l_.ptr l_.len l_.cap), (4, [], Value.pointer (some ⟨(pblk b_), (poff b_), none⟩)), (6, [], Value.pointer (some ⟨(pblk b_), (poff b_), none⟩))] (by kernel_rfl) (by kernel_rfl) ?_
    obtain ⟨v7, hc, h⟩ := h
    refine reg_load1 (t := 3) (a := (Go.Operand.tmp 6)) (b := (pblk b_)) (o := (poff b_)) (ty := 3) (dst := some 7) (by kernel_rfl) (by kernel_rfl) (by kernel_rfl) hc ?_
    refine reg_run [.plain, .plain, .plain] 7 [(0, [], Value.pointer b_), (1, [], Value.slice l_.ptr l_.len l_.cap), (8, [], Value.int .i64 (IntKind.i64.wrap (v7 + 1))), (10, [], Value.pointer (some ⟨(pblk b_), (poff b_), none⟩))] (by kernel_rfl) (by kernel_rfl) ?_
    obtain ⟨hc, h⟩ := h
    refine reg_store (t := 3) (a := (Go.Operand.tmp 10)) (x := (Go.Operand.tmp 8)) (b := (pblk b_)) (o := (poff b_)) (ty := 0) (dst := none) [Value.int .i64 (IntKind.i64.wrap (v7 + 1))] (by kernel_rfl) (by kernel_rfl) (by kernel_rfl) (k := 1) (by kernel_rfl) (by kernel_rfl) (by kernel_rfl) hc (fun w1 hw => ?_)
    replace h := h w1 hw
    clear hw
    refine reg_end [(0, Value.pointer b_), (1, Value.slice l_.ptr l_.len l_.cap)] (by kernel_rfl) (by kernel_rfl) ?_
    change WpE _ _ c_towpathlaw01_Book_keepVersion_3 _ _ _
    refine wpE_mixregion (id := 1) (ops := r_towpathlaw01_Book_keepVersion_3) o_towpathlaw01_Book_keepVersion_3 (by kernel_rfl) (by kernel_rfl) (by kernel_rfl) (by kernel_rfl) (fun w2 hw => ?_)
    replace h := h w2 hw
    clear hw
    refine mreg_run [.plain, .plain] 2 [(0, [], Value.pointer b_), (1, [], Value.slice l_.ptr l_.len l_.cap), (11, [], Value.pointer b_), (12, [], Value.pointer b_)] (by kernel_rfl) (by kernel_rfl) ?_
    obtain ⟨hp_2, h⟩ := h
    refine mreg_conv [(0, [], Value.pointer b_), (1, [], Value.slice l_.ptr l_.len l_.cap), (11, [], Value.pointer b_), (12, [], Value.pointer (some ⟨(pblk b_), (poff b_), none⟩))] (congrArg (fun pp => ([(0, [], Value.pointer b_), (1, [], Value.slice l_.ptr l_.len l_.cap), (11, [], Value.pointer b_), (12, [], Value.pointer pp)] : GEnv)) hp_2) ?_
    refine mreg_run [.plain] 3 [(0, [], Value.pointer b_), (1, [], Value.slice l_.ptr l_.len l_.cap), (11, [], Value.pointer b_), (12, [], Value.pointer (some ⟨(pblk b_), (poff b_), none⟩)), (13, [], Value.pointer (some ⟨(pblk b_), (poff b_), none⟩))] (by kernel_rfl) (by kernel_rfl) ?_
    refine mreg_run [.plain] 4 [(0, [], Value.pointer b_), (1, [], Value.slice l_.ptr l_.len l_.cap), (11, [], Value.pointer b_), (14, [], Value.pointer (some ⟨(pblk b_), (poff b_) + 6, none⟩))] (by kernel_rfl) (by kernel_rfl) ?_
    obtain ⟨v15, hc, h⟩ := h
    refine mreg_load1 (i := 4) (by kernel_rfl) (t := 39) (a := (Go.Operand.tmp 14)) (b := (pblk b_)) (o := ((poff b_) + 6)) (ty := 39) (dst := some 15) (by kernel_rfl) (by kernel_rfl) (by kernel_rfl) hc ?_
    refine mreg_run [.plain, .plain] 7 [(11, [], Value.pointer b_), (15, [], Value.slice v15.ptr v15.len v15.cap), (16, [], Value.slice l_.ptr l_.len l_.cap), (17, [], Value.pointer b_)] (by kernel_rfl) (by kernel_rfl) ?_
    obtain ⟨hp_3, h⟩ := h
    refine mreg_conv [(11, [], Value.pointer b_), (15, [], Value.slice v15.ptr v15.len v15.cap), (16, [], Value.slice l_.ptr l_.len l_.cap), (17, [], Value.pointer (some ⟨(pblk b_), (poff b_), none⟩))] (congrArg (fun pp => ([(11, [], Value.pointer b_), (15, [], Value.slice v15.ptr v15.len v15.cap), (16, [], Value.slice l_.ptr l_.len l_.cap), (17, [], Value.pointer pp)] : GEnv)) hp_3) ?_
    refine mreg_run [.plain] 8 [(11, [], Value.pointer b_), (15, [], Value.slice v15.ptr v15.len v15.cap), (16, [], Value.slice l_.ptr l_.len l_.cap), (17, [], Value.pointer (some ⟨(pblk b_), (poff b_), none⟩)), (18, [], Value.pointer (some ⟨(pblk b_), (poff b_), none⟩))] (by kernel_rfl) (by kernel_rfl) ?_
    refine mreg_run [.plain] 9 [(11, [], Value.pointer b_), (15, [], Value.slice v15.ptr v15.len v15.cap), (16, [], Value.slice l_.ptr l_.len l_.cap), (19, [], Value.pointer (some ⟨(pblk b_), (poff b_), none⟩))] (by kernel_rfl) (by kernel_rfl) ?_
    obtain ⟨v20, hc, h⟩ := h
    refine mreg_load1 (i := 9) (by kernel_rfl) (t := 3) (a := (Go.Operand.tmp 19)) (b := (pblk b_)) (o := (poff b_)) (ty := 3) (dst := some 20) (by kernel_rfl) (by kernel_rfl) (by kernel_rfl) hc ?_
    refine mreg_run [.plain] 11 [(11, [], Value.pointer b_), (15, [], Value.slice v15.ptr v15.len v15.cap), (21, [], Value.agg #[Value.slice l_.ptr l_.len l_.cap, Value.slice none 0 0, Value.int .i64 v20])] (by kernel_rfl) (by kernel_rfl) ?_
    refine mreg_new (op := (Go.Op.buildSlice 39 1 #[(0, (Go.Operand.tmp 21))])) (ty := 39) (dst := some 22) 11 [10, 5, 9, 8, 7, 6] [(4, fun w' => w'.cell? ⟨(pblk b_), (poff b_) + 6, none⟩ = some (Value.slice v15.ptr v15.len v15.cap))] (fun bb => Value.slice (some ⟨bb, 0, none⟩) 1 1) (Obj.cells ([Value.slice l_.ptr l_.len l_.cap, Value.slice none 0 0, Value.int .i64 v20]).toArray ty_towpathlaw01_heldVersion (0, 0)) (by kernel_rfl) (by kernel_rfl) (by kernel_rfl) (by kernel_rfl) (by kernel_rfl) (by kernel_rfl) (fun b_1 w3 hb hw => ?_)
    replace h := h b_1 w3 hb hw
    clear hb hw
    obtain ⟨hk0, h⟩ := h
    refine ⟨⟨hk0, trivial⟩, ?_⟩
    refine mreg_run [] 12 [(11, [], Value.pointer b_), (15, [], Value.slice v15.ptr v15.len v15.cap), (22, [], Value.slice (some ⟨b_1, 0, none⟩) 1 1)] (by kernel_rfl) (by kernel_rfl) ?_
    obtain ⟨src, hs, h⟩ := h
    refine mreg_append (t := 39) (tx := 39) (e := 73) (a := (Go.Operand.tmp 15)) (xo := (Go.Operand.tmp 22)) (s := v15) (x := (Slc.mk (some ⟨b_1, 0, none⟩) 1 1)) (sz := 3) (by_ := 56) (zs := [Value.slice none 0 0, Value.slice none 0 0, Value.int .i64 0]) (ty := 39) (dst := some 23) 12 [4, 11, 3, 10, 2, 5, 9, 1, 8, 7, 6] [] src (by kernel_rfl) (by kernel_rfl) (by kernel_rfl) (by kernel_rfl) (by kernel_rfl) (by kernel_rfl) (by kernel_rfl) (by kernel_rfl) (by kernel_rfl) (by kernel_rfl) (by kernel_rfl) (by kernel_rfl) (by kernel_rfl) hs (AppendW.mono h (fun v23 w4 h => ?_))
    refine ⟨trivial, ?_⟩
    refine mreg_run [] 13 [(11, [], Value.pointer b_), (23, [], Value.slice v23.ptr v23.len v23.cap)] (by kernel_rfl) (by kernel_rfl) ?_
    obtain ⟨hp_4, h⟩ := h
    refine mreg_conv [(11, [], Value.pointer (some ⟨(pblk b_), (poff b_), none⟩)), (23, [], Value.slice v23.ptr v23.len v23.cap)] (congrArg (fun pp => ([(11, [], Value.pointer pp), (23, [], Value.slice v23.ptr v23.len v23.cap)] : GEnv)) hp_4) ?_
    refine mreg_run [.plain] 14 [(11, [], Value.pointer (some ⟨(pblk b_), (poff b_), none⟩)), (23, [], Value.slice v23.ptr v23.len v23.cap), (24, [], Value.pointer (some ⟨(pblk b_), (poff b_), none⟩))] (by kernel_rfl) (by kernel_rfl) ?_
    refine mreg_run [.plain] 15 [(23, [], Value.slice v23.ptr v23.len v23.cap), (25, [], Value.pointer (some ⟨(pblk b_), (poff b_) + 6, none⟩))] (by kernel_rfl) (by kernel_rfl) ?_
    obtain ⟨hc, h⟩ := h
    refine mreg_store (t := 39) (a := (Go.Operand.tmp 25)) (x := (Go.Operand.tmp 23)) (b := (pblk b_)) (o := ((poff b_) + 6)) (k := 1) (ty := 0) (dst := none) 15 [0, 1, 2, 3, 4, 5, 6, 7, 8, 9, 10, 11, 12, 14, 13] [] [Value.slice v23.ptr v23.len v23.cap] (by kernel_rfl) (by kernel_rfl) (by kernel_rfl) (by kernel_rfl) (by kernel_rfl) (by kernel_rfl) (by kernel_rfl) (by kernel_rfl) (by kernel_rfl) (by kernel_rfl) hc (fun w5 hw => ?_)
    replace h := h w5 hw
    clear hw
    refine ⟨trivial, ?_⟩
    refine mreg_end [] (by kernel_rfl) (by kernel_rfl) (by kernel_rfl) ?_
    repeat (first | refine seqQ_exit ?_ | refine loopQ_exit ?_ | refine cutQ_exit ?_ | refine blockQ_hit ?_ | refine blockQ_miss (by kernel_rfl) ?_)
    refine retQ_normal ?_
    repeat (first | refine seqQ_ret ?_ | refine blockQ_ret ?_ | refine loopQ_ret ?_ | refine cutQ_ret ?_)
    exact retT (rs := []) (vs := []) (by kernel_rfl) (trivial) (by kernel_rfl) ⟨rfl, h⟩
  · rintro e w' ⟨v, rfl, rfl, h⟩; exact ⟨rfl, h⟩

/-! ### (*towpath/towpathlaw01.Book).fillByte (function 30) -/
noncomputable def c_towpathlaw01_Book_fillByte_0 : Code := (Tryd.f30.body).getD Code.skip
noncomputable def c_towpathlaw01_Book_fillByte_1 : Code := Code.l c_towpathlaw01_Book_fillByte_0
noncomputable def r_towpathlaw01_Book_fillByte_1 : Array Oper := Code.ops c_towpathlaw01_Book_fillByte_1
noncomputable def c_towpathlaw01_Book_fillByte_3 : Code := Code.r c_towpathlaw01_Book_fillByte_0
noncomputable def c_towpathlaw01_Book_fillByte_4 : Code := Code.l c_towpathlaw01_Book_fillByte_3
noncomputable def c_towpathlaw01_Book_fillByte_5 : Code := Code.l c_towpathlaw01_Book_fillByte_4
noncomputable def c_towpathlaw01_Book_fillByte_6 : Code := Code.l c_towpathlaw01_Book_fillByte_5
noncomputable def c_towpathlaw01_Book_fillByte_7 : Code := Code.l c_towpathlaw01_Book_fillByte_6
noncomputable def r_towpathlaw01_Book_fillByte_7 : Array Oper := Code.ops c_towpathlaw01_Book_fillByte_7
noncomputable def c_towpathlaw01_Book_fillByte_9 : Code := Code.r c_towpathlaw01_Book_fillByte_6
noncomputable def c_towpathlaw01_Book_fillByte_10 : Code := Code.l c_towpathlaw01_Book_fillByte_9
noncomputable def c_towpathlaw01_Book_fillByte_11 : Code := Code.r c_towpathlaw01_Book_fillByte_9
noncomputable def c_towpathlaw01_Book_fillByte_12 : Code := Code.r c_towpathlaw01_Book_fillByte_5
noncomputable def c_towpathlaw01_Book_fillByte_13 : Code := Code.l c_towpathlaw01_Book_fillByte_12
noncomputable def c_towpathlaw01_Book_fillByte_14 : Code := Code.l c_towpathlaw01_Book_fillByte_13
noncomputable def c_towpathlaw01_Book_fillByte_15 : Code := Code.l c_towpathlaw01_Book_fillByte_14
noncomputable def r_towpathlaw01_Book_fillByte_15 : Array Oper := Code.ops c_towpathlaw01_Book_fillByte_15
noncomputable def c_towpathlaw01_Book_fillByte_17 : Code := Code.r c_towpathlaw01_Book_fillByte_14
noncomputable def c_towpathlaw01_Book_fillByte_18 : Code := Code.l c_towpathlaw01_Book_fillByte_17
noncomputable def r_towpathlaw01_Book_fillByte_18 : Array Oper := Code.ops c_towpathlaw01_Book_fillByte_18
noncomputable def c_towpathlaw01_Book_fillByte_20 : Code := Code.r c_towpathlaw01_Book_fillByte_17
noncomputable def c_towpathlaw01_Book_fillByte_21 : Code := Code.l c_towpathlaw01_Book_fillByte_20
noncomputable def c_towpathlaw01_Book_fillByte_22 : Code := Code.l c_towpathlaw01_Book_fillByte_21
noncomputable def c_towpathlaw01_Book_fillByte_23 : Code := Code.l c_towpathlaw01_Book_fillByte_22
noncomputable def c_towpathlaw01_Book_fillByte_24 : Code := Code.l c_towpathlaw01_Book_fillByte_23
noncomputable def r_towpathlaw01_Book_fillByte_24 : Array Oper := Code.ops c_towpathlaw01_Book_fillByte_24
noncomputable def c_towpathlaw01_Book_fillByte_26 : Code := Code.r c_towpathlaw01_Book_fillByte_23
noncomputable def c_towpathlaw01_Book_fillByte_27 : Code := Code.l c_towpathlaw01_Book_fillByte_26
noncomputable def c_towpathlaw01_Book_fillByte_28 : Code := Code.r c_towpathlaw01_Book_fillByte_26
noncomputable def c_towpathlaw01_Book_fillByte_29 : Code := Code.r c_towpathlaw01_Book_fillByte_22
noncomputable def c_towpathlaw01_Book_fillByte_30 : Code := Code.l c_towpathlaw01_Book_fillByte_29
noncomputable def c_towpathlaw01_Book_fillByte_31 : Code := Code.l c_towpathlaw01_Book_fillByte_30
noncomputable def r_towpathlaw01_Book_fillByte_31 : Array Oper := Code.ops c_towpathlaw01_Book_fillByte_31
noncomputable def c_towpathlaw01_Book_fillByte_33 : Code := Code.r c_towpathlaw01_Book_fillByte_29
noncomputable def r_towpathlaw01_Book_fillByte_33 : Array Oper := Code.ops c_towpathlaw01_Book_fillByte_33
noncomputable def c_towpathlaw01_Book_fillByte_35 : Code := Code.r c_towpathlaw01_Book_fillByte_12
noncomputable def r_towpathlaw01_Book_fillByte_35 : Array Oper := Code.ops c_towpathlaw01_Book_fillByte_35

set_option maxRecDepth 100000 in
set_option maxHeartbeats 4000000 in
theorem S_towpathlaw01_Book_fillByte {b_ : Option Addr} {w : World} {R : World → Prop} (h : F_towpathlaw01_Book_fillByte b_ R w) : C_towpathlaw01_Book_fillByte b_ w R := by
  unfold F_towpathlaw01_Book_fillByte at h
  unfold C_towpathlaw01_Book_fillByte
  refine Calls.mono (calls_of_wpE (args := [Value.pointer b_]) (R := fun v w' => v = Value.tuple #[] ∧ R w') Tryd.func30 (c := c_towpathlaw01_Book_fillByte_0) (by kernel_rfl) 35 (by kernel_rfl) (by kernel_rfl) [(0, Value.pointer b_)] (by kernel_rfl) ?_) ?_
  · refine wpE_seq (x := c_towpathlaw01_Book_fillByte_1) (y := c_towpathlaw01_Book_fillByte_3) (by kernel_rfl) ?_
    refine wpE_region (id := 0) (ops := r_towpathlaw01_Book_fillByte_1) (by kernel_rfl) ?_
    refine reg_run [.plain] 1 [(0, [], Value.pointer b_), (2, [], Value.int .i64 0)] (by kernel_rfl) (by kernel_rfl) ?_
    refine reg_end [(0, Value.pointer b_), (2, Value.int .i64 0)] (by kernel_rfl) (by kernel_rfl) ?_
    change WpE _ _ c_towpathlaw01_Book_fillByte_3 _ _ _
    refine wpE_block (id := 0) (x := c_towpathlaw01_Book_fillByte_4) (by kernel_rfl) ?_
    obtain ⟨I, μ, h0, hr⟩ := h
    refine wpE_loop (x := c_towpathlaw01_Book_fillByte_5) (by kernel_rfl) (fun m l w => ∃ (i : Int), l = [(0, Value.pointer b_), (2, Value.int .i64 i)] ∧ I i w ∧ μ i w = m) (l' := [(0, Value.pointer b_), (2, Value.int .i64 0)]) (Sub.mk (by kernel_rfl)) ⟨0, rfl, h0, rfl⟩ ?_
    rintro _ _ w1 ⟨i, rfl, hI, rfl⟩
    obtain ⟨again_, again__h, h⟩ : ∃ again_ : Int → World → Prop, (∀ i' w', again_ i' w' → I i' w' ∧ μ i' w' < μ i w1) ∧ F_towpathlaw01_Book_fillByte_L0 b_ R again_ i w1 := ⟨_, fun _ _ h => h, hr i w1 hI⟩
    clear h0 hI
    unfold F_towpathlaw01_Book_fillByte_L0 at h
    refine wpE_seq (x := c_towpathlaw01_Book_fillByte_6) (y := c_towpathlaw01_Book_fillByte_12) (by kernel_rfl) ?_
    refine wpE_seq (x := c_towpathlaw01_Book_fillByte_7) (y := c_towpathlaw01_Book_fillByte_9) (by kernel_rfl) ?_
    refine wpE_region (id := 1) (ops := r_towpathlaw01_Book_fillByte_7) (by kernel_rfl) ?_
    refine reg_run [.plain, .plain] 2 [(0, [], Value.pointer b_), (2, [], Value.int .i64 i), (5, [], Value.int .i64 i), (6, [], Value.pointer b_)] (by kernel_rfl) (by kernel_rfl) ?_
    obtain ⟨hp_3, h⟩ := h
    refine reg_conv [(0, [], Value.pointer b_), (2, [], Value.int .i64 i), (5, [], Value.int .i64 i), (6, [], Value.pointer (some ⟨(pblk b_), (poff b_), none⟩))] (congrArg (fun pp => ([(0, [], Value.pointer b_), (2, [], Value.int .i64 i), (5, [], Value.int .i64 i), (6, [], Value.pointer pp)] : GEnv)) hp_3) ?_
    refine reg_run [.plain] 3 [(0, [], Value.pointer b_), (2, [], Value.int .i64 i), (5, [], Value.int .i64 i), (6, [], Value.pointer (some ⟨(pblk b_), (poff b_), none⟩)), (7, [], Value.pointer (some ⟨(pblk b_), (poff b_), none⟩))] (by kernel_rfl) (by kernel_rfl) ?_
    refine reg_run [.plain] 4 [(0, [], Value.pointer b_), (2, [], Value.int .i64 i), (5, [], Value.int .i64 i), (8, [], Value.pointer (some ⟨(pblk b_), (poff b_) + 1, none⟩))] (by kernel_rfl) (by kernel_rfl) ?_
    obtain ⟨v9, hc, h⟩ := h
    refine reg_load1 (t := 34) (a := (Go.Operand.tmp 8)) (b := (pblk b_)) (o := ((poff b_) + 1)) (ty := 34) (dst := some 9) (by kernel_rfl) (by kernel_rfl) (by kernel_rfl) hc ?_
    refine reg_run [.plain, .plain] 7 [(0, [], Value.pointer b_), (2, [], Value.int .i64 i), (11, [], Value.bool (decide (i < ((v9.len : Nat) : Int))))] (by kernel_rfl) (by kernel_rfl) ?_
    refine reg_end [(0, Value.pointer b_), (2, Value.int .i64 i), (11, Value.bool (decide (i < ((v9.len : Nat) : Int))))] (by kernel_rfl) (by kernel_rfl) ?_
    change WpE _ _ c_towpathlaw01_Book_fillByte_9 _ _ _
    refine wpE_cond (o := (Operand.tmp 11)) (b := (decide (i < ((v9.len : Nat) : Int)))) (x := c_towpathlaw01_Book_fillByte_10) (y := c_towpathlaw01_Book_fillByte_11) (by kernel_rfl) (by kernel_rfl) (fun hb => ?_) (fun hb => ?_)
    · replace h := h.1 hb
      exact h.elim
    · replace h := h.2 hb
      refine wpE_exit (id := 0) (by kernel_rfl) ?_
      repeat (first | refine seqQ_exit ?_ | refine loopQ_exit ?_ | refine cutQ_exit ?_ | refine blockQ_hit ?_ | refine blockQ_miss (by kernel_rfl) ?_)
      refine retQ_normal ?_
      repeat (first | refine seqQ_ret ?_ | refine blockQ_ret ?_ | refine loopQ_ret ?_ | refine cutQ_ret ?_)
      exact retT (rs := []) (vs := []) (by kernel_rfl) (trivial) (by kernel_rfl) ⟨rfl, h⟩
  · rintro e w' ⟨v, rfl, rfl, h⟩; exact ⟨rfl, h⟩

/-! ### (*towpath/towpathlaw01.Book).fillInt (function 31) -/
noncomputable def c_towpathlaw01_Book_fillInt_0 : Code := (Tryd.f31.body).getD Code.skip
noncomputable def c_towpathlaw01_Book_fillInt_1 : Code := Code.l c_towpathlaw01_Book_fillInt_0
noncomputable def r_towpathlaw01_Book_fillInt_1 : Array Oper := Code.ops c_towpathlaw01_Book_fillInt_1
noncomputable def c_towpathlaw01_Book_fillInt_3 : Code := Code.r c_towpathlaw01_Book_fillInt_0
noncomputable def c_towpathlaw01_Book_fillInt_4 : Code := Code.l c_towpathlaw01_Book_fillInt_3
noncomputable def c_towpathlaw01_Book_fillInt_5 : Code := Code.l c_towpathlaw01_Book_fillInt_4
noncomputable def c_towpathlaw01_Book_fillInt_6 : Code := Code.l c_towpathlaw01_Book_fillInt_5
noncomputable def c_towpathlaw01_Book_fillInt_7 : Code := Code.l c_towpathlaw01_Book_fillInt_6
noncomputable def r_towpathlaw01_Book_fillInt_7 : Array Oper := Code.ops c_towpathlaw01_Book_fillInt_7
noncomputable def c_towpathlaw01_Book_fillInt_9 : Code := Code.r c_towpathlaw01_Book_fillInt_6
noncomputable def c_towpathlaw01_Book_fillInt_10 : Code := Code.l c_towpathlaw01_Book_fillInt_9
noncomputable def c_towpathlaw01_Book_fillInt_11 : Code := Code.r c_towpathlaw01_Book_fillInt_9
noncomputable def c_towpathlaw01_Book_fillInt_12 : Code := Code.r c_towpathlaw01_Book_fillInt_5
noncomputable def c_towpathlaw01_Book_fillInt_13 : Code := Code.l c_towpathlaw01_Book_fillInt_12
noncomputable def c_towpathlaw01_Book_fillInt_14 : Code := Code.l c_towpathlaw01_Book_fillInt_13
noncomputable def c_towpathlaw01_Book_fillInt_15 : Code := Code.l c_towpathlaw01_Book_fillInt_14
noncomputable def r_towpathlaw01_Book_fillInt_15 : Array Oper := Code.ops c_towpathlaw01_Book_fillInt_15
noncomputable def c_towpathlaw01_Book_fillInt_17 : Code := Code.r c_towpathlaw01_Book_fillInt_14
noncomputable def c_towpathlaw01_Book_fillInt_18 : Code := Code.l c_towpathlaw01_Book_fillInt_17
noncomputable def r_towpathlaw01_Book_fillInt_18 : Array Oper := Code.ops c_towpathlaw01_Book_fillInt_18
noncomputable def c_towpathlaw01_Book_fillInt_20 : Code := Code.r c_towpathlaw01_Book_fillInt_17
noncomputable def c_towpathlaw01_Book_fillInt_21 : Code := Code.l c_towpathlaw01_Book_fillInt_20
noncomputable def c_towpathlaw01_Book_fillInt_22 : Code := Code.l c_towpathlaw01_Book_fillInt_21
noncomputable def c_towpathlaw01_Book_fillInt_23 : Code := Code.l c_towpathlaw01_Book_fillInt_22
noncomputable def c_towpathlaw01_Book_fillInt_24 : Code := Code.l c_towpathlaw01_Book_fillInt_23
noncomputable def r_towpathlaw01_Book_fillInt_24 : Array Oper := Code.ops c_towpathlaw01_Book_fillInt_24
noncomputable def c_towpathlaw01_Book_fillInt_26 : Code := Code.r c_towpathlaw01_Book_fillInt_23
noncomputable def c_towpathlaw01_Book_fillInt_27 : Code := Code.l c_towpathlaw01_Book_fillInt_26
noncomputable def c_towpathlaw01_Book_fillInt_28 : Code := Code.r c_towpathlaw01_Book_fillInt_26
noncomputable def c_towpathlaw01_Book_fillInt_29 : Code := Code.r c_towpathlaw01_Book_fillInt_22
noncomputable def c_towpathlaw01_Book_fillInt_30 : Code := Code.l c_towpathlaw01_Book_fillInt_29
noncomputable def c_towpathlaw01_Book_fillInt_31 : Code := Code.l c_towpathlaw01_Book_fillInt_30
noncomputable def r_towpathlaw01_Book_fillInt_31 : Array Oper := Code.ops c_towpathlaw01_Book_fillInt_31
noncomputable def c_towpathlaw01_Book_fillInt_33 : Code := Code.r c_towpathlaw01_Book_fillInt_29
noncomputable def r_towpathlaw01_Book_fillInt_33 : Array Oper := Code.ops c_towpathlaw01_Book_fillInt_33
noncomputable def c_towpathlaw01_Book_fillInt_35 : Code := Code.r c_towpathlaw01_Book_fillInt_12
noncomputable def r_towpathlaw01_Book_fillInt_35 : Array Oper := Code.ops c_towpathlaw01_Book_fillInt_35
def o_towpathlaw01_Book_fillInt_31 : List Nat := [0, 1, 2, 3, 4, 5, 6, 7]

set_option maxRecDepth 100000 in
set_option maxHeartbeats 4000000 in
theorem S_towpathlaw01_Book_fillInt {b_ : Option Addr} {w : World} {R : World → Prop} (h : F_towpathlaw01_Book_fillInt b_ R w) : C_towpathlaw01_Book_fillInt b_ w R := by
  unfold F_towpathlaw01_Book_fillInt at h
  unfold C_towpathlaw01_Book_fillInt
  refine Calls.mono (calls_of_wpE (args := [Value.pointer b_]) (R := fun v w' => v = Value.tuple #[] ∧ R w') Tryd.func31 (c := c_towpathlaw01_Book_fillInt_0) (by kernel_rfl) 35 (by kernel_rfl) (by kernel_rfl) [(0, Value.pointer b_)] (by kernel_rfl) ?_) ?_
  · refine wpE_seq (x := c_towpathlaw01_Book_fillInt_1) (y := c_towpathlaw01_Book_fillInt_3) (by kernel_rfl) ?_
    refine wpE_region (id := 0) (ops := r_towpathlaw01_Book_fillInt_1) (by kernel_rfl) ?_
    refine reg_run [.plain] 1 [(0, [], Value.pointer b_), (2, [], Value.int .i64 0)] (by kernel_rfl) (by kernel_rfl) ?_
    refine reg_end [(0, Value.pointer b_), (2, Value.int .i64 0)] (by kernel_rfl) (by kernel_rfl) ?_
    change WpE _ _ c_towpathlaw01_Book_fillInt_3 _ _ _
    refine wpE_block (id := 0) (x := c_towpathlaw01_Book_fillInt_4) (by kernel_rfl) ?_
    obtain ⟨I, μ, h0, hr⟩ := h
    refine wpE_loop (x := c_towpathlaw01_Book_fillInt_5) (by kernel_rfl) (fun m l w => ∃ (i : Int), l = [(0, Value.pointer b_), (2, Value.int .i64 i)] ∧ I i w ∧ μ i w = m) (l' := [(0, Value.pointer b_), (2, Value.int .i64 0)]) (Sub.mk (by kernel_rfl)) ⟨0, rfl, h0, rfl⟩ ?_
    rintro _ _ w1 ⟨i, rfl, hI, rfl⟩
    obtain ⟨again_, again__h, h⟩ : ∃ again_ : Int → World → Prop, (∀ i' w', again_ i' w' → I i' w' ∧ μ i' w' < μ i w1) ∧ F_towpathlaw01_Book_fillInt_L0 b_ R again_ i w1 := ⟨_, fun _ _ h => h, hr i w1 hI⟩
    clear h0 hI
    unfold F_towpathlaw01_Book_fillInt_L0 at h
    refine wpE_seq (x := c_towpathlaw01_Book_fillInt_6) (y := c_towpathlaw01_Book_fillInt_12) (by kernel_rfl) ?_
    refine wpE_seq (x := c_towpathlaw01_Book_fillInt_7) (y := c_towpathlaw01_Book_fillInt_9) (by kernel_rfl) ?_
    refine wpE_region (id := 1) (ops := r_towpathlaw01_Book_fillInt_7) (by kernel_rfl) ?_
    refine reg_run [.plain, .plain] 2 [(0, [], Value.pointer b_), (2, [], Value.int .i64 i), (5, [], Value.int .i64 i), (6, [], Value.pointer b_)] (by kernel_rfl) (by kernel_rfl) ?_
    obtain ⟨hp_3, h⟩ := h
    refine reg_conv [(0, [], Value.pointer b_), (2, [], Value.int .i64 i), (5, [], Value.int .i64 i), (6, [], Value.pointer (some ⟨(pblk b_), (poff b_), none⟩))] (congrArg (fun pp => ([(0, [], Value.pointer b_), (2, [], Value.int .i64 i), (5, [], Value.int .i64 i), (6, [], Value.pointer pp)] : GEnv)) hp_3) ?_
    refine reg_run [.plain] 3 [(0, [], Value.pointer b_), (2, [], Value.int .i64 i), (5, [], Value.int .i64 i), (6, [], Value.pointer (some ⟨(pblk b_), (poff b_), none⟩)), (7, [], Value.pointer (some ⟨(pblk b_), (poff b_), none⟩))] (by kernel_rfl) (by kernel_rfl) ?_
    refine reg_run [.plain] 4 [(0, [], Value.pointer b_), (2, [], Value.int .i64 i), (5, [], Value.int .i64 i), (8, [], Value.pointer (some ⟨(pblk b_), (poff b_) + 2, none⟩))] (by kernel_rfl) (by kernel_rfl) ?_
    obtain ⟨v9, hc, h⟩ := h
    refine reg_load1 (t := 35) (a := (Go.Operand.tmp 8)) (b := (pblk b_)) (o := ((poff b_) + 2)) (ty := 35) (dst := some 9) (by kernel_rfl) (by kernel_rfl) (by kernel_rfl) hc ?_
    refine reg_run [.plain, .plain] 7 [(0, [], Value.pointer b_), (2, [], Value.int .i64 i), (11, [], Value.bool (decide (i < ((v9.len : Nat) : Int))))] (by kernel_rfl) (by kernel_rfl) ?_
    refine reg_end [(0, Value.pointer b_), (2, Value.int .i64 i), (11, Value.bool (decide (i < ((v9.len : Nat) : Int))))] (by kernel_rfl) (by kernel_rfl) ?_
    change WpE _ _ c_towpathlaw01_Book_fillInt_9 _ _ _
    refine wpE_cond (o := (Operand.tmp 11)) (b := (decide (i < ((v9.len : Nat) : Int)))) (x := c_towpathlaw01_Book_fillInt_10) (y := c_towpathlaw01_Book_fillInt_11) (by kernel_rfl) (by kernel_rfl) (fun hb => ?_) (fun hb => ?_)
    · replace h := h.1 hb
      refine wpE_skip (by kernel_rfl) ?_
      change WpE _ _ c_towpathlaw01_Book_fillInt_12 _ _ _
      refine wpE_seq (x := c_towpathlaw01_Book_fillInt_13) (y := c_towpathlaw01_Book_fillInt_35) (by kernel_rfl) ?_
      refine wpE_block (id := 1) (x := c_towpathlaw01_Book_fillInt_14) (by kernel_rfl) ?_
      refine wpE_seq (x := c_towpathlaw01_Book_fillInt_15) (y := c_towpathlaw01_Book_fillInt_17) (by kernel_rfl) ?_
      refine wpE_region (id := 3) (ops := r_towpathlaw01_Book_fillInt_15) (by kernel_rfl) ?_
      refine reg_run [.plain] 1 [(0, [], Value.pointer b_), (2, [], Value.int .i64 i), (14, [], Value.pointer b_)] (by kernel_rfl) (by kernel_rfl) ?_
      obtain ⟨hp_12, h⟩ := h
      refine reg_conv [(0, [], Value.pointer b_), (2, [], Value.int .i64 i), (14, [], Value.pointer (some ⟨(pblk b_), (poff b_), none⟩))] (congrArg (fun pp => ([(0, [], Value.pointer b_), (2, [], Value.int .i64 i), (14, [], Value.pointer pp)] : GEnv)) hp_12) ?_
      refine reg_run [.plain] 2 [(0, [], Value.pointer b_), (2, [], Value.int .i64 i), (14, [], Value.pointer (some ⟨(pblk b_), (poff b_), none⟩)), (15, [], Value.pointer (some ⟨(pblk b_), (poff b_), none⟩))] (by kernel_rfl) (by kernel_rfl) ?_
      refine reg_run [.plain] 3 [(0, [], Value.pointer b_), (2, [], Value.int .i64 i), (16, [], Value.pointer (some ⟨(pblk b_), (poff b_) + 2, none⟩))] (by kernel_rfl) (by kernel_rfl) ?_
      obtain ⟨v17, hc, h⟩ := h
      refine reg_load1 (t := 35) (a := (Go.Operand.tmp 16)) (b := (pblk b_)) (o := ((poff b_) + 2)) (ty := 35) (dst := some 17) (by kernel_rfl) (by kernel_rfl) (by kernel_rfl) hc ?_
      refine reg_run [.plain] 5 [(0, [], Value.pointer b_), (2, [], Value.int .i64 i), (17, [], Value.slice v17.ptr v17.len v17.cap), (18, [], Value.int .i64 i)] (by kernel_rfl) (by kernel_rfl) ?_
      obtain ⟨hp_13, h⟩ := h
      refine reg_conv [(0, [], Value.pointer b_), (2, [], Value.int .i64 i), (17, [], Value.slice (some ⟨(pblk v17.ptr), (poff v17.ptr), none⟩) v17.len v17.cap), (18, [], Value.int .i64 i)] (congrArg (fun pp => ([(0, [], Value.pointer b_), (2, [], Value.int .i64 i), (17, [], Value.slice pp v17.len v17.cap), (18, [], Value.int .i64 i)] : GEnv)) hp_13) ?_
      obtain ⟨h0, h1, h⟩ := h
      refine reg_indexS (t := 35) (e := 79) (x := (Go.Operand.tmp 17)) (ix := (Go.Operand.tmp 18)) (b := (pblk v17.ptr)) (o := (poff v17.ptr)) (l := v17.len) (c := v17.cap) (k := .i64) (j := i) (ty := 0) (dst := some 19) (sz := 3) (by kernel_rfl) (by kernel_rfl) (by kernel_rfl) (by kernel_rfl) (by kernel_rfl) h0 h1 ?_
      refine reg_run [] 6 [(0, [], Value.pointer b_), (2, [], Value.int .i64 i), (19, [], Value.pointer (some ⟨(pblk v17.ptr), (poff v17.ptr) + i.toNat * 3, none⟩))] (by kernel_rfl) (by kernel_rfl) ?_
      obtain ⟨v20, hc, h⟩ := h
      refine reg_loadN (t := 79) (a := (Go.Operand.tmp 19)) (b := (pblk v17.ptr)) (o := ((poff v17.ptr) + i.toNat * 3)) (ty := 79) (dst := some 20) [Value.slice v20.l.ptr v20.l.len v20.l.cap, Value.slice v20.long.ptr v20.long.len v20.long.cap, Value.int .i64 v20.n] (by kernel_rfl) (by kernel_rfl) (by kernel_rfl) (k := 3) (by kernel_rfl) (by kernel_rfl) hc ?_
      refine reg_run [] 7 [(0, [], Value.pointer b_), (2, [], Value.int .i64 i), (20, [], Value.agg #[Value.slice v20.l.ptr v20.l.len v20.l.cap, Value.slice v20.long.ptr v20.long.len v20.long.cap, Value.int .i64 v20.n])] (by kernel_rfl) (by kernel_rfl) ?_
      refine reg_new (op := (Go.Op.alloc 79)) (ty := 0) (dst := some 3) (fun bb => Value.pointer (some ⟨bb, 0, none⟩)) (Obj.cells ([Value.slice none 0 0, Value.slice none 0 0, Value.int .i64 0]).toArray ty_towpathlaw01_heldInt (0, 0)) (by kernel_rfl) (by kernel_rfl) (fun b_1 w2 hb hw => ?_)
      replace h := h b_1 w2 hb hw
      clear hb hw
      refine reg_run [] 8 [(0, [], Value.pointer b_), (2, [], Value.int .i64 i), (3, [], Value.pointer (some ⟨b_1, 0, none⟩)), (20, [], Value.agg #[Value.slice v20.l.ptr v20.l.len v20.l.cap, Value.slice v20.long.ptr v20.long.len v20.long.cap, Value.int .i64 v20.n])] (by kernel_rfl) (by kernel_rfl) ?_
      obtain ⟨hc, h⟩ := h
      refine reg_store (t := 79) (a := (Go.Operand.tmp 3)) (x := (Go.Operand.tmp 20)) (b := b_1) (o := 0) (ty := 0) (dst := none) [Value.slice v20.l.ptr v20.l.len v20.l.cap, Value.slice v20.long.ptr v20.long.len v20.long.cap, Value.int .i64 v20.n] (by kernel_rfl) (by kernel_rfl) (by kernel_rfl) (k := 3) (by kernel_rfl) (by kernel_rfl) (by kernel_rfl) hc (fun w3 hw => ?_)
      replace h := h w3 hw
      clear hw
      refine reg_end [(0, Value.pointer b_), (2, Value.int .i64 i), (3, Value.pointer (some ⟨b_1, 0, none⟩))] (by kernel_rfl) (by kernel_rfl) ?_
      change WpE _ _ c_towpathlaw01_Book_fillInt_17 _ _ _
      refine wpE_seq (x := c_towpathlaw01_Book_fillInt_18) (y := c_towpathlaw01_Book_fillInt_20) (by kernel_rfl) ?_
      refine wpE_region (id := 4) (ops := r_towpathlaw01_Book_fillInt_18) (by kernel_rfl) ?_
      refine reg_run [.plain] 1 [(0, [], Value.pointer b_), (2, [], Value.int .i64 i), (3, [], Value.pointer (some ⟨b_1, 0, none⟩)), (4, [], Value.int .i64 0)] (by kernel_rfl) (by kernel_rfl) ?_
      refine reg_end [(0, Value.pointer b_), (2, Value.int .i64 i), (3, Value.pointer (some ⟨b_1, 0, none⟩)), (4, Value.int .i64 0)] (by kernel_rfl) (by kernel_rfl) ?_
      change WpE _ _ c_towpathlaw01_Book_fillInt_20 _ _ _
      refine wpE_block (id := 2) (x := c_towpathlaw01_Book_fillInt_21) (by kernel_rfl) ?_
      obtain ⟨I, μ, h0, hr⟩ := h
      refine wpE_loop (x := c_towpathlaw01_Book_fillInt_22) (by kernel_rfl) (fun m l w => ∃ (k : Int), l = [(0, Value.pointer b_), (2, Value.int .i64 i), (3, Value.pointer (some ⟨b_1, 0, none⟩)), (4, Value.int .i64 k)] ∧ I k w ∧ μ k w = m) (l' := [(0, Value.pointer b_), (2, Value.int .i64 i), (3, Value.pointer (some ⟨b_1, 0, none⟩)), (4, Value.int .i64 0)]) (Sub.mk (by kernel_rfl)) ⟨0, rfl, h0, rfl⟩ ?_
      rintro _ _ w4 ⟨k, rfl, hI, rfl⟩
      obtain ⟨again_1, again_1_h, h⟩ : ∃ again_1 : Int → World → Prop, (∀ k' w', again_1 k' w' → I k' w' ∧ μ k' w' < μ k w4) ∧ F_towpathlaw01_Book_fillInt_L1 i again_ b_1 again_1 k w4 := ⟨_, fun _ _ h => h, hr k w4 hI⟩
      clear h0 hI
      unfold F_towpathlaw01_Book_fillInt_L1 at h
      refine wpE_seq (x := c_towpathlaw01_Book_fillInt_23) (y := c_towpathlaw01_Book_fillInt_29) (by kernel_rfl) ?_
      refine wpE_seq (x := c_towpathlaw01_Book_fillInt_24) (y := c_towpathlaw01_Book_fillInt_26) (by kernel_rfl) ?_
      refine wpE_region (id := 5) (ops := r_towpathlaw01_Book_fillInt_24) (by kernel_rfl) ?_
      refine reg_run [.plain, .plain] 2 [(0, [], Value.pointer b_), (2, [], Value.int .i64 i), (3, [], Value.pointer (some ⟨b_1, 0, none⟩)), (4, [], Value.int .i64 k), (21, [], Value.int .i64 k), (22, [], Value.pointer (some ⟨b_1, 0, none⟩))] (by kernel_rfl) (by kernel_rfl) ?_
      obtain ⟨v23, hc, h⟩ := h
      refine reg_load1 (t := 50) (a := (Go.Operand.tmp 22)) (b := b_1) (o := 0) (ty := 50) (dst := some 23) (by kernel_rfl) (by kernel_rfl) (by kernel_rfl) hc ?_
      refine reg_run [.plain, .plain] 5 [(0, [], Value.pointer b_), (2, [], Value.int .i64 i), (3, [], Value.pointer (some ⟨b_1, 0, none⟩)), (4, [], Value.int .i64 k), (25, [], Value.bool (decide (k < ((v23.len : Nat) : Int))))] (by kernel_rfl) (by kernel_rfl) ?_
      refine reg_end [(0, Value.pointer b_), (2, Value.int .i64 i), (3, Value.pointer (some ⟨b_1, 0, none⟩)), (4, Value.int .i64 k), (25, Value.bool (decide (k < ((v23.len : Nat) : Int))))] (by kernel_rfl) (by kernel_rfl) ?_
      change WpE _ _ c_towpathlaw01_Book_fillInt_26 _ _ _
      refine wpE_cond (o := (Operand.tmp 25)) (b := (decide (k < ((v23.len : Nat) : Int)))) (x := c_towpathlaw01_Book_fillInt_27) (y := c_towpathlaw01_Book_fillInt_28) (by kernel_rfl) (by kernel_rfl) (fun hb => ?_) (fun hb => ?_)
      · replace h := h.1 hb
        refine wpE_skip (by kernel_rfl) ?_
        change WpE _ _ c_towpathlaw01_Book_fillInt_29 _ _ _
        refine wpE_seq (x := c_towpathlaw01_Book_fillInt_30) (y := c_towpathlaw01_Book_fillInt_33) (by kernel_rfl) ?_
        refine wpE_block (id := 3) (x := c_towpathlaw01_Book_fillInt_31) (by kernel_rfl) ?_
        refine wpE_mixregion (id := 7) (ops := r_towpathlaw01_Book_fillInt_31) o_towpathlaw01_Book_fillInt_31 (by kernel_rfl) (by kernel_rfl) (by kernel_rfl) (by kernel_rfl) (fun w5 hw => ?_)
        replace h := h w5 hw
        clear hw
        refine mreg_run [.plain] 1 [(0, [], Value.pointer b_), (2, [], Value.int .i64 i), (3, [], Value.pointer (some ⟨b_1, 0, none⟩)), (4, [], Value.int .i64 k), (28, [], Value.pointer (some ⟨b_1, 0, none⟩))] (by kernel_rfl) (by kernel_rfl) ?_
        obtain ⟨v29, hc, h⟩ := h
        refine mreg_load1 (i := 1) (by kernel_rfl) (t := 50) (a := (Go.Operand.tmp 28)) (b := b_1) (o := 0) (ty := 50) (dst := some 29) (by kernel_rfl) (by kernel_rfl) (by kernel_rfl) hc ?_
        refine mreg_run [.plain, .plain] 4 [(0, [], Value.pointer b_), (2, [], Value.int .i64 i), (3, [], Value.pointer (some ⟨b_1, 0, none⟩)), (4, [], Value.int .i64 k), (29, [], Value.slice v29.ptr v29.len v29.cap), (30, [], Value.int .i64 k), (31, [], Value.pointer (some ⟨b_1, 2, none⟩))] (by kernel_rfl) (by kernel_rfl) ?_
        obtain ⟨v32, hc, h⟩ := h
        refine mreg_load1 (i := 4) (by kernel_rfl) (t := 3) (a := (Go.Operand.tmp 31)) (b := b_1) (o := 2) (ty := 3) (dst := some 32) (by kernel_rfl) (by kernel_rfl) (by kernel_rfl) hc ?_
        refine mreg_run [] 5 [(0, [], Value.pointer b_), (2, [], Value.int .i64 i), (3, [], Value.pointer (some ⟨b_1, 0, none⟩)), (4, [], Value.int .i64 k), (29, [], Value.slice v29.ptr v29.len v29.cap), (30, [], Value.int .i64 k), (32, [], Value.int .i64 v32)] (by kernel_rfl) (by kernel_rfl) ?_
        refine mreg_enter (op := (Go.Op.call (Go.Call.mk (Go.Callee.value (Go.Operand.func 70)) #[(Go.Operand.tmp 32)] #[3]))) (ty := 3) (dst := some 33) 5 [4, 3] [(1, fun w' => w'.cell? ⟨b_1, 0, none⟩ = some (Value.slice v29.ptr v29.len v29.cap))] 70 #[Value.int .i64 v32] (by kernel_rfl) (by kernel_rfl) (by kernel_rfl) (by kernel_rfl) (by kernel_rfl) (fun ww => by kernel_rfl) (Calls.mono h ?_)
        rintro _ w6 ⟨v33, rfl, h⟩
        obtain ⟨hk0, h⟩ := h
        refine ⟨_, rfl, ⟨hk0, trivial⟩, ?_⟩
        refine mreg_run [] 6 [(0, [], Value.pointer b_), (2, [], Value.int .i64 i), (3, [], Value.pointer (some ⟨b_1, 0, none⟩)), (4, [], Value.int .i64 k), (29, [], Value.slice v29.ptr v29.len v29.cap), (30, [], Value.int .i64 k), (33, [], Value.int .i64 v33)] (by kernel_rfl) (by kernel_rfl) ?_
        obtain ⟨hp_15, h⟩ := h
        refine mreg_conv [(0, [], Value.pointer b_), (2, [], Value.int .i64 i), (3, [], Value.pointer (some ⟨b_1, 0, none⟩)), (4, [], Value.int .i64 k), (29, [], Value.slice (some ⟨(pblk v29.ptr), (poff v29.ptr), none⟩) v29.len v29.cap), (30, [], Value.int .i64 k), (33, [], Value.int .i64 v33)] (congrArg (fun pp => ([(0, [], Value.pointer b_), (2, [], Value.int .i64 i), (3, [], Value.pointer (some ⟨b_1, 0, none⟩)), (4, [], Value.int .i64 k), (29, [], Value.slice pp v29.len v29.cap), (30, [], Value.int .i64 k), (33, [], Value.int .i64 v33)] : GEnv)) hp_15) ?_
        obtain ⟨h0, h1, h⟩ := h
        refine mreg_indexS1 (i := 6) (by kernel_rfl) (t := 50) (e := 3) (x := (Go.Operand.tmp 29)) (ix := (Go.Operand.tmp 30)) (b := (pblk v29.ptr)) (o := (poff v29.ptr)) (l := v29.len) (c := v29.cap) (k := .i64) (j := k) (ty := 0) (dst := some 34) (by kernel_rfl) (by kernel_rfl) (by kernel_rfl) (by kernel_rfl) (by kernel_rfl) h0 h1 ?_
        refine mreg_run [] 7 [(0, [], Value.pointer b_), (2, [], Value.int .i64 i), (3, [], Value.pointer (some ⟨b_1, 0, none⟩)), (4, [], Value.int .i64 k), (33, [], Value.int .i64 v33), (34, [], Value.pointer (some ⟨(pblk v29.ptr), (poff v29.ptr) + k.toNat, none⟩))] (by kernel_rfl) (by kernel_rfl) ?_
        obtain ⟨hc, h⟩ := h
        refine mreg_store (t := 3) (a := (Go.Operand.tmp 34)) (x := (Go.Operand.tmp 33)) (b := (pblk v29.ptr)) (o := ((poff v29.ptr) + k.toNat)) (k := 1) (ty := 0) (dst := none) 7 [0, 1, 2, 3, 4, 5, 6] [] [Value.int .i64 v33] (by kernel_rfl) (by kernel_rfl) (by kernel_rfl) (by kernel_rfl) (by kernel_rfl) (by kernel_rfl) (by kernel_rfl) (by kernel_rfl) (by kernel_rfl) (by kernel_rfl) hc (fun w7 hw => ?_)
        replace h := h w7 hw
        clear hw
        refine ⟨trivial, ?_⟩
        refine mreg_end [(0, Value.pointer b_), (2, Value.int .i64 i), (3, Value.pointer (some ⟨b_1, 0, none⟩)), (4, Value.int .i64 k)] (by kernel_rfl) (by kernel_rfl) (by kernel_rfl) ?_
        change WpE _ _ c_towpathlaw01_Book_fillInt_33 _ _ _
        refine wpE_region (id := 6) (ops := r_towpathlaw01_Book_fillInt_33) (by kernel_rfl) ?_
        refine reg_run [.plain, .plain, .plain] 3 [(0, [], Value.pointer b_), (2, [], Value.int .i64 i), (3, [], Value.pointer (some ⟨b_1, 0, none⟩)), (4, [], Value.int .i64 (IntKind.i64.wrap (k + 1)))] (by kernel_rfl) (by kernel_rfl) ?_
        refine reg_end [(0, Value.pointer b_), (2, Value.int .i64 i), (3, Value.pointer (some ⟨b_1, 0, none⟩)), (4, Value.int .i64 (IntKind.i64.wrap (k + 1)))] (by kernel_rfl) (by kernel_rfl) ?_
        have hb_ := again_1_h _ _ h
        exact ⟨_, hb_.2, [(0, Value.pointer b_), (2, Value.int .i64 i), (3, Value.pointer (some ⟨b_1, 0, none⟩)), (4, Value.int .i64 (IntKind.i64.wrap (k + 1)))], Sub.mk (by kernel_rfl), (IntKind.i64.wrap (k + 1)), rfl, hb_.1, rfl⟩
      · replace h := h.2 hb
        refine wpE_exit (id := 2) (by kernel_rfl) ?_
        change WpE _ _ c_towpathlaw01_Book_fillInt_35 _ _ _
        refine wpE_region (id := 2) (ops := r_towpathlaw01_Book_fillInt_35) (by kernel_rfl) ?_
        refine reg_run [.plain, .plain, .plain] 3 [(0, [], Value.pointer b_), (2, [], Value.int .i64 (IntKind.i64.wrap (i + 1)))] (by kernel_rfl) (by kernel_rfl) ?_
        refine reg_end [(0, Value.pointer b_), (2, Value.int .i64 (IntKind.i64.wrap (i + 1)))] (by kernel_rfl) (by kernel_rfl) ?_
        have hb_ := again__h _ _ h
        exact ⟨_, hb_.2, [(0, Value.pointer b_), (2, Value.int .i64 (IntKind.i64.wrap (i + 1)))], Sub.mk (by kernel_rfl), (IntKind.i64.wrap (i + 1)), rfl, hb_.1, rfl⟩
    · replace h := h.2 hb
      refine wpE_exit (id := 0) (by kernel_rfl) ?_
      repeat (first | refine seqQ_exit ?_ | refine loopQ_exit ?_ | refine cutQ_exit ?_ | refine blockQ_hit ?_ | refine blockQ_miss (by kernel_rfl) ?_)
      refine retQ_normal ?_
      repeat (first | refine seqQ_ret ?_ | refine blockQ_ret ?_ | refine loopQ_ret ?_ | refine cutQ_ret ?_)
      exact retT (rs := []) (vs := []) (by kernel_rfl) (trivial) (by kernel_rfl) ⟨rfl, h⟩
  · rintro e w' ⟨v, rfl, rfl, h⟩; exact ⟨rfl, h⟩

/-! ### (*towpath/towpathlaw01.Book).fillText (function 32) -/
noncomputable def c_towpathlaw01_Book_fillText_0 : Code := (Tryd.f32.body).getD Code.skip
noncomputable def c_towpathlaw01_Book_fillText_1 : Code := Code.l c_towpathlaw01_Book_fillText_0
noncomputable def r_towpathlaw01_Book_fillText_1 : Array Oper := Code.ops c_towpathlaw01_Book_fillText_1
noncomputable def c_towpathlaw01_Book_fillText_3 : Code := Code.r c_towpathlaw01_Book_fillText_0
noncomputable def c_towpathlaw01_Book_fillText_4 : Code := Code.l c_towpathlaw01_Book_fillText_3
noncomputable def c_towpathlaw01_Book_fillText_5 : Code := Code.l c_towpathlaw01_Book_fillText_4
noncomputable def c_towpathlaw01_Book_fillText_6 : Code := Code.l c_towpathlaw01_Book_fillText_5
noncomputable def c_towpathlaw01_Book_fillText_7 : Code := Code.l c_towpathlaw01_Book_fillText_6
noncomputable def r_towpathlaw01_Book_fillText_7 : Array Oper := Code.ops c_towpathlaw01_Book_fillText_7
noncomputable def c_towpathlaw01_Book_fillText_9 : Code := Code.r c_towpathlaw01_Book_fillText_6
noncomputable def c_towpathlaw01_Book_fillText_10 : Code := Code.l c_towpathlaw01_Book_fillText_9
noncomputable def c_towpathlaw01_Book_fillText_11 : Code := Code.r c_towpathlaw01_Book_fillText_9
noncomputable def c_towpathlaw01_Book_fillText_12 : Code := Code.r c_towpathlaw01_Book_fillText_5
noncomputable def c_towpathlaw01_Book_fillText_13 : Code := Code.l c_towpathlaw01_Book_fillText_12
noncomputable def c_towpathlaw01_Book_fillText_14 : Code := Code.l c_towpathlaw01_Book_fillText_13
noncomputable def c_towpathlaw01_Book_fillText_15 : Code := Code.l c_towpathlaw01_Book_fillText_14
noncomputable def r_towpathlaw01_Book_fillText_15 : Array Oper := Code.ops c_towpathlaw01_Book_fillText_15
noncomputable def c_towpathlaw01_Book_fillText_17 : Code := Code.r c_towpathlaw01_Book_fillText_14
noncomputable def c_towpathlaw01_Book_fillText_18 : Code := Code.l c_towpathlaw01_Book_fillText_17
noncomputable def r_towpathlaw01_Book_fillText_18 : Array Oper := Code.ops c_towpathlaw01_Book_fillText_18
noncomputable def c_towpathlaw01_Book_fillText_20 : Code := Code.r c_towpathlaw01_Book_fillText_17
noncomputable def c_towpathlaw01_Book_fillText_21 : Code := Code.l c_towpathlaw01_Book_fillText_20
noncomputable def c_towpathlaw01_Book_fillText_22 : Code := Code.l c_towpathlaw01_Book_fillText_21
noncomputable def c_towpathlaw01_Book_fillText_23 : Code := Code.l c_towpathlaw01_Book_fillText_22
noncomputable def c_towpathlaw01_Book_fillText_24 : Code := Code.l c_towpathlaw01_Book_fillText_23
noncomputable def r_towpathlaw01_Book_fillText_24 : Array Oper := Code.ops c_towpathlaw01_Book_fillText_24
noncomputable def c_towpathlaw01_Book_fillText_26 : Code := Code.r c_towpathlaw01_Book_fillText_23
noncomputable def c_towpathlaw01_Book_fillText_27 : Code := Code.l c_towpathlaw01_Book_fillText_26
noncomputable def c_towpathlaw01_Book_fillText_28 : Code := Code.r c_towpathlaw01_Book_fillText_26
noncomputable def c_towpathlaw01_Book_fillText_29 : Code := Code.r c_towpathlaw01_Book_fillText_22
noncomputable def c_towpathlaw01_Book_fillText_30 : Code := Code.l c_towpathlaw01_Book_fillText_29
noncomputable def c_towpathlaw01_Book_fillText_31 : Code := Code.l c_towpathlaw01_Book_fillText_30
noncomputable def r_towpathlaw01_Book_fillText_31 : Array Oper := Code.ops c_towpathlaw01_Book_fillText_31
noncomputable def c_towpathlaw01_Book_fillText_33 : Code := Code.r c_towpathlaw01_Book_fillText_29
noncomputable def r_towpathlaw01_Book_fillText_33 : Array Oper := Code.ops c_towpathlaw01_Book_fillText_33
noncomputable def c_towpathlaw01_Book_fillText_35 : Code := Code.r c_towpathlaw01_Book_fillText_12
noncomputable def r_towpathlaw01_Book_fillText_35 : Array Oper := Code.ops c_towpathlaw01_Book_fillText_35

set_option maxRecDepth 100000 in
set_option maxHeartbeats 4000000 in
theorem S_towpathlaw01_Book_fillText {b_ : Option Addr} {w : World} {R : World → Prop} (h : F_towpathlaw01_Book_fillText b_ R w) : C_towpathlaw01_Book_fillText b_ w R := by
  unfold F_towpathlaw01_Book_fillText at h
  unfold C_towpathlaw01_Book_fillText
  refine Calls.mono (calls_of_wpE (args := [Value.pointer b_]) (R := fun v w' => v = Value.tuple #[] ∧ R w') Tryd.func32 (c := c_towpathlaw01_Book_fillText_0) (by kernel_rfl) 35 (by kernel_rfl) (by kernel_rfl) [(0, Value.pointer b_)] (by kernel_rfl) ?_) ?_
  · refine wpE_seq (x := c_towpathlaw01_Book_fillText_1) (y := c_towpathlaw01_Book_fillText_3) (by kernel_rfl) ?_
    refine wpE_region (id := 0) (ops := r_towpathlaw01_Book_fillText_1) (by kernel_rfl) ?_
    refine reg_run [.plain] 1 [(0, [], Value.pointer b_), (2, [], Value.int .i64 0)] (by kernel_rfl) (by kernel_rfl) ?_
    refine reg_end [(0, Value.pointer b_), (2, Value.int .i64 0)] (by kernel_rfl) (by kernel_rfl) ?_
    change WpE _ _ c_towpathlaw01_Book_fillText_3 _ _ _
    refine wpE_block (id := 0) (x := c_towpathlaw01_Book_fillText_4) (by kernel_rfl) ?_
    obtain ⟨I, μ, h0, hr⟩ := h
    refine wpE_loop (x := c_towpathlaw01_Book_fillText_5) (by kernel_rfl) (fun m l w => ∃ (i : Int), l = [(0, Value.pointer b_), (2, Value.int .i64 i)] ∧ I i w ∧ μ i w = m) (l' := [(0, Value.pointer b_), (2, Value.int .i64 0)]) (Sub.mk (by kernel_rfl)) ⟨0, rfl, h0, rfl⟩ ?_
    rintro _ _ w1 ⟨i, rfl, hI, rfl⟩
    obtain ⟨again_, again__h, h⟩ : ∃ again_ : Int → World → Prop, (∀ i' w', again_ i' w' → I i' w' ∧ μ i' w' < μ i w1) ∧ F_towpathlaw01_Book_fillText_L0 b_ R again_ i w1 := ⟨_, fun _ _ h => h, hr i w1 hI⟩
    clear h0 hI
    unfold F_towpathlaw01_Book_fillText_L0 at h
    refine wpE_seq (x := c_towpathlaw01_Book_fillText_6) (y := c_towpathlaw01_Book_fillText_12) (by kernel_rfl) ?_
    refine wpE_seq (x := c_towpathlaw01_Book_fillText_7) (y := c_towpathlaw01_Book_fillText_9) (by kernel_rfl) ?_
    refine wpE_region (id := 1) (ops := r_towpathlaw01_Book_fillText_7) (by kernel_rfl) ?_
    refine reg_run [.plain, .plain] 2 [(0, [], Value.pointer b_), (2, [], Value.int .i64 i), (5, [], Value.int .i64 i), (6, [], Value.pointer b_)] (by kernel_rfl) (by kernel_rfl) ?_
    obtain ⟨hp_3, h⟩ := h
    refine reg_conv [(0, [], Value.pointer b_), (2, [], Value.int .i64 i), (5, [], Value.int .i64 i), (6, [], Value.pointer (some ⟨(pblk b_), (poff b_), none⟩))] (congrArg (fun pp => ([(0, [], Value.pointer b_), (2, [], Value.int .i64 i), (5, [], Value.int .i64 i), (6, [], Value.pointer pp)] : GEnv)) hp_3) ?_
    refine reg_run [.plain] 3 [(0, [], Value.pointer b_), (2, [], Value.int .i64 i), (5, [], Value.int .i64 i), (6, [], Value.pointer (some ⟨(pblk b_), (poff b_), none⟩)), (7, [], Value.pointer (some ⟨(pblk b_), (poff b_), none⟩))] (by kernel_rfl) (by kernel_rfl) ?_
    refine reg_run [.plain] 4 [(0, [], Value.pointer b_), (2, [], Value.int .i64 i), (5, [], Value.int .i64 i), (8, [], Value.pointer (some ⟨(pblk b_), (poff b_) + 3, none⟩))] (by kernel_rfl) (by kernel_rfl) ?_
    obtain ⟨v9, hc, h⟩ := h
    refine reg_load1 (t := 36) (a := (Go.Operand.tmp 8)) (b := (pblk b_)) (o := ((poff b_) + 3)) (ty := 36) (dst := some 9) (by kernel_rfl) (by kernel_rfl) (by kernel_rfl) hc ?_
    refine reg_run [.plain, .plain] 7 [(0, [], Value.pointer b_), (2, [], Value.int .i64 i), (11, [], Value.bool (decide (i < ((v9.len : Nat) : Int))))] (by kernel_rfl) (by kernel_rfl) ?_
    refine reg_end [(0, Value.pointer b_), (2, Value.int .i64 i), (11, Value.bool (decide (i < ((v9.len : Nat) : Int))))] (by kernel_rfl) (by kernel_rfl) ?_
    change WpE _ _ c_towpathlaw01_Book_fillText_9 _ _ _
    refine wpE_cond (o := (Operand.tmp 11)) (b := (decide (i < ((v9.len : Nat) : Int)))) (x := c_towpathlaw01_Book_fillText_10) (y := c_towpathlaw01_Book_fillText_11) (by kernel_rfl) (by kernel_rfl) (fun hb => ?_) (fun hb => ?_)
    · replace h := h.1 hb
      exact h.elim
    · replace h := h.2 hb
      refine wpE_exit (id := 0) (by kernel_rfl) ?_
      repeat (first | refine seqQ_exit ?_ | refine loopQ_exit ?_ | refine cutQ_exit ?_ | refine blockQ_hit ?_ | refine blockQ_miss (by kernel_rfl) ?_)
      refine retQ_normal ?_
      repeat (first | refine seqQ_ret ?_ | refine blockQ_ret ?_ | refine loopQ_ret ?_ | refine cutQ_ret ?_)
      exact retT (rs := []) (vs := []) (by kernel_rfl) (trivial) (by kernel_rfl) ⟨rfl, h⟩
  · rintro e w' ⟨v, rfl, rfl, h⟩; exact ⟨rfl, h⟩

/-! ### (*towpath/towpathlaw01.Book).fillWrite (function 33) -/
noncomputable def c_towpathlaw01_Book_fillWrite_0 : Code := (Tryd.f33.body).getD Code.skip
noncomputable def c_towpathlaw01_Book_fillWrite_1 : Code := Code.l c_towpathlaw01_Book_fillWrite_0
noncomputable def r_towpathlaw01_Book_fillWrite_1 : Array Oper := Code.ops c_towpathlaw01_Book_fillWrite_1
noncomputable def c_towpathlaw01_Book_fillWrite_3 : Code := Code.r c_towpathlaw01_Book_fillWrite_0
noncomputable def c_towpathlaw01_Book_fillWrite_4 : Code := Code.l c_towpathlaw01_Book_fillWrite_3
noncomputable def c_towpathlaw01_Book_fillWrite_5 : Code := Code.l c_towpathlaw01_Book_fillWrite_4
noncomputable def c_towpathlaw01_Book_fillWrite_6 : Code := Code.l c_towpathlaw01_Book_fillWrite_5
noncomputable def c_towpathlaw01_Book_fillWrite_7 : Code := Code.l c_towpathlaw01_Book_fillWrite_6
noncomputable def r_towpathlaw01_Book_fillWrite_7 : Array Oper := Code.ops c_towpathlaw01_Book_fillWrite_7
noncomputable def c_towpathlaw01_Book_fillWrite_9 : Code := Code.r c_towpathlaw01_Book_fillWrite_6
noncomputable def c_towpathlaw01_Book_fillWrite_10 : Code := Code.l c_towpathlaw01_Book_fillWrite_9
noncomputable def c_towpathlaw01_Book_fillWrite_11 : Code := Code.r c_towpathlaw01_Book_fillWrite_9
noncomputable def c_towpathlaw01_Book_fillWrite_12 : Code := Code.r c_towpathlaw01_Book_fillWrite_5
noncomputable def c_towpathlaw01_Book_fillWrite_13 : Code := Code.l c_towpathlaw01_Book_fillWrite_12
noncomputable def c_towpathlaw01_Book_fillWrite_14 : Code := Code.l c_towpathlaw01_Book_fillWrite_13
noncomputable def c_towpathlaw01_Book_fillWrite_15 : Code := Code.l c_towpathlaw01_Book_fillWrite_14
noncomputable def r_towpathlaw01_Book_fillWrite_15 : Array Oper := Code.ops c_towpathlaw01_Book_fillWrite_15
noncomputable def c_towpathlaw01_Book_fillWrite_17 : Code := Code.r c_towpathlaw01_Book_fillWrite_14
noncomputable def c_towpathlaw01_Book_fillWrite_18 : Code := Code.l c_towpathlaw01_Book_fillWrite_17
noncomputable def r_towpathlaw01_Book_fillWrite_18 : Array Oper := Code.ops c_towpathlaw01_Book_fillWrite_18
noncomputable def c_towpathlaw01_Book_fillWrite_20 : Code := Code.r c_towpathlaw01_Book_fillWrite_17
noncomputable def c_towpathlaw01_Book_fillWrite_21 : Code := Code.l c_towpathlaw01_Book_fillWrite_20
noncomputable def c_towpathlaw01_Book_fillWrite_22 : Code := Code.l c_towpathlaw01_Book_fillWrite_21
noncomputable def c_towpathlaw01_Book_fillWrite_23 : Code := Code.l c_towpathlaw01_Book_fillWrite_22
noncomputable def c_towpathlaw01_Book_fillWrite_24 : Code := Code.l c_towpathlaw01_Book_fillWrite_23
noncomputable def r_towpathlaw01_Book_fillWrite_24 : Array Oper := Code.ops c_towpathlaw01_Book_fillWrite_24
noncomputable def c_towpathlaw01_Book_fillWrite_26 : Code := Code.r c_towpathlaw01_Book_fillWrite_23
noncomputable def c_towpathlaw01_Book_fillWrite_27 : Code := Code.l c_towpathlaw01_Book_fillWrite_26
noncomputable def c_towpathlaw01_Book_fillWrite_28 : Code := Code.r c_towpathlaw01_Book_fillWrite_26
noncomputable def c_towpathlaw01_Book_fillWrite_29 : Code := Code.r c_towpathlaw01_Book_fillWrite_22
noncomputable def c_towpathlaw01_Book_fillWrite_30 : Code := Code.l c_towpathlaw01_Book_fillWrite_29
noncomputable def c_towpathlaw01_Book_fillWrite_31 : Code := Code.l c_towpathlaw01_Book_fillWrite_30
noncomputable def r_towpathlaw01_Book_fillWrite_31 : Array Oper := Code.ops c_towpathlaw01_Book_fillWrite_31
noncomputable def c_towpathlaw01_Book_fillWrite_33 : Code := Code.r c_towpathlaw01_Book_fillWrite_29
noncomputable def r_towpathlaw01_Book_fillWrite_33 : Array Oper := Code.ops c_towpathlaw01_Book_fillWrite_33
noncomputable def c_towpathlaw01_Book_fillWrite_35 : Code := Code.r c_towpathlaw01_Book_fillWrite_12
noncomputable def r_towpathlaw01_Book_fillWrite_35 : Array Oper := Code.ops c_towpathlaw01_Book_fillWrite_35

set_option maxRecDepth 100000 in
set_option maxHeartbeats 4000000 in
theorem S_towpathlaw01_Book_fillWrite {b_ : Option Addr} {w : World} {R : World → Prop} (h : F_towpathlaw01_Book_fillWrite b_ R w) : C_towpathlaw01_Book_fillWrite b_ w R := by
  unfold F_towpathlaw01_Book_fillWrite at h
  unfold C_towpathlaw01_Book_fillWrite
  refine Calls.mono (calls_of_wpE (args := [Value.pointer b_]) (R := fun v w' => v = Value.tuple #[] ∧ R w') Tryd.func33 (c := c_towpathlaw01_Book_fillWrite_0) (by kernel_rfl) 35 (by kernel_rfl) (by kernel_rfl) [(0, Value.pointer b_)] (by kernel_rfl) ?_) ?_
  · refine wpE_seq (x := c_towpathlaw01_Book_fillWrite_1) (y := c_towpathlaw01_Book_fillWrite_3) (by kernel_rfl) ?_
    refine wpE_region (id := 0) (ops := r_towpathlaw01_Book_fillWrite_1) (by kernel_rfl) ?_
    refine reg_run [.plain] 1 [(0, [], Value.pointer b_), (2, [], Value.int .i64 0)] (by kernel_rfl) (by kernel_rfl) ?_
    refine reg_end [(0, Value.pointer b_), (2, Value.int .i64 0)] (by kernel_rfl) (by kernel_rfl) ?_
    change WpE _ _ c_towpathlaw01_Book_fillWrite_3 _ _ _
    refine wpE_block (id := 0) (x := c_towpathlaw01_Book_fillWrite_4) (by kernel_rfl) ?_
    obtain ⟨I, μ, h0, hr⟩ := h
    refine wpE_loop (x := c_towpathlaw01_Book_fillWrite_5) (by kernel_rfl) (fun m l w => ∃ (i : Int), l = [(0, Value.pointer b_), (2, Value.int .i64 i)] ∧ I i w ∧ μ i w = m) (l' := [(0, Value.pointer b_), (2, Value.int .i64 0)]) (Sub.mk (by kernel_rfl)) ⟨0, rfl, h0, rfl⟩ ?_
    rintro _ _ w1 ⟨i, rfl, hI, rfl⟩
    obtain ⟨again_, again__h, h⟩ : ∃ again_ : Int → World → Prop, (∀ i' w', again_ i' w' → I i' w' ∧ μ i' w' < μ i w1) ∧ F_towpathlaw01_Book_fillWrite_L0 b_ R again_ i w1 := ⟨_, fun _ _ h => h, hr i w1 hI⟩
    clear h0 hI
    unfold F_towpathlaw01_Book_fillWrite_L0 at h
    refine wpE_seq (x := c_towpathlaw01_Book_fillWrite_6) (y := c_towpathlaw01_Book_fillWrite_12) (by kernel_rfl) ?_
    refine wpE_seq (x := c_towpathlaw01_Book_fillWrite_7) (y := c_towpathlaw01_Book_fillWrite_9) (by kernel_rfl) ?_
    refine wpE_region (id := 1) (ops := r_towpathlaw01_Book_fillWrite_7) (by kernel_rfl) ?_
    refine reg_run [.plain, .plain] 2 [(0, [], Value.pointer b_), (2, [], Value.int .i64 i), (5, [], Value.int .i64 i), (6, [], Value.pointer b_)] (by kernel_rfl) (by kernel_rfl) ?_
    obtain ⟨hp_3, h⟩ := h
    refine reg_conv [(0, [], Value.pointer b_), (2, [], Value.int .i64 i), (5, [], Value.int .i64 i), (6, [], Value.pointer (some ⟨(pblk b_), (poff b_), none⟩))] (congrArg (fun pp => ([(0, [], Value.pointer b_), (2, [], Value.int .i64 i), (5, [], Value.int .i64 i), (6, [], Value.pointer pp)] : GEnv)) hp_3) ?_
    refine reg_run [.plain] 3 [(0, [], Value.pointer b_), (2, [], Value.int .i64 i), (5, [], Value.int .i64 i), (6, [], Value.pointer (some ⟨(pblk b_), (poff b_), none⟩)), (7, [], Value.pointer (some ⟨(pblk b_), (poff b_), none⟩))] (by kernel_rfl) (by kernel_rfl) ?_
    refine reg_run [.plain] 4 [(0, [], Value.pointer b_), (2, [], Value.int .i64 i), (5, [], Value.int .i64 i), (8, [], Value.pointer (some ⟨(pblk b_), (poff b_) + 4, none⟩))] (by kernel_rfl) (by kernel_rfl) ?_
    obtain ⟨v9, hc, h⟩ := h
    refine reg_load1 (t := 37) (a := (Go.Operand.tmp 8)) (b := (pblk b_)) (o := ((poff b_) + 4)) (ty := 37) (dst := some 9) (by kernel_rfl) (by kernel_rfl) (by kernel_rfl) hc ?_
    refine reg_run [.plain, .plain] 7 [(0, [], Value.pointer b_), (2, [], Value.int .i64 i), (11, [], Value.bool (decide (i < ((v9.len : Nat) : Int))))] (by kernel_rfl) (by kernel_rfl) ?_
    refine reg_end [(0, Value.pointer b_), (2, Value.int .i64 i), (11, Value.bool (decide (i < ((v9.len : Nat) : Int))))] (by kernel_rfl) (by kernel_rfl) ?_
    change WpE _ _ c_towpathlaw01_Book_fillWrite_9 _ _ _
    refine wpE_cond (o := (Operand.tmp 11)) (b := (decide (i < ((v9.len : Nat) : Int)))) (x := c_towpathlaw01_Book_fillWrite_10) (y := c_towpathlaw01_Book_fillWrite_11) (by kernel_rfl) (by kernel_rfl) (fun hb => ?_) (fun hb => ?_)
    · replace h := h.1 hb
      exact h.elim
    · replace h := h.2 hb
      refine wpE_exit (id := 0) (by kernel_rfl) ?_
      repeat (first | refine seqQ_exit ?_ | refine loopQ_exit ?_ | refine cutQ_exit ?_ | refine blockQ_hit ?_ | refine blockQ_miss (by kernel_rfl) ?_)
      refine retQ_normal ?_
      repeat (first | refine seqQ_ret ?_ | refine blockQ_ret ?_ | refine loopQ_ret ?_ | refine cutQ_ret ?_)
      exact retT (rs := []) (vs := []) (by kernel_rfl) (trivial) (by kernel_rfl) ⟨rfl, h⟩
  · rintro e w' ⟨v, rfl, rfl, h⟩; exact ⟨rfl, h⟩

/-! ### (*towpath/towpathlaw01.Book).fillEntry (function 34) -/
noncomputable def c_towpathlaw01_Book_fillEntry_0 : Code := (Tryd.f34.body).getD Code.skip
noncomputable def c_towpathlaw01_Book_fillEntry_1 : Code := Code.l c_towpathlaw01_Book_fillEntry_0
noncomputable def r_towpathlaw01_Book_fillEntry_1 : Array Oper := Code.ops c_towpathlaw01_Book_fillEntry_1
noncomputable def c_towpathlaw01_Book_fillEntry_3 : Code := Code.r c_towpathlaw01_Book_fillEntry_0
noncomputable def c_towpathlaw01_Book_fillEntry_4 : Code := Code.l c_towpathlaw01_Book_fillEntry_3
noncomputable def c_towpathlaw01_Book_fillEntry_5 : Code := Code.l c_towpathlaw01_Book_fillEntry_4
noncomputable def c_towpathlaw01_Book_fillEntry_6 : Code := Code.l c_towpathlaw01_Book_fillEntry_5
noncomputable def c_towpathlaw01_Book_fillEntry_7 : Code := Code.l c_towpathlaw01_Book_fillEntry_6
noncomputable def r_towpathlaw01_Book_fillEntry_7 : Array Oper := Code.ops c_towpathlaw01_Book_fillEntry_7
noncomputable def c_towpathlaw01_Book_fillEntry_9 : Code := Code.r c_towpathlaw01_Book_fillEntry_6
noncomputable def c_towpathlaw01_Book_fillEntry_10 : Code := Code.l c_towpathlaw01_Book_fillEntry_9
noncomputable def c_towpathlaw01_Book_fillEntry_11 : Code := Code.r c_towpathlaw01_Book_fillEntry_9
noncomputable def c_towpathlaw01_Book_fillEntry_12 : Code := Code.r c_towpathlaw01_Book_fillEntry_5
noncomputable def c_towpathlaw01_Book_fillEntry_13 : Code := Code.l c_towpathlaw01_Book_fillEntry_12
noncomputable def c_towpathlaw01_Book_fillEntry_14 : Code := Code.l c_towpathlaw01_Book_fillEntry_13
noncomputable def c_towpathlaw01_Book_fillEntry_15 : Code := Code.l c_towpathlaw01_Book_fillEntry_14
noncomputable def r_towpathlaw01_Book_fillEntry_15 : Array Oper := Code.ops c_towpathlaw01_Book_fillEntry_15
noncomputable def c_towpathlaw01_Book_fillEntry_17 : Code := Code.r c_towpathlaw01_Book_fillEntry_14
noncomputable def c_towpathlaw01_Book_fillEntry_18 : Code := Code.l c_towpathlaw01_Book_fillEntry_17
noncomputable def r_towpathlaw01_Book_fillEntry_18 : Array Oper := Code.ops c_towpathlaw01_Book_fillEntry_18
noncomputable def c_towpathlaw01_Book_fillEntry_20 : Code := Code.r c_towpathlaw01_Book_fillEntry_17
noncomputable def c_towpathlaw01_Book_fillEntry_21 : Code := Code.l c_towpathlaw01_Book_fillEntry_20
noncomputable def c_towpathlaw01_Book_fillEntry_22 : Code := Code.l c_towpathlaw01_Book_fillEntry_21
noncomputable def c_towpathlaw01_Book_fillEntry_23 : Code := Code.l c_towpathlaw01_Book_fillEntry_22
noncomputable def c_towpathlaw01_Book_fillEntry_24 : Code := Code.l c_towpathlaw01_Book_fillEntry_23
noncomputable def r_towpathlaw01_Book_fillEntry_24 : Array Oper := Code.ops c_towpathlaw01_Book_fillEntry_24
noncomputable def c_towpathlaw01_Book_fillEntry_26 : Code := Code.r c_towpathlaw01_Book_fillEntry_23
noncomputable def c_towpathlaw01_Book_fillEntry_27 : Code := Code.l c_towpathlaw01_Book_fillEntry_26
noncomputable def c_towpathlaw01_Book_fillEntry_28 : Code := Code.r c_towpathlaw01_Book_fillEntry_26
noncomputable def c_towpathlaw01_Book_fillEntry_29 : Code := Code.r c_towpathlaw01_Book_fillEntry_22
noncomputable def c_towpathlaw01_Book_fillEntry_30 : Code := Code.l c_towpathlaw01_Book_fillEntry_29
noncomputable def c_towpathlaw01_Book_fillEntry_31 : Code := Code.l c_towpathlaw01_Book_fillEntry_30
noncomputable def r_towpathlaw01_Book_fillEntry_31 : Array Oper := Code.ops c_towpathlaw01_Book_fillEntry_31
noncomputable def c_towpathlaw01_Book_fillEntry_33 : Code := Code.r c_towpathlaw01_Book_fillEntry_29
noncomputable def r_towpathlaw01_Book_fillEntry_33 : Array Oper := Code.ops c_towpathlaw01_Book_fillEntry_33
noncomputable def c_towpathlaw01_Book_fillEntry_35 : Code := Code.r c_towpathlaw01_Book_fillEntry_12
noncomputable def r_towpathlaw01_Book_fillEntry_35 : Array Oper := Code.ops c_towpathlaw01_Book_fillEntry_35

set_option maxRecDepth 100000 in
set_option maxHeartbeats 4000000 in
theorem S_towpathlaw01_Book_fillEntry {b_ : Option Addr} {w : World} {R : World → Prop} (h : F_towpathlaw01_Book_fillEntry b_ R w) : C_towpathlaw01_Book_fillEntry b_ w R := by
  unfold F_towpathlaw01_Book_fillEntry at h
  unfold C_towpathlaw01_Book_fillEntry
  refine Calls.mono (calls_of_wpE (args := [Value.pointer b_]) (R := fun v w' => v = Value.tuple #[] ∧ R w') Tryd.func34 (c := c_towpathlaw01_Book_fillEntry_0) (by kernel_rfl) 35 (by kernel_rfl) (by kernel_rfl) [(0, Value.pointer b_)] (by kernel_rfl) ?_) ?_
  · refine wpE_seq (x := c_towpathlaw01_Book_fillEntry_1) (y := c_towpathlaw01_Book_fillEntry_3) (by kernel_rfl) ?_
    refine wpE_region (id := 0) (ops := r_towpathlaw01_Book_fillEntry_1) (by kernel_rfl) ?_
    refine reg_run [.plain] 1 [(0, [], Value.pointer b_), (2, [], Value.int .i64 0)] (by kernel_rfl) (by kernel_rfl) ?_
    refine reg_end [(0, Value.pointer b_), (2, Value.int .i64 0)] (by kernel_rfl) (by kernel_rfl) ?_
    change WpE _ _ c_towpathlaw01_Book_fillEntry_3 _ _ _
    refine wpE_block (id := 0) (x := c_towpathlaw01_Book_fillEntry_4) (by kernel_rfl) ?_
    obtain ⟨I, μ, h0, hr⟩ := h
    refine wpE_loop (x := c_towpathlaw01_Book_fillEntry_5) (by kernel_rfl) (fun m l w => ∃ (i : Int), l = [(0, Value.pointer b_), (2, Value.int .i64 i)] ∧ I i w ∧ μ i w = m) (l' := [(0, Value.pointer b_), (2, Value.int .i64 0)]) (Sub.mk (by kernel_rfl)) ⟨0, rfl, h0, rfl⟩ ?_
    rintro _ _ w1 ⟨i, rfl, hI, rfl⟩
    obtain ⟨again_, again__h, h⟩ : ∃ again_ : Int → World → Prop, (∀ i' w', again_ i' w' → I i' w' ∧ μ i' w' < μ i w1) ∧ F_towpathlaw01_Book_fillEntry_L0 b_ R again_ i w1 := ⟨_, fun _ _ h => h, hr i w1 hI⟩
    clear h0 hI
    unfold F_towpathlaw01_Book_fillEntry_L0 at h
    refine wpE_seq (x := c_towpathlaw01_Book_fillEntry_6) (y := c_towpathlaw01_Book_fillEntry_12) (by kernel_rfl) ?_
    refine wpE_seq (x := c_towpathlaw01_Book_fillEntry_7) (y := c_towpathlaw01_Book_fillEntry_9) (by kernel_rfl) ?_
    refine wpE_region (id := 1) (ops := r_towpathlaw01_Book_fillEntry_7) (by kernel_rfl) ?_
    refine reg_run [.plain, .plain] 2 [(0, [], Value.pointer b_), (2, [], Value.int .i64 i), (5, [], Value.int .i64 i), (6, [], Value.pointer b_)] (by kernel_rfl) (by kernel_rfl) ?_
    obtain ⟨hp_3, h⟩ := h
    refine reg_conv [(0, [], Value.pointer b_), (2, [], Value.int .i64 i), (5, [], Value.int .i64 i), (6, [], Value.pointer (some ⟨(pblk b_), (poff b_), none⟩))] (congrArg (fun pp => ([(0, [], Value.pointer b_), (2, [], Value.int .i64 i), (5, [], Value.int .i64 i), (6, [], Value.pointer pp)] : GEnv)) hp_3) ?_
    refine reg_run [.plain] 3 [(0, [], Value.pointer b_), (2, [], Value.int .i64 i), (5, [], Value.int .i64 i), (6, [], Value.pointer (some ⟨(pblk b_), (poff b_), none⟩)), (7, [], Value.pointer (some ⟨(pblk b_), (poff b_), none⟩))] (by kernel_rfl) (by kernel_rfl) ?_
    refine reg_run [.plain] 4 [(0, [], Value.pointer b_), (2, [], Value.int .i64 i), (5, [], Value.int .i64 i), (8, [], Value.pointer (some ⟨(pblk b_), (poff b_) + 5, none⟩))] (by kernel_rfl) (by kernel_rfl) ?_
    obtain ⟨v9, hc, h⟩ := h
    refine reg_load1 (t := 38) (a := (Go.Operand.tmp 8)) (b := (pblk b_)) (o := ((poff b_) + 5)) (ty := 38) (dst := some 9) (by kernel_rfl) (by kernel_rfl) (by kernel_rfl) hc ?_
    refine reg_run [.plain, .plain] 7 [(0, [], Value.pointer b_), (2, [], Value.int .i64 i), (11, [], Value.bool (decide (i < ((v9.len : Nat) : Int))))] (by kernel_rfl) (by kernel_rfl) ?_
    refine reg_end [(0, Value.pointer b_), (2, Value.int .i64 i), (11, Value.bool (decide (i < ((v9.len : Nat) : Int))))] (by kernel_rfl) (by kernel_rfl) ?_
    change WpE _ _ c_towpathlaw01_Book_fillEntry_9 _ _ _
    refine wpE_cond (o := (Operand.tmp 11)) (b := (decide (i < ((v9.len : Nat) : Int)))) (x := c_towpathlaw01_Book_fillEntry_10) (y := c_towpathlaw01_Book_fillEntry_11) (by kernel_rfl) (by kernel_rfl) (fun hb => ?_) (fun hb => ?_)
    · replace h := h.1 hb
      exact h.elim
    · replace h := h.2 hb
      refine wpE_exit (id := 0) (by kernel_rfl) ?_
      repeat (first | refine seqQ_exit ?_ | refine loopQ_exit ?_ | refine cutQ_exit ?_ | refine blockQ_hit ?_ | refine blockQ_miss (by kernel_rfl) ?_)
      refine retQ_normal ?_
      repeat (first | refine seqQ_ret ?_ | refine blockQ_ret ?_ | refine loopQ_ret ?_ | refine cutQ_ret ?_)
      exact retT (rs := []) (vs := []) (by kernel_rfl) (trivial) (by kernel_rfl) ⟨rfl, h⟩
  · rintro e w' ⟨v, rfl, rfl, h⟩; exact ⟨rfl, h⟩

/-! ### (*towpath/towpathlaw01.Book).fillVersion (function 35) -/
noncomputable def c_towpathlaw01_Book_fillVersion_0 : Code := (Tryd.f35.body).getD Code.skip
noncomputable def c_towpathlaw01_Book_fillVersion_1 : Code := Code.l c_towpathlaw01_Book_fillVersion_0
noncomputable def r_towpathlaw01_Book_fillVersion_1 : Array Oper := Code.ops c_towpathlaw01_Book_fillVersion_1
noncomputable def c_towpathlaw01_Book_fillVersion_3 : Code := Code.r c_towpathlaw01_Book_fillVersion_0
noncomputable def c_towpathlaw01_Book_fillVersion_4 : Code := Code.l c_towpathlaw01_Book_fillVersion_3
noncomputable def c_towpathlaw01_Book_fillVersion_5 : Code := Code.l c_towpathlaw01_Book_fillVersion_4
noncomputable def c_towpathlaw01_Book_fillVersion_6 : Code := Code.l c_towpathlaw01_Book_fillVersion_5
noncomputable def c_towpathlaw01_Book_fillVersion_7 : Code := Code.l c_towpathlaw01_Book_fillVersion_6
noncomputable def r_towpathlaw01_Book_fillVersion_7 : Array Oper := Code.ops c_towpathlaw01_Book_fillVersion_7
noncomputable def c_towpathlaw01_Book_fillVersion_9 : Code := Code.r c_towpathlaw01_Book_fillVersion_6
noncomputable def c_towpathlaw01_Book_fillVersion_10 : Code := Code.l c_towpathlaw01_Book_fillVersion_9
noncomputable def c_towpathlaw01_Book_fillVersion_11 : Code := Code.r c_towpathlaw01_Book_fillVersion_9
noncomputable def c_towpathlaw01_Book_fillVersion_12 : Code := Code.r c_towpathlaw01_Book_fillVersion_5
noncomputable def c_towpathlaw01_Book_fillVersion_13 : Code := Code.l c_towpathlaw01_Book_fillVersion_12
noncomputable def c_towpathlaw01_Book_fillVersion_14 : Code := Code.l c_towpathlaw01_Book_fillVersion_13
noncomputable def c_towpathlaw01_Book_fillVersion_15 : Code := Code.l c_towpathlaw01_Book_fillVersion_14
noncomputable def r_towpathlaw01_Book_fillVersion_15 : Array Oper := Code.ops c_towpathlaw01_Book_fillVersion_15
noncomputable def c_towpathlaw01_Book_fillVersion_17 : Code := Code.r c_towpathlaw01_Book_fillVersion_14
noncomputable def c_towpathlaw01_Book_fillVersion_18 : Code := Code.l c_towpathlaw01_Book_fillVersion_17
noncomputable def r_towpathlaw01_Book_fillVersion_18 : Array Oper := Code.ops c_towpathlaw01_Book_fillVersion_18
noncomputable def c_towpathlaw01_Book_fillVersion_20 : Code := Code.r c_towpathlaw01_Book_fillVersion_17
noncomputable def c_towpathlaw01_Book_fillVersion_21 : Code := Code.l c_towpathlaw01_Book_fillVersion_20
noncomputable def c_towpathlaw01_Book_fillVersion_22 : Code := Code.l c_towpathlaw01_Book_fillVersion_21
noncomputable def c_towpathlaw01_Book_fillVersion_23 : Code := Code.l c_towpathlaw01_Book_fillVersion_22
noncomputable def c_towpathlaw01_Book_fillVersion_24 : Code := Code.l c_towpathlaw01_Book_fillVersion_23
noncomputable def r_towpathlaw01_Book_fillVersion_24 : Array Oper := Code.ops c_towpathlaw01_Book_fillVersion_24
noncomputable def c_towpathlaw01_Book_fillVersion_26 : Code := Code.r c_towpathlaw01_Book_fillVersion_23
noncomputable def c_towpathlaw01_Book_fillVersion_27 : Code := Code.l c_towpathlaw01_Book_fillVersion_26
noncomputable def c_towpathlaw01_Book_fillVersion_28 : Code := Code.r c_towpathlaw01_Book_fillVersion_26
noncomputable def c_towpathlaw01_Book_fillVersion_29 : Code := Code.r c_towpathlaw01_Book_fillVersion_22
noncomputable def c_towpathlaw01_Book_fillVersion_30 : Code := Code.l c_towpathlaw01_Book_fillVersion_29
noncomputable def c_towpathlaw01_Book_fillVersion_31 : Code := Code.l c_towpathlaw01_Book_fillVersion_30
noncomputable def r_towpathlaw01_Book_fillVersion_31 : Array Oper := Code.ops c_towpathlaw01_Book_fillVersion_31
noncomputable def c_towpathlaw01_Book_fillVersion_33 : Code := Code.r c_towpathlaw01_Book_fillVersion_29
noncomputable def r_towpathlaw01_Book_fillVersion_33 : Array Oper := Code.ops c_towpathlaw01_Book_fillVersion_33
noncomputable def c_towpathlaw01_Book_fillVersion_35 : Code := Code.r c_towpathlaw01_Book_fillVersion_12
noncomputable def r_towpathlaw01_Book_fillVersion_35 : Array Oper := Code.ops c_towpathlaw01_Book_fillVersion_35
def o_towpathlaw01_Book_fillVersion_31 : List Nat := [0, 1, 2, 3, 4, 5, 6, 7]

set_option maxRecDepth 100000 in
set_option maxHeartbeats 4000000 in
theorem S_towpathlaw01_Book_fillVersion {b_ : Option Addr} {w : World} {R : World → Prop} (h : F_towpathlaw01_Book_fillVersion b_ R w) : C_towpathlaw01_Book_fillVersion b_ w R := by
  unfold F_towpathlaw01_Book_fillVersion at h
  unfold C_towpathlaw01_Book_fillVersion
  refine Calls.mono (calls_of_wpE (args := [Value.pointer b_]) (R := fun v w' => v = Value.tuple #[] ∧ R w') Tryd.func35 (c := c_towpathlaw01_Book_fillVersion_0) (by kernel_rfl) 35 (by kernel_rfl) (by kernel_rfl) [(0, Value.pointer b_)] (by kernel_rfl) ?_) ?_
  · refine wpE_seq (x := c_towpathlaw01_Book_fillVersion_1) (y := c_towpathlaw01_Book_fillVersion_3) (by kernel_rfl) ?_
    refine wpE_region (id := 0) (ops := r_towpathlaw01_Book_fillVersion_1) (by kernel_rfl) ?_
    refine reg_run [.plain] 1 [(0, [], Value.pointer b_), (2, [], Value.int .i64 0)] (by kernel_rfl) (by kernel_rfl) ?_
    refine reg_end [(0, Value.pointer b_), (2, Value.int .i64 0)] (by kernel_rfl) (by kernel_rfl) ?_
    change WpE _ _ c_towpathlaw01_Book_fillVersion_3 _ _ _
    refine wpE_block (id := 0) (x := c_towpathlaw01_Book_fillVersion_4) (by kernel_rfl) ?_
    obtain ⟨I, μ, h0, hr⟩ := h
    refine wpE_loop (x := c_towpathlaw01_Book_fillVersion_5) (by kernel_rfl) (fun m l w => ∃ (i : Int), l = [(0, Value.pointer b_), (2, Value.int .i64 i)] ∧ I i w ∧ μ i w = m) (l' := [(0, Value.pointer b_), (2, Value.int .i64 0)]) (Sub.mk (by kernel_rfl)) ⟨0, rfl, h0, rfl⟩ ?_
    rintro _ _ w1 ⟨i, rfl, hI, rfl⟩
    obtain ⟨again_, again__h, h⟩ : ∃ again_ : Int → World → Prop, (∀ i' w', again_ i' w' → I i' w' ∧ μ i' w' < μ i w1) ∧ F_towpathlaw01_Book_fillVersion_L0 b_ R again_ i w1 := ⟨_, fun _ _ h => h, hr i w1 hI⟩
    clear h0 hI
    unfold F_towpathlaw01_Book_fillVersion_L0 at h
    refine wpE_seq (x := c_towpathlaw01_Book_fillVersion_6) (y := c_towpathlaw01_Book_fillVersion_12) (by kernel_rfl) ?_
    refine wpE_seq (x := c_towpathlaw01_Book_fillVersion_7) (y := c_towpathlaw01_Book_fillVersion_9) (by kernel_rfl) ?_
    refine wpE_region (id := 1) (ops := r_towpathlaw01_Book_fillVersion_7) (by kernel_rfl) ?_
    refine reg_run [.plain, .plain] 2 [(0, [], Value.pointer b_), (2, [], Value.int .i64 i), (5, [], Value.int .i64 i), (6, [], Value.pointer b_)] (by kernel_rfl) (by kernel_rfl) ?_
    obtain ⟨hp_3, h⟩ := h
    refine reg_conv [(0, [], Value.pointer b_), (2, [], Value.int .i64 i), (5, [], Value.int .i64 i), (6, [], Value.pointer (some ⟨(pblk b_), (poff b_), none⟩))] (congrArg (fun pp => ([(0, [], Value.pointer b_), (2, [], Value.int .i64 i), (5, [], Value.int .i64 i), (6, [], Value.pointer pp)] : GEnv)) hp_3) ?_
    refine reg_run [.plain] 3 [(0, [], Value.pointer b_), (2, [], Value.int .i64 i), (5, [], Value.int .i64 i), (6, [], Value.pointer (some ⟨(pblk b_), (poff b_), none⟩)), (7, [], Value.pointer (some ⟨(pblk b_), (poff b_), none⟩))] (by kernel_rfl) (by kernel_rfl) ?_
    refine reg_run [.plain] 4 [(0, [], Value.pointer b_), (2, [], Value.int .i64 i), (5, [], Value.int .i64 i), (8, [], Value.pointer (some ⟨(pblk b_), (poff b_) + 6, none⟩))] (by kernel_rfl) (by kernel_rfl) ?_
    obtain ⟨v9, hc, h⟩ := h
    refine reg_load1 (t := 39) (a := (Go.Operand.tmp 8)) (b := (pblk b_)) (o := ((poff b_) + 6)) (ty := 39) (dst := some 9) (by kernel_rfl) (by kernel_rfl) (by kernel_rfl) hc ?_
    refine reg_run [.plain, .plain] 7 [(0, [], Value.pointer b_), (2, [], Value.int .i64 i), (11, [], Value.bool (decide (i < ((v9.len : Nat) : Int))))] (by kernel_rfl) (by kernel_rfl) ?_
    refine reg_end [(0, Value.pointer b_), (2, Value.int .i64 i), (11, Value.bool (decide (i < ((v9.len : Nat) : Int))))] (by kernel_rfl) (by kernel_rfl) ?_
    change WpE _ _ c_towpathlaw01_Book_fillVersion_9 _ _ _
    refine wpE_cond (o := (Operand.tmp 11)) (b := (decide (i < ((v9.len : Nat) : Int)))) (x := c_towpathlaw01_Book_fillVersion_10) (y := c_towpathlaw01_Book_fillVersion_11) (by kernel_rfl) (by kernel_rfl) (fun hb => ?_) (fun hb => ?_)
    · replace h := h.1 hb
      refine wpE_skip (by kernel_rfl) ?_
      change WpE _ _ c_towpathlaw01_Book_fillVersion_12 _ _ _
      refine wpE_seq (x := c_towpathlaw01_Book_fillVersion_13) (y := c_towpathlaw01_Book_fillVersion_35) (by kernel_rfl) ?_
      refine wpE_block (id := 1) (x := c_towpathlaw01_Book_fillVersion_14) (by kernel_rfl) ?_
      refine wpE_seq (x := c_towpathlaw01_Book_fillVersion_15) (y := c_towpathlaw01_Book_fillVersion_17) (by kernel_rfl) ?_
      refine wpE_region (id := 3) (ops := r_towpathlaw01_Book_fillVersion_15) (by kernel_rfl) ?_
      refine reg_run [.plain] 1 [(0, [], Value.pointer b_), (2, [], Value.int .i64 i), (14, [], Value.pointer b_)] (by kernel_rfl) (by kernel_rfl) ?_
      obtain ⟨hp_12, h⟩ := h
      refine reg_conv [(0, [], Value.pointer b_), (2, [], Value.int .i64 i), (14, [], Value.pointer (some ⟨(pblk b_), (poff b_), none⟩))] (congrArg (fun pp => ([(0, [], Value.pointer b_), (2, [], Value.int .i64 i), (14, [], Value.pointer pp)] : GEnv)) hp_12) ?_
      refine reg_run [.plain] 2 [(0, [], Value.pointer b_), (2, [], Value.int .i64 i), (14, [], Value.pointer (some ⟨(pblk b_), (poff b_), none⟩)), (15, [], Value.pointer (some ⟨(pblk b_), (poff b_), none⟩))] (by kernel_rfl) (by kernel_rfl) ?_
      refine reg_run [.plain] 3 [(0, [], Value.pointer b_), (2, [], Value.int .i64 i), (16, [], Value.pointer (some ⟨(pblk b_), (poff b_) + 6, none⟩))] (by kernel_rfl) (by kernel_rfl) ?_
      obtain ⟨v17, hc, h⟩ := h
      refine reg_load1 (t := 39) (a := (Go.Operand.tmp 16)) (b := (pblk b_)) (o := ((poff b_) + 6)) (ty := 39) (dst := some 17) (by kernel_rfl) (by kernel_rfl) (by kernel_rfl) hc ?_
      refine reg_run [.plain] 5 [(0, [], Value.pointer b_), (2, [], Value.int .i64 i), (17, [], Value.slice v17.ptr v17.len v17.cap), (18, [], Value.int .i64 i)] (by kernel_rfl) (by kernel_rfl) ?_
      obtain ⟨hp_13, h⟩ := h
      refine reg_conv [(0, [], Value.pointer b_), (2, [], Value.int .i64 i), (17, [], Value.slice (some ⟨(pblk v17.ptr), (poff v17.ptr), none⟩) v17.len v17.cap), (18, [], Value.int .i64 i)] (congrArg (fun pp => ([(0, [], Value.pointer b_), (2, [], Value.int .i64 i), (17, [], Value.slice pp v17.len v17.cap), (18, [], Value.int .i64 i)] : GEnv)) hp_13) ?_
      obtain ⟨h0, h1, h⟩ := h
      refine reg_indexS (t := 39) (e := 73) (x := (Go.Operand.tmp 17)) (ix := (Go.Operand.tmp 18)) (b := (pblk v17.ptr)) (o := (poff v17.ptr)) (l := v17.len) (c := v17.cap) (k := .i64) (j := i) (ty := 0) (dst := some 19) (sz := 3) (by kernel_rfl) (by kernel_rfl) (by kernel_rfl) (by kernel_rfl) (by kernel_rfl) h0 h1 ?_
      refine reg_run [] 6 [(0, [], Value.pointer b_), (2, [], Value.int .i64 i), (19, [], Value.pointer (some ⟨(pblk v17.ptr), (poff v17.ptr) + i.toNat * 3, none⟩))] (by kernel_rfl) (by kernel_rfl) ?_
      obtain ⟨v20, hc, h⟩ := h
      refine reg_loadN (t := 73) (a := (Go.Operand.tmp 19)) (b := (pblk v17.ptr)) (o := ((poff v17.ptr) + i.toNat * 3)) (ty := 73) (dst := some 20) [Value.slice v20.l.ptr v20.l.len v20.l.cap, Value.slice v20.long.ptr v20.long.len v20.long.cap, Value.int .i64 v20.n] (by kernel_rfl) (by kernel_rfl) (by kernel_rfl) (k := 3) (by kernel_rfl) (by kernel_rfl) hc ?_
      refine reg_run [] 7 [(0, [], Value.pointer b_), (2, [], Value.int .i64 i), (20, [], Value.agg #[Value.slice v20.l.ptr v20.l.len v20.l.cap, Value.slice v20.long.ptr v20.long.len v20.long.cap, Value.int .i64 v20.n])] (by kernel_rfl) (by kernel_rfl) ?_
      refine reg_new (op := (Go.Op.alloc 73)) (ty := 0) (dst := some 3) (fun bb => Value.pointer (some ⟨bb, 0, none⟩)) (Obj.cells ([Value.slice none 0 0, Value.slice none 0 0, Value.int .i64 0]).toArray ty_towpathlaw01_heldVersion (0, 0)) (by kernel_rfl) (by kernel_rfl) (fun b_1 w2 hb hw => ?_)
      replace h := h b_1 w2 hb hw
      clear hb hw
      refine reg_run [] 8 [(0, [], Value.pointer b_), (2, [], Value.int .i64 i), (3, [], Value.pointer (some ⟨b_1, 0, none⟩)), (20, [], Value.agg #[Value.slice v20.l.ptr v20.l.len v20.l.cap, Value.slice v20.long.ptr v20.long.len v20.long.cap, Value.int .i64 v20.n])] (by kernel_rfl) (by kernel_rfl) ?_
      obtain ⟨hc, h⟩ := h
      refine reg_store (t := 73) (a := (Go.Operand.tmp 3)) (x := (Go.Operand.tmp 20)) (b := b_1) (o := 0) (ty := 0) (dst := none) [Value.slice v20.l.ptr v20.l.len v20.l.cap, Value.slice v20.long.ptr v20.long.len v20.long.cap, Value.int .i64 v20.n] (by kernel_rfl) (by kernel_rfl) (by kernel_rfl) (k := 3) (by kernel_rfl) (by kernel_rfl) (by kernel_rfl) hc (fun w3 hw => ?_)
      replace h := h w3 hw
      clear hw
      refine reg_end [(0, Value.pointer b_), (2, Value.int .i64 i), (3, Value.pointer (some ⟨b_1, 0, none⟩))] (by kernel_rfl) (by kernel_rfl) ?_
      change WpE _ _ c_towpathlaw01_Book_fillVersion_17 _ _ _
      refine wpE_seq (x := c_towpathlaw01_Book_fillVersion_18) (y := c_towpathlaw01_Book_fillVersion_20) (by kernel_rfl) ?_
      refine wpE_region (id := 4) (ops := r_towpathlaw01_Book_fillVersion_18) (by kernel_rfl) ?_
      refine reg_run [.plain] 1 [(0, [], Value.pointer b_), (2, [], Value.int .i64 i), (3, [], Value.pointer (some ⟨b_1, 0, none⟩)), (4, [], Value.int .i64 0)] (by kernel_rfl) (by kernel_rfl) ?_
      refine reg_end [(0, Value.pointer b_), (2, Value.int .i64 i), (3, Value.pointer (some ⟨b_1, 0, none⟩)), (4, Value.int .i64 0)] (by kernel_rfl) (by kernel_rfl) ?_
      change WpE _ _ c_towpathlaw01_Book_fillVersion_20 _ _ _
      refine wpE_block (id := 2) (x := c_towpathlaw01_Book_fillVersion_21) (by kernel_rfl) ?_
      obtain ⟨I, μ, h0, hr⟩ := h
      refine wpE_loop (x := c_towpathlaw01_Book_fillVersion_22) (by kernel_rfl) (fun m l w => ∃ (k : Int), l = [(0, Value.pointer b_), (2, Value.int .i64 i), (3, Value.pointer (some ⟨b_1, 0, none⟩)), (4, Value.int .i64 k)] ∧ I k w ∧ μ k w = m) (l' := [(0, Value.pointer b_), (2, Value.int .i64 i), (3, Value.pointer (some ⟨b_1, 0, none⟩)), (4, Value.int .i64 0)]) (Sub.mk (by kernel_rfl)) ⟨0, rfl, h0, rfl⟩ ?_
      rintro _ _ w4 ⟨k, rfl, hI, rfl⟩
      obtain ⟨again_1, again_1_h, h⟩ : ∃ again_1 : Int → World → Prop, (∀ k' w', again_1 k' w' → I k' w' ∧ μ k' w' < μ k w4) ∧ F_towpathlaw01_Book_fillVersion_L1 i again_ b_1 again_1 k w4 := ⟨_, fun _ _ h => h, hr k w4 hI⟩
      clear h0 hI
      unfold F_towpathlaw01_Book_fillVersion_L1 at h
      refine wpE_seq (x := c_towpathlaw01_Book_fillVersion_23) (y := c_towpathlaw01_Book_fillVersion_29) (by kernel_rfl) ?_
      refine wpE_seq (x := c_towpathlaw01_Book_fillVersion_24) (y := c_towpathlaw01_Book_fillVersion_26) (by kernel_rfl) ?_
      refine wpE_region (id := 5) (ops := r_towpathlaw01_Book_fillVersion_24) (by kernel_rfl) ?_
      refine reg_run [.plain, .plain] 2 [(0, [], Value.pointer b_), (2, [], Value.int .i64 i), (3, [], Value.pointer (some ⟨b_1, 0, none⟩)), (4, [], Value.int .i64 k), (21, [], Value.int .i64 k), (22, [], Value.pointer (some ⟨b_1, 0, none⟩))] (by kernel_rfl) (by kernel_rfl) ?_
      obtain ⟨v23, hc, h⟩ := h
      refine reg_load1 (t := 22) (a := (Go.Operand.tmp 22)) (b := b_1) (o := 0) (ty := 22) (dst := some 23) (by kernel_rfl) (by kernel_rfl) (by kernel_rfl) hc ?_
      refine reg_run [.plain, .plain] 5 [(0, [], Value.pointer b_), (2, [], Value.int .i64 i), (3, [], Value.pointer (some ⟨b_1, 0, none⟩)), (4, [], Value.int .i64 k), (25, [], Value.bool (decide (k < ((v23.len : Nat) : Int))))] (by kernel_rfl) (by kernel_rfl) ?_
      refine reg_end [(0, Value.pointer b_), (2, Value.int .i64 i), (3, Value.pointer (some ⟨b_1, 0, none⟩)), (4, Value.int .i64 k), (25, Value.bool (decide (k < ((v23.len : Nat) : Int))))] (by kernel_rfl) (by kernel_rfl) ?_
      change WpE _ _ c_towpathlaw01_Book_fillVersion_26 _ _ _
      refine wpE_cond (o := (Operand.tmp 25)) (b := (decide (k < ((v23.len : Nat) : Int)))) (x := c_towpathlaw01_Book_fillVersion_27) (y := c_towpathlaw01_Book_fillVersion_28) (by kernel_rfl) (by kernel_rfl) (fun hb => ?_) (fun hb => ?_)
      · replace h := h.1 hb
        refine wpE_skip (by kernel_rfl) ?_
        change WpE _ _ c_towpathlaw01_Book_fillVersion_29 _ _ _
        refine wpE_seq (x := c_towpathlaw01_Book_fillVersion_30) (y := c_towpathlaw01_Book_fillVersion_33) (by kernel_rfl) ?_
        refine wpE_block (id := 3) (x := c_towpathlaw01_Book_fillVersion_31) (by kernel_rfl) ?_
        refine wpE_mixregion (id := 7) (ops := r_towpathlaw01_Book_fillVersion_31) o_towpathlaw01_Book_fillVersion_31 (by kernel_rfl) (by kernel_rfl) (by kernel_rfl) (by kernel_rfl) (fun w5 hw => ?_)
        replace h := h w5 hw
        clear hw
        refine mreg_run [.plain] 1 [(0, [], Value.pointer b_), (2, [], Value.int .i64 i), (3, [], Value.pointer (some ⟨b_1, 0, none⟩)), (4, [], Value.int .i64 k), (28, [], Value.pointer (some ⟨b_1, 0, none⟩))] (by kernel_rfl) (by kernel_rfl) ?_
        obtain ⟨v29, hc, h⟩ := h
        refine mreg_load1 (i := 1) (by kernel_rfl) (t := 22) (a := (Go.Operand.tmp 28)) (b := b_1) (o := 0) (ty := 22) (dst := some 29) (by kernel_rfl) (by kernel_rfl) (by kernel_rfl) hc ?_
        refine mreg_run [.plain, .plain] 4 [(0, [], Value.pointer b_), (2, [], Value.int .i64 i), (3, [], Value.pointer (some ⟨b_1, 0, none⟩)), (4, [], Value.int .i64 k), (29, [], Value.slice v29.ptr v29.len v29.cap), (30, [], Value.int .i64 k), (31, [], Value.pointer (some ⟨b_1, 2, none⟩))] (by kernel_rfl) (by kernel_rfl) ?_
        obtain ⟨v32, hc, h⟩ := h
        refine mreg_load1 (i := 4) (by kernel_rfl) (t := 3) (a := (Go.Operand.tmp 31)) (b := b_1) (o := 2) (ty := 3) (dst := some 32) (by kernel_rfl) (by kernel_rfl) (by kernel_rfl) hc ?_
        refine mreg_run [] 5 [(0, [], Value.pointer b_), (2, [], Value.int .i64 i), (3, [], Value.pointer (some ⟨b_1, 0, none⟩)), (4, [], Value.int .i64 k), (29, [], Value.slice v29.ptr v29.len v29.cap), (30, [], Value.int .i64 k), (32, [], Value.int .i64 v32)] (by kernel_rfl) (by kernel_rfl) ?_
        refine mreg_enter (op := (Go.Op.call (Go.Call.mk (Go.Callee.value (Go.Operand.func 74)) #[(Go.Operand.tmp 32)] #[3]))) (ty := 27) (dst := some 33) 5 [4, 3] [(1, fun w' => w'.cell? ⟨b_1, 0, none⟩ = some (Value.slice v29.ptr v29.len v29.cap))] 74 #[Value.int .i64 v32] (by kernel_rfl) (by kernel_rfl) (by kernel_rfl) (by kernel_rfl) (by kernel_rfl) (fun ww => by kernel_rfl) (Calls.mono h ?_)
        rintro _ w6 ⟨v33, rfl, h⟩
        obtain ⟨hk0, h⟩ := h
        refine ⟨_, rfl, ⟨hk0, trivial⟩, ?_⟩
        refine mreg_run [] 6 [(0, [], Value.pointer b_), (2, [], Value.int .i64 i), (3, [], Value.pointer (some ⟨b_1, 0, none⟩)), (4, [], Value.int .i64 k), (29, [], Value.slice v29.ptr v29.len v29.cap), (30, [], Value.int .i64 k), (33, [], Value.agg #[Value.int .i64 v33.Number, Value.string v33.Val, Value.bool v33.Drop])] (by kernel_rfl) (by kernel_rfl) ?_
        obtain ⟨hp_15, h⟩ := h
        refine mreg_conv [(0, [], Value.pointer b_), (2, [], Value.int .i64 i), (3, [], Value.pointer (some ⟨b_1, 0, none⟩)), (4, [], Value.int .i64 k), (29, [], Value.slice (some ⟨(pblk v29.ptr), (poff v29.ptr), none⟩) v29.len v29.cap), (30, [], Value.int .i64 k), (33, [], Value.agg #[Value.int .i64 v33.Number, Value.string v33.Val, Value.bool v33.Drop])] (congrArg (fun pp => ([(0, [], Value.pointer b_), (2, [], Value.int .i64 i), (3, [], Value.pointer (some ⟨b_1, 0, none⟩)), (4, [], Value.int .i64 k), (29, [], Value.slice pp v29.len v29.cap), (30, [], Value.int .i64 k), (33, [], Value.agg #[Value.int .i64 v33.Number, Value.string v33.Val, Value.bool v33.Drop])] : GEnv)) hp_15) ?_
        obtain ⟨h0, h1, h⟩ := h
        refine mreg_indexS (i := 6) (by kernel_rfl) (t := 22) (e := 27) (x := (Go.Operand.tmp 29)) (ix := (Go.Operand.tmp 30)) (b := (pblk v29.ptr)) (o := (poff v29.ptr)) (l := v29.len) (c := v29.cap) (k := .i64) (j := k) (ty := 0) (dst := some 34) (sz := 3) (by kernel_rfl) (by kernel_rfl) (by kernel_rfl) (by kernel_rfl) (by kernel_rfl) h0 h1 ?_
        refine mreg_run [] 7 [(0, [], Value.pointer b_), (2, [], Value.int .i64 i), (3, [], Value.pointer (some ⟨b_1, 0, none⟩)), (4, [], Value.int .i64 k), (33, [], Value.agg #[Value.int .i64 v33.Number, Value.string v33.Val, Value.bool v33.Drop]), (34, [], Value.pointer (some ⟨(pblk v29.ptr), (poff v29.ptr) + k.toNat * 3, none⟩))] (by kernel_rfl) (by kernel_rfl) ?_
        obtain ⟨hc, h⟩ := h
        refine mreg_store (t := 27) (a := (Go.Operand.tmp 34)) (x := (Go.Operand.tmp 33)) (b := (pblk v29.ptr)) (o := ((poff v29.ptr) + k.toNat * 3)) (k := 3) (ty := 0) (dst := none) 7 [0, 1, 2, 3, 4, 5, 6] [] [Value.int .i64 v33.Number, Value.string v33.Val, Value.bool v33.Drop] (by kernel_rfl) (by kernel_rfl) (by kernel_rfl) (by kernel_rfl) (by kernel_rfl) (by kernel_rfl) (by kernel_rfl) (by kernel_rfl) (by kernel_rfl) (by kernel_rfl) hc (fun w7 hw => ?_)
        replace h := h w7 hw
        clear hw
        refine ⟨trivial, ?_⟩
        refine mreg_end [(0, Value.pointer b_), (2, Value.int .i64 i), (3, Value.pointer (some ⟨b_1, 0, none⟩)), (4, Value.int .i64 k)] (by kernel_rfl) (by kernel_rfl) (by kernel_rfl) ?_
        change WpE _ _ c_towpathlaw01_Book_fillVersion_33 _ _ _
        refine wpE_region (id := 6) (ops := r_towpathlaw01_Book_fillVersion_33) (by kernel_rfl) ?_
        refine reg_run [.plain, .plain, .plain] 3 [(0, [], Value.pointer b_), (2, [], Value.int .i64 i), (3, [], Value.pointer (some ⟨b_1, 0, none⟩)), (4, [], Value.int .i64 (IntKind.i64.wrap (k + 1)))] (by kernel_rfl) (by kernel_rfl) ?_
        refine reg_end [(0, Value.pointer b_), (2, Value.int .i64 i), (3, Value.pointer (some ⟨b_1, 0, none⟩)), (4, Value.int .i64 (IntKind.i64.wrap (k + 1)))] (by kernel_rfl) (by kernel_rfl) ?_
        have hb_ := again_1_h _ _ h
        exact ⟨_, hb_.2, [(0, Value.pointer b_), (2, Value.int .i64 i), (3, Value.pointer (some ⟨b_1, 0, none⟩)), (4, Value.int .i64 (IntKind.i64.wrap (k + 1)))], Sub.mk (by kernel_rfl), (IntKind.i64.wrap (k + 1)), rfl, hb_.1, rfl⟩
      · replace h := h.2 hb
        refine wpE_exit (id := 2) (by kernel_rfl) ?_
        change WpE _ _ c_towpathlaw01_Book_fillVersion_35 _ _ _
        refine wpE_region (id := 2) (ops := r_towpathlaw01_Book_fillVersion_35) (by kernel_rfl) ?_
        refine reg_run [.plain, .plain, .plain] 3 [(0, [], Value.pointer b_), (2, [], Value.int .i64 (IntKind.i64.wrap (i + 1)))] (by kernel_rfl) (by kernel_rfl) ?_
        refine reg_end [(0, Value.pointer b_), (2, Value.int .i64 (IntKind.i64.wrap (i + 1)))] (by kernel_rfl) (by kernel_rfl) ?_
        have hb_ := again__h _ _ h
        exact ⟨_, hb_.2, [(0, Value.pointer b_), (2, Value.int .i64 (IntKind.i64.wrap (i + 1)))], Sub.mk (by kernel_rfl), (IntKind.i64.wrap (i + 1)), rfl, hb_.1, rfl⟩
    · replace h := h.2 hb
      refine wpE_exit (id := 0) (by kernel_rfl) ?_
      repeat (first | refine seqQ_exit ?_ | refine loopQ_exit ?_ | refine cutQ_exit ?_ | refine blockQ_hit ?_ | refine blockQ_miss (by kernel_rfl) ?_)
      refine retQ_normal ?_
      repeat (first | refine seqQ_ret ?_ | refine blockQ_ret ?_ | refine loopQ_ret ?_ | refine cutQ_ret ?_)
      exact retT (rs := []) (vs := []) (by kernel_rfl) (trivial) (by kernel_rfl) ⟨rfl, h⟩
  · rintro e w' ⟨v, rfl, rfl, h⟩; exact ⟨rfl, h⟩

/-! ### (*towpath/towpathlaw01.Book).fillTxn (function 36) -/
noncomputable def c_towpathlaw01_Book_fillTxn_0 : Code := (Tryd.f36.body).getD Code.skip
noncomputable def c_towpathlaw01_Book_fillTxn_1 : Code := Code.l c_towpathlaw01_Book_fillTxn_0
noncomputable def r_towpathlaw01_Book_fillTxn_1 : Array Oper := Code.ops c_towpathlaw01_Book_fillTxn_1
noncomputable def c_towpathlaw01_Book_fillTxn_3 : Code := Code.r c_towpathlaw01_Book_fillTxn_0
noncomputable def c_towpathlaw01_Book_fillTxn_4 : Code := Code.l c_towpathlaw01_Book_fillTxn_3
noncomputable def c_towpathlaw01_Book_fillTxn_5 : Code := Code.l c_towpathlaw01_Book_fillTxn_4
noncomputable def c_towpathlaw01_Book_fillTxn_6 : Code := Code.l c_towpathlaw01_Book_fillTxn_5
noncomputable def c_towpathlaw01_Book_fillTxn_7 : Code := Code.l c_towpathlaw01_Book_fillTxn_6
noncomputable def r_towpathlaw01_Book_fillTxn_7 : Array Oper := Code.ops c_towpathlaw01_Book_fillTxn_7
noncomputable def c_towpathlaw01_Book_fillTxn_9 : Code := Code.r c_towpathlaw01_Book_fillTxn_6
noncomputable def c_towpathlaw01_Book_fillTxn_10 : Code := Code.l c_towpathlaw01_Book_fillTxn_9
noncomputable def c_towpathlaw01_Book_fillTxn_11 : Code := Code.r c_towpathlaw01_Book_fillTxn_9
noncomputable def c_towpathlaw01_Book_fillTxn_12 : Code := Code.r c_towpathlaw01_Book_fillTxn_5
noncomputable def c_towpathlaw01_Book_fillTxn_13 : Code := Code.l c_towpathlaw01_Book_fillTxn_12
noncomputable def c_towpathlaw01_Book_fillTxn_14 : Code := Code.l c_towpathlaw01_Book_fillTxn_13
noncomputable def c_towpathlaw01_Book_fillTxn_15 : Code := Code.l c_towpathlaw01_Book_fillTxn_14
noncomputable def r_towpathlaw01_Book_fillTxn_15 : Array Oper := Code.ops c_towpathlaw01_Book_fillTxn_15
noncomputable def c_towpathlaw01_Book_fillTxn_17 : Code := Code.r c_towpathlaw01_Book_fillTxn_14
noncomputable def c_towpathlaw01_Book_fillTxn_18 : Code := Code.l c_towpathlaw01_Book_fillTxn_17
noncomputable def r_towpathlaw01_Book_fillTxn_18 : Array Oper := Code.ops c_towpathlaw01_Book_fillTxn_18
noncomputable def c_towpathlaw01_Book_fillTxn_20 : Code := Code.r c_towpathlaw01_Book_fillTxn_17
noncomputable def c_towpathlaw01_Book_fillTxn_21 : Code := Code.l c_towpathlaw01_Book_fillTxn_20
noncomputable def c_towpathlaw01_Book_fillTxn_22 : Code := Code.l c_towpathlaw01_Book_fillTxn_21
noncomputable def c_towpathlaw01_Book_fillTxn_23 : Code := Code.l c_towpathlaw01_Book_fillTxn_22
noncomputable def c_towpathlaw01_Book_fillTxn_24 : Code := Code.l c_towpathlaw01_Book_fillTxn_23
noncomputable def r_towpathlaw01_Book_fillTxn_24 : Array Oper := Code.ops c_towpathlaw01_Book_fillTxn_24
noncomputable def c_towpathlaw01_Book_fillTxn_26 : Code := Code.r c_towpathlaw01_Book_fillTxn_23
noncomputable def c_towpathlaw01_Book_fillTxn_27 : Code := Code.l c_towpathlaw01_Book_fillTxn_26
noncomputable def c_towpathlaw01_Book_fillTxn_28 : Code := Code.r c_towpathlaw01_Book_fillTxn_26
noncomputable def c_towpathlaw01_Book_fillTxn_29 : Code := Code.r c_towpathlaw01_Book_fillTxn_22
noncomputable def c_towpathlaw01_Book_fillTxn_30 : Code := Code.l c_towpathlaw01_Book_fillTxn_29
noncomputable def c_towpathlaw01_Book_fillTxn_31 : Code := Code.l c_towpathlaw01_Book_fillTxn_30
noncomputable def r_towpathlaw01_Book_fillTxn_31 : Array Oper := Code.ops c_towpathlaw01_Book_fillTxn_31
noncomputable def c_towpathlaw01_Book_fillTxn_33 : Code := Code.r c_towpathlaw01_Book_fillTxn_29
noncomputable def r_towpathlaw01_Book_fillTxn_33 : Array Oper := Code.ops c_towpathlaw01_Book_fillTxn_33
noncomputable def c_towpathlaw01_Book_fillTxn_35 : Code := Code.r c_towpathlaw01_Book_fillTxn_12
noncomputable def r_towpathlaw01_Book_fillTxn_35 : Array Oper := Code.ops c_towpathlaw01_Book_fillTxn_35

set_option maxRecDepth 100000 in
set_option maxHeartbeats 4000000 in
theorem S_towpathlaw01_Book_fillTxn {b_ : Option Addr} {w : World} {R : World → Prop} (h : F_towpathlaw01_Book_fillTxn b_ R w) : C_towpathlaw01_Book_fillTxn b_ w R := by
  unfold F_towpathlaw01_Book_fillTxn at h
  unfold C_towpathlaw01_Book_fillTxn
  refine Calls.mono (calls_of_wpE (args := [Value.pointer b_]) (R := fun v w' => v = Value.tuple #[] ∧ R w') Tryd.func36 (c := c_towpathlaw01_Book_fillTxn_0) (by kernel_rfl) 35 (by kernel_rfl) (by kernel_rfl) [(0, Value.pointer b_)] (by kernel_rfl) ?_) ?_
  · refine wpE_seq (x := c_towpathlaw01_Book_fillTxn_1) (y := c_towpathlaw01_Book_fillTxn_3) (by kernel_rfl) ?_
    refine wpE_region (id := 0) (ops := r_towpathlaw01_Book_fillTxn_1) (by kernel_rfl) ?_
    refine reg_run [.plain] 1 [(0, [], Value.pointer b_), (2, [], Value.int .i64 0)] (by kernel_rfl) (by kernel_rfl) ?_
    refine reg_end [(0, Value.pointer b_), (2, Value.int .i64 0)] (by kernel_rfl) (by kernel_rfl) ?_
    change WpE _ _ c_towpathlaw01_Book_fillTxn_3 _ _ _
    refine wpE_block (id := 0) (x := c_towpathlaw01_Book_fillTxn_4) (by kernel_rfl) ?_
    obtain ⟨I, μ, h0, hr⟩ := h
    refine wpE_loop (x := c_towpathlaw01_Book_fillTxn_5) (by kernel_rfl) (fun m l w => ∃ (i : Int), l = [(0, Value.pointer b_), (2, Value.int .i64 i)] ∧ I i w ∧ μ i w = m) (l' := [(0, Value.pointer b_), (2, Value.int .i64 0)]) (Sub.mk (by kernel_rfl)) ⟨0, rfl, h0, rfl⟩ ?_
    rintro _ _ w1 ⟨i, rfl, hI, rfl⟩
    obtain ⟨again_, again__h, h⟩ : ∃ again_ : Int → World → Prop, (∀ i' w', again_ i' w' → I i' w' ∧ μ i' w' < μ i w1) ∧ F_towpathlaw01_Book_fillTxn_L0 b_ R again_ i w1 := ⟨_, fun _ _ h => h, hr i w1 hI⟩
    clear h0 hI
    unfold F_towpathlaw01_Book_fillTxn_L0 at h
    refine wpE_seq (x := c_towpathlaw01_Book_fillTxn_6) (y := c_towpathlaw01_Book_fillTxn_12) (by kernel_rfl) ?_
    refine wpE_seq (x := c_towpathlaw01_Book_fillTxn_7) (y := c_towpathlaw01_Book_fillTxn_9) (by kernel_rfl) ?_
    refine wpE_region (id := 1) (ops := r_towpathlaw01_Book_fillTxn_7) (by kernel_rfl) ?_
    refine reg_run [.plain, .plain] 2 [(0, [], Value.pointer b_), (2, [], Value.int .i64 i), (5, [], Value.int .i64 i), (6, [], Value.pointer b_)] (by kernel_rfl) (by kernel_rfl) ?_
    obtain ⟨hp_3, h⟩ := h
    refine reg_conv [(0, [], Value.pointer b_), (2, [], Value.int .i64 i), (5, [], Value.int .i64 i), (6, [], Value.pointer (some ⟨(pblk b_), (poff b_), none⟩))] (congrArg (fun pp => ([(0, [], Value.pointer b_), (2, [], Value.int .i64 i), (5, [], Value.int .i64 i), (6, [], Value.pointer pp)] : GEnv)) hp_3) ?_
    refine reg_run [.plain] 3 [(0, [], Value.pointer b_), (2, [], Value.int .i64 i), (5, [], Value.int .i64 i), (6, [], Value.pointer (some ⟨(pblk b_), (poff b_), none⟩)), (7, [], Value.pointer (some ⟨(pblk b_), (poff b_), none⟩))] (by kernel_rfl) (by kernel_rfl) ?_
    refine reg_run [.plain] 4 [(0, [], Value.pointer b_), (2, [], Value.int .i64 i), (5, [], Value.int .i64 i), (8, [], Value.pointer (some ⟨(pblk b_), (poff b_) + 7, none⟩))] (by kernel_rfl) (by kernel_rfl) ?_
    obtain ⟨v9, hc, h⟩ := h
    refine reg_load1 (t := 40) (a := (Go.Operand.tmp 8)) (b := (pblk b_)) (o := ((poff b_) + 7)) (ty := 40) (dst := some 9) (by kernel_rfl) (by kernel_rfl) (by kernel_rfl) hc ?_
    refine reg_run [.plain, .plain] 7 [(0, [], Value.pointer b_), (2, [], Value.int .i64 i), (11, [], Value.bool (decide (i < ((v9.len : Nat) : Int))))] (by kernel_rfl) (by kernel_rfl) ?_
    refine reg_end [(0, Value.pointer b_), (2, Value.int .i64 i), (11, Value.bool (decide (i < ((v9.len : Nat) : Int))))] (by kernel_rfl) (by kernel_rfl) ?_
    change WpE _ _ c_towpathlaw01_Book_fillTxn_9 _ _ _
    refine wpE_cond (o := (Operand.tmp 11)) (b := (decide (i < ((v9.len : Nat) : Int)))) (x := c_towpathlaw01_Book_fillTxn_10) (y := c_towpathlaw01_Book_fillTxn_11) (by kernel_rfl) (by kernel_rfl) (fun hb => ?_) (fun hb => ?_)
    · replace h := h.1 hb
      exact h.elim
    · replace h := h.2 hb
      refine wpE_exit (id := 0) (by kernel_rfl) ?_
      repeat (first | refine seqQ_exit ?_ | refine loopQ_exit ?_ | refine cutQ_exit ?_ | refine blockQ_hit ?_ | refine blockQ_miss (by kernel_rfl) ?_)
      refine retQ_normal ?_
      repeat (first | refine seqQ_ret ?_ | refine blockQ_ret ?_ | refine loopQ_ret ?_ | refine cutQ_ret ?_)
      exact retT (rs := []) (vs := []) (by kernel_rfl) (trivial) (by kernel_rfl) ⟨rfl, h⟩
  · rintro e w' ⟨v, rfl, rfl, h⟩; exact ⟨rfl, h⟩

/-! ### (*towpath/towpathlaw01.Book).fillHeld (function 37) -/
noncomputable def c_towpathlaw01_Book_fillHeld_0 : Code := (Tryd.f37.body).getD Code.skip
noncomputable def c_towpathlaw01_Book_fillHeld_1 : Code := Code.l c_towpathlaw01_Book_fillHeld_0
noncomputable def r_towpathlaw01_Book_fillHeld_1 : Array Oper := Code.ops c_towpathlaw01_Book_fillHeld_1
noncomputable def c_towpathlaw01_Book_fillHeld_3 : Code := Code.r c_towpathlaw01_Book_fillHeld_0
noncomputable def c_towpathlaw01_Book_fillHeld_4 : Code := Code.l c_towpathlaw01_Book_fillHeld_3
noncomputable def c_towpathlaw01_Book_fillHeld_5 : Code := Code.l c_towpathlaw01_Book_fillHeld_4
noncomputable def c_towpathlaw01_Book_fillHeld_6 : Code := Code.l c_towpathlaw01_Book_fillHeld_5
noncomputable def c_towpathlaw01_Book_fillHeld_7 : Code := Code.l c_towpathlaw01_Book_fillHeld_6
noncomputable def r_towpathlaw01_Book_fillHeld_7 : Array Oper := Code.ops c_towpathlaw01_Book_fillHeld_7
noncomputable def c_towpathlaw01_Book_fillHeld_9 : Code := Code.r c_towpathlaw01_Book_fillHeld_6
noncomputable def c_towpathlaw01_Book_fillHeld_10 : Code := Code.l c_towpathlaw01_Book_fillHeld_9
noncomputable def c_towpathlaw01_Book_fillHeld_11 : Code := Code.r c_towpathlaw01_Book_fillHeld_9
noncomputable def c_towpathlaw01_Book_fillHeld_12 : Code := Code.r c_towpathlaw01_Book_fillHeld_5
noncomputable def c_towpathlaw01_Book_fillHeld_13 : Code := Code.l c_towpathlaw01_Book_fillHeld_12
noncomputable def c_towpathlaw01_Book_fillHeld_14 : Code := Code.l c_towpathlaw01_Book_fillHeld_13
noncomputable def c_towpathlaw01_Book_fillHeld_15 : Code := Code.l c_towpathlaw01_Book_fillHeld_14
noncomputable def r_towpathlaw01_Book_fillHeld_15 : Array Oper := Code.ops c_towpathlaw01_Book_fillHeld_15
noncomputable def c_towpathlaw01_Book_fillHeld_17 : Code := Code.r c_towpathlaw01_Book_fillHeld_14
noncomputable def c_towpathlaw01_Book_fillHeld_18 : Code := Code.l c_towpathlaw01_Book_fillHeld_17
noncomputable def r_towpathlaw01_Book_fillHeld_18 : Array Oper := Code.ops c_towpathlaw01_Book_fillHeld_18
noncomputable def c_towpathlaw01_Book_fillHeld_20 : Code := Code.r c_towpathlaw01_Book_fillHeld_17
noncomputable def c_towpathlaw01_Book_fillHeld_21 : Code := Code.l c_towpathlaw01_Book_fillHeld_20
noncomputable def c_towpathlaw01_Book_fillHeld_22 : Code := Code.l c_towpathlaw01_Book_fillHeld_21
noncomputable def c_towpathlaw01_Book_fillHeld_23 : Code := Code.l c_towpathlaw01_Book_fillHeld_22
noncomputable def c_towpathlaw01_Book_fillHeld_24 : Code := Code.l c_towpathlaw01_Book_fillHeld_23
noncomputable def r_towpathlaw01_Book_fillHeld_24 : Array Oper := Code.ops c_towpathlaw01_Book_fillHeld_24
noncomputable def c_towpathlaw01_Book_fillHeld_26 : Code := Code.r c_towpathlaw01_Book_fillHeld_23
noncomputable def c_towpathlaw01_Book_fillHeld_27 : Code := Code.l c_towpathlaw01_Book_fillHeld_26
noncomputable def c_towpathlaw01_Book_fillHeld_28 : Code := Code.r c_towpathlaw01_Book_fillHeld_26
noncomputable def c_towpathlaw01_Book_fillHeld_29 : Code := Code.r c_towpathlaw01_Book_fillHeld_22
noncomputable def c_towpathlaw01_Book_fillHeld_30 : Code := Code.l c_towpathlaw01_Book_fillHeld_29
noncomputable def c_towpathlaw01_Book_fillHeld_31 : Code := Code.l c_towpathlaw01_Book_fillHeld_30
noncomputable def r_towpathlaw01_Book_fillHeld_31 : Array Oper := Code.ops c_towpathlaw01_Book_fillHeld_31
noncomputable def c_towpathlaw01_Book_fillHeld_33 : Code := Code.r c_towpathlaw01_Book_fillHeld_29
noncomputable def r_towpathlaw01_Book_fillHeld_33 : Array Oper := Code.ops c_towpathlaw01_Book_fillHeld_33
noncomputable def c_towpathlaw01_Book_fillHeld_35 : Code := Code.r c_towpathlaw01_Book_fillHeld_12
noncomputable def r_towpathlaw01_Book_fillHeld_35 : Array Oper := Code.ops c_towpathlaw01_Book_fillHeld_35

set_option maxRecDepth 100000 in
set_option maxHeartbeats 4000000 in
theorem S_towpathlaw01_Book_fillHeld {b_ : Option Addr} {w : World} {R : World → Prop} (h : F_towpathlaw01_Book_fillHeld b_ R w) : C_towpathlaw01_Book_fillHeld b_ w R := by
  unfold F_towpathlaw01_Book_fillHeld at h
  unfold C_towpathlaw01_Book_fillHeld
  refine Calls.mono (calls_of_wpE (args := [Value.pointer b_]) (R := fun v w' => v = Value.tuple #[] ∧ R w') Tryd.func37 (c := c_towpathlaw01_Book_fillHeld_0) (by kernel_rfl) 35 (by kernel_rfl) (by kernel_rfl) [(0, Value.pointer b_)] (by kernel_rfl) ?_) ?_
  · refine wpE_seq (x := c_towpathlaw01_Book_fillHeld_1) (y := c_towpathlaw01_Book_fillHeld_3) (by kernel_rfl) ?_
    refine wpE_region (id := 0) (ops := r_towpathlaw01_Book_fillHeld_1) (by kernel_rfl) ?_
    refine reg_run [.plain] 1 [(0, [], Value.pointer b_), (2, [], Value.int .i64 0)] (by kernel_rfl) (by kernel_rfl) ?_
    refine reg_end [(0, Value.pointer b_), (2, Value.int .i64 0)] (by kernel_rfl) (by kernel_rfl) ?_
    change WpE _ _ c_towpathlaw01_Book_fillHeld_3 _ _ _
    refine wpE_block (id := 0) (x := c_towpathlaw01_Book_fillHeld_4) (by kernel_rfl) ?_
    obtain ⟨I, μ, h0, hr⟩ := h
    refine wpE_loop (x := c_towpathlaw01_Book_fillHeld_5) (by kernel_rfl) (fun m l w => ∃ (i : Int), l = [(0, Value.pointer b_), (2, Value.int .i64 i)] ∧ I i w ∧ μ i w = m) (l' := [(0, Value.pointer b_), (2, Value.int .i64 0)]) (Sub.mk (by kernel_rfl)) ⟨0, rfl, h0, rfl⟩ ?_
    rintro _ _ w1 ⟨i, rfl, hI, rfl⟩
    obtain ⟨again_, again__h, h⟩ : ∃ again_ : Int → World → Prop, (∀ i' w', again_ i' w' → I i' w' ∧ μ i' w' < μ i w1) ∧ F_towpathlaw01_Book_fillHeld_L0 b_ R again_ i w1 := ⟨_, fun _ _ h => h, hr i w1 hI⟩
    clear h0 hI
    unfold F_towpathlaw01_Book_fillHeld_L0 at h
    refine wpE_seq (x := c_towpathlaw01_Book_fillHeld_6) (y := c_towpathlaw01_Book_fillHeld_12) (by kernel_rfl) ?_
    refine wpE_seq (x := c_towpathlaw01_Book_fillHeld_7) (y := c_towpathlaw01_Book_fillHeld_9) (by kernel_rfl) ?_
    refine wpE_region (id := 1) (ops := r_towpathlaw01_Book_fillHeld_7) (by kernel_rfl) ?_
    refine reg_run [.plain, .plain] 2 [(0, [], Value.pointer b_), (2, [], Value.int .i64 i), (5, [], Value.int .i64 i), (6, [], Value.pointer b_)] (by kernel_rfl) (by kernel_rfl) ?_
    obtain ⟨hp_3, h⟩ := h
    refine reg_conv [(0, [], Value.pointer b_), (2, [], Value.int .i64 i), (5, [], Value.int .i64 i), (6, [], Value.pointer (some ⟨(pblk b_), (poff b_), none⟩))] (congrArg (fun pp => ([(0, [], Value.pointer b_), (2, [], Value.int .i64 i), (5, [], Value.int .i64 i), (6, [], Value.pointer pp)] : GEnv)) hp_3) ?_
    refine reg_run [.plain] 3 [(0, [], Value.pointer b_), (2, [], Value.int .i64 i), (5, [], Value.int .i64 i), (6, [], Value.pointer (some ⟨(pblk b_), (poff b_), none⟩)), (7, [], Value.pointer (some ⟨(pblk b_), (poff b_), none⟩))] (by kernel_rfl) (by kernel_rfl) ?_
    refine reg_run [.plain] 4 [(0, [], Value.pointer b_), (2, [], Value.int .i64 i), (5, [], Value.int .i64 i), (8, [], Value.pointer (some ⟨(pblk b_), (poff b_) + 8, none⟩))] (by kernel_rfl) (by kernel_rfl) ?_
    obtain ⟨v9, hc, h⟩ := h
    refine reg_load1 (t := 41) (a := (Go.Operand.tmp 8)) (b := (pblk b_)) (o := ((poff b_) + 8)) (ty := 41) (dst := some 9) (by kernel_rfl) (by kernel_rfl) (by kernel_rfl) hc ?_
    refine reg_run [.plain, .plain] 7 [(0, [], Value.pointer b_), (2, [], Value.int .i64 i), (11, [], Value.bool (decide (i < ((v9.len : Nat) : Int))))] (by kernel_rfl) (by kernel_rfl) ?_
    refine reg_end [(0, Value.pointer b_), (2, Value.int .i64 i), (11, Value.bool (decide (i < ((v9.len : Nat) : Int))))] (by kernel_rfl) (by kernel_rfl) ?_
    change WpE _ _ c_towpathlaw01_Book_fillHeld_9 _ _ _
    refine wpE_cond (o := (Operand.tmp 11)) (b := (decide (i < ((v9.len : Nat) : Int)))) (x := c_towpathlaw01_Book_fillHeld_10) (y := c_towpathlaw01_Book_fillHeld_11) (by kernel_rfl) (by kernel_rfl) (fun hb => ?_) (fun hb => ?_)
    · replace h := h.1 hb
      exact h.elim
    · replace h := h.2 hb
      refine wpE_exit (id := 0) (by kernel_rfl) ?_
      repeat (first | refine seqQ_exit ?_ | refine loopQ_exit ?_ | refine cutQ_exit ?_ | refine blockQ_hit ?_ | refine blockQ_miss (by kernel_rfl) ?_)
      refine retQ_normal ?_
      repeat (first | refine seqQ_ret ?_ | refine blockQ_ret ?_ | refine loopQ_ret ?_ | refine cutQ_ret ?_)
      exact retT (rs := []) (vs := []) (by kernel_rfl) (trivial) (by kernel_rfl) ⟨rfl, h⟩
  · rintro e w' ⟨v, rfl, rfl, h⟩; exact ⟨rfl, h⟩

/-! ### (*towpath/towpathlaw01.Book).fillHeldList (function 38) -/
noncomputable def c_towpathlaw01_Book_fillHeldList_0 : Code := (Tryd.f38.body).getD Code.skip
noncomputable def c_towpathlaw01_Book_fillHeldList_1 : Code := Code.l c_towpathlaw01_Book_fillHeldList_0
noncomputable def r_towpathlaw01_Book_fillHeldList_1 : Array Oper := Code.ops c_towpathlaw01_Book_fillHeldList_1
noncomputable def c_towpathlaw01_Book_fillHeldList_3 : Code := Code.r c_towpathlaw01_Book_fillHeldList_0
noncomputable def c_towpathlaw01_Book_fillHeldList_4 : Code := Code.l c_towpathlaw01_Book_fillHeldList_3
noncomputable def c_towpathlaw01_Book_fillHeldList_5 : Code := Code.l c_towpathlaw01_Book_fillHeldList_4
noncomputable def c_towpathlaw01_Book_fillHeldList_6 : Code := Code.l c_towpathlaw01_Book_fillHeldList_5
noncomputable def c_towpathlaw01_Book_fillHeldList_7 : Code := Code.l c_towpathlaw01_Book_fillHeldList_6
noncomputable def r_towpathlaw01_Book_fillHeldList_7 : Array Oper := Code.ops c_towpathlaw01_Book_fillHeldList_7
noncomputable def c_towpathlaw01_Book_fillHeldList_9 : Code := Code.r c_towpathlaw01_Book_fillHeldList_6
noncomputable def c_towpathlaw01_Book_fillHeldList_10 : Code := Code.l c_towpathlaw01_Book_fillHeldList_9
noncomputable def c_towpathlaw01_Book_fillHeldList_11 : Code := Code.r c_towpathlaw01_Book_fillHeldList_9
noncomputable def c_towpathlaw01_Book_fillHeldList_12 : Code := Code.r c_towpathlaw01_Book_fillHeldList_5
noncomputable def c_towpathlaw01_Book_fillHeldList_13 : Code := Code.l c_towpathlaw01_Book_fillHeldList_12
noncomputable def c_towpathlaw01_Book_fillHeldList_14 : Code := Code.l c_towpathlaw01_Book_fillHeldList_13
noncomputable def c_towpathlaw01_Book_fillHeldList_15 : Code := Code.l c_towpathlaw01_Book_fillHeldList_14
noncomputable def r_towpathlaw01_Book_fillHeldList_15 : Array Oper := Code.ops c_towpathlaw01_Book_fillHeldList_15
noncomputable def c_towpathlaw01_Book_fillHeldList_17 : Code := Code.r c_towpathlaw01_Book_fillHeldList_14
noncomputable def c_towpathlaw01_Book_fillHeldList_18 : Code := Code.l c_towpathlaw01_Book_fillHeldList_17
noncomputable def r_towpathlaw01_Book_fillHeldList_18 : Array Oper := Code.ops c_towpathlaw01_Book_fillHeldList_18
noncomputable def c_towpathlaw01_Book_fillHeldList_20 : Code := Code.r c_towpathlaw01_Book_fillHeldList_17
noncomputable def c_towpathlaw01_Book_fillHeldList_21 : Code := Code.l c_towpathlaw01_Book_fillHeldList_20
noncomputable def c_towpathlaw01_Book_fillHeldList_22 : Code := Code.l c_towpathlaw01_Book_fillHeldList_21
noncomputable def c_towpathlaw01_Book_fillHeldList_23 : Code := Code.l c_towpathlaw01_Book_fillHeldList_22
noncomputable def c_towpathlaw01_Book_fillHeldList_24 : Code := Code.l c_towpathlaw01_Book_fillHeldList_23
noncomputable def r_towpathlaw01_Book_fillHeldList_24 : Array Oper := Code.ops c_towpathlaw01_Book_fillHeldList_24
noncomputable def c_towpathlaw01_Book_fillHeldList_26 : Code := Code.r c_towpathlaw01_Book_fillHeldList_23
noncomputable def c_towpathlaw01_Book_fillHeldList_27 : Code := Code.l c_towpathlaw01_Book_fillHeldList_26
noncomputable def c_towpathlaw01_Book_fillHeldList_28 : Code := Code.r c_towpathlaw01_Book_fillHeldList_26
noncomputable def c_towpathlaw01_Book_fillHeldList_29 : Code := Code.r c_towpathlaw01_Book_fillHeldList_22
noncomputable def c_towpathlaw01_Book_fillHeldList_30 : Code := Code.l c_towpathlaw01_Book_fillHeldList_29
noncomputable def c_towpathlaw01_Book_fillHeldList_31 : Code := Code.l c_towpathlaw01_Book_fillHeldList_30
noncomputable def r_towpathlaw01_Book_fillHeldList_31 : Array Oper := Code.ops c_towpathlaw01_Book_fillHeldList_31
noncomputable def c_towpathlaw01_Book_fillHeldList_33 : Code := Code.r c_towpathlaw01_Book_fillHeldList_29
noncomputable def r_towpathlaw01_Book_fillHeldList_33 : Array Oper := Code.ops c_towpathlaw01_Book_fillHeldList_33
noncomputable def c_towpathlaw01_Book_fillHeldList_35 : Code := Code.r c_towpathlaw01_Book_fillHeldList_12
noncomputable def r_towpathlaw01_Book_fillHeldList_35 : Array Oper := Code.ops c_towpathlaw01_Book_fillHeldList_35

set_option maxRecDepth 100000 in
set_option maxHeartbeats 4000000 in
theorem S_towpathlaw01_Book_fillHeldList {b_ : Option Addr} {w : World} {R : World → Prop} (h : F_towpathlaw01_Book_fillHeldList b_ R w) : C_towpathlaw01_Book_fillHeldList b_ w R := by
  unfold F_towpathlaw01_Book_fillHeldList at h
  unfold C_towpathlaw01_Book_fillHeldList
  refine Calls.mono (calls_of_wpE (args := [Value.pointer b_]) (R := fun v w' => v = Value.tuple #[] ∧ R w') Tryd.func38 (c := c_towpathlaw01_Book_fillHeldList_0) (by kernel_rfl) 35 (by kernel_rfl) (by kernel_rfl) [(0, Value.pointer b_)] (by kernel_rfl) ?_) ?_
  · refine wpE_seq (x := c_towpathlaw01_Book_fillHeldList_1) (y := c_towpathlaw01_Book_fillHeldList_3) (by kernel_rfl) ?_
    refine wpE_region (id := 0) (ops := r_towpathlaw01_Book_fillHeldList_1) (by kernel_rfl) ?_
    refine reg_run [.plain] 1 [(0, [], Value.pointer b_), (2, [], Value.int .i64 0)] (by kernel_rfl) (by kernel_rfl) ?_
    refine reg_end [(0, Value.pointer b_), (2, Value.int .i64 0)] (by kernel_rfl) (by kernel_rfl) ?_
    change WpE _ _ c_towpathlaw01_Book_fillHeldList_3 _ _ _
    refine wpE_block (id := 0) (x := c_towpathlaw01_Book_fillHeldList_4) (by kernel_rfl) ?_
    obtain ⟨I, μ, h0, hr⟩ := h
    refine wpE_loop (x := c_towpathlaw01_Book_fillHeldList_5) (by kernel_rfl) (fun m l w => ∃ (i : Int), l = [(0, Value.pointer b_), (2, Value.int .i64 i)] ∧ I i w ∧ μ i w = m) (l' := [(0, Value.pointer b_), (2, Value.int .i64 0)]) (Sub.mk (by kernel_rfl)) ⟨0, rfl, h0, rfl⟩ ?_
    rintro _ _ w1 ⟨i, rfl, hI, rfl⟩
    obtain ⟨again_, again__h, h⟩ : ∃ again_ : Int → World → Prop, (∀ i' w', again_ i' w' → I i' w' ∧ μ i' w' < μ i w1) ∧ F_towpathlaw01_Book_fillHeldList_L0 b_ R again_ i w1 := ⟨_, fun _ _ h => h, hr i w1 hI⟩
    clear h0 hI
    unfold F_towpathlaw01_Book_fillHeldList_L0 at h
    refine wpE_seq (x := c_towpathlaw01_Book_fillHeldList_6) (y := c_towpathlaw01_Book_fillHeldList_12) (by kernel_rfl) ?_
    refine wpE_seq (x := c_towpathlaw01_Book_fillHeldList_7) (y := c_towpathlaw01_Book_fillHeldList_9) (by kernel_rfl) ?_
    refine wpE_region (id := 1) (ops := r_towpathlaw01_Book_fillHeldList_7) (by kernel_rfl) ?_
    refine reg_run [.plain, .plain] 2 [(0, [], Value.pointer b_), (2, [], Value.int .i64 i), (5, [], Value.int .i64 i), (6, [], Value.pointer b_)] (by kernel_rfl) (by kernel_rfl) ?_
    obtain ⟨hp_3, h⟩ := h
    refine reg_conv [(0, [], Value.pointer b_), (2, [], Value.int .i64 i), (5, [], Value.int .i64 i), (6, [], Value.pointer (some ⟨(pblk b_), (poff b_), none⟩))] (congrArg (fun pp => ([(0, [], Value.pointer b_), (2, [], Value.int .i64 i), (5, [], Value.int .i64 i), (6, [], Value.pointer pp)] : GEnv)) hp_3) ?_
    refine reg_run [.plain] 3 [(0, [], Value.pointer b_), (2, [], Value.int .i64 i), (5, [], Value.int .i64 i), (6, [], Value.pointer (some ⟨(pblk b_), (poff b_), none⟩)), (7, [], Value.pointer (some ⟨(pblk b_), (poff b_), none⟩))] (by kernel_rfl) (by kernel_rfl) ?_
    refine reg_run [.plain] 4 [(0, [], Value.pointer b_), (2, [], Value.int .i64 i), (5, [], Value.int .i64 i), (8, [], Value.pointer (some ⟨(pblk b_), (poff b_) + 9, none⟩))] (by kernel_rfl) (by kernel_rfl) ?_
    obtain ⟨v9, hc, h⟩ := h
    refine reg_load1 (t := 42) (a := (Go.Operand.tmp 8)) (b := (pblk b_)) (o := ((poff b_) + 9)) (ty := 42) (dst := some 9) (by kernel_rfl) (by kernel_rfl) (by kernel_rfl) hc ?_
    refine reg_run [.plain, .plain] 7 [(0, [], Value.pointer b_), (2, [], Value.int .i64 i), (11, [], Value.bool (decide (i < ((v9.len : Nat) : Int))))] (by kernel_rfl) (by kernel_rfl) ?_
    refine reg_end [(0, Value.pointer b_), (2, Value.int .i64 i), (11, Value.bool (decide (i < ((v9.len : Nat) : Int))))] (by kernel_rfl) (by kernel_rfl) ?_
    change WpE _ _ c_towpathlaw01_Book_fillHeldList_9 _ _ _
    refine wpE_cond (o := (Operand.tmp 11)) (b := (decide (i < ((v9.len : Nat) : Int)))) (x := c_towpathlaw01_Book_fillHeldList_10) (y := c_towpathlaw01_Book_fillHeldList_11) (by kernel_rfl) (by kernel_rfl) (fun hb => ?_) (fun hb => ?_)
    · replace h := h.1 hb
      exact h.elim
    · replace h := h.2 hb
      refine wpE_exit (id := 0) (by kernel_rfl) ?_
      repeat (first | refine seqQ_exit ?_ | refine loopQ_exit ?_ | refine cutQ_exit ?_ | refine blockQ_hit ?_ | refine blockQ_miss (by kernel_rfl) ?_)
      refine retQ_normal ?_
      repeat (first | refine seqQ_ret ?_ | refine blockQ_ret ?_ | refine loopQ_ret ?_ | refine cutQ_ret ?_)
      exact retT (rs := []) (vs := []) (by kernel_rfl) (trivial) (by kernel_rfl) ⟨rfl, h⟩
  · rintro e w' ⟨v, rfl, rfl, h⟩; exact ⟨rfl, h⟩

/-! ### (*towpath/towpathlaw01.Book).fillEvent (function 39) -/
noncomputable def c_towpathlaw01_Book_fillEvent_0 : Code := (Tryd.f39.body).getD Code.skip
noncomputable def c_towpathlaw01_Book_fillEvent_1 : Code := Code.l c_towpathlaw01_Book_fillEvent_0
noncomputable def r_towpathlaw01_Book_fillEvent_1 : Array Oper := Code.ops c_towpathlaw01_Book_fillEvent_1
noncomputable def c_towpathlaw01_Book_fillEvent_3 : Code := Code.r c_towpathlaw01_Book_fillEvent_0
noncomputable def c_towpathlaw01_Book_fillEvent_4 : Code := Code.l c_towpathlaw01_Book_fillEvent_3
noncomputable def c_towpathlaw01_Book_fillEvent_5 : Code := Code.l c_towpathlaw01_Book_fillEvent_4
noncomputable def c_towpathlaw01_Book_fillEvent_6 : Code := Code.l c_towpathlaw01_Book_fillEvent_5
noncomputable def c_towpathlaw01_Book_fillEvent_7 : Code := Code.l c_towpathlaw01_Book_fillEvent_6
noncomputable def r_towpathlaw01_Book_fillEvent_7 : Array Oper := Code.ops c_towpathlaw01_Book_fillEvent_7
noncomputable def c_towpathlaw01_Book_fillEvent_9 : Code := Code.r c_towpathlaw01_Book_fillEvent_6
noncomputable def c_towpathlaw01_Book_fillEvent_10 : Code := Code.l c_towpathlaw01_Book_fillEvent_9
noncomputable def c_towpathlaw01_Book_fillEvent_11 : Code := Code.r c_towpathlaw01_Book_fillEvent_9
noncomputable def c_towpathlaw01_Book_fillEvent_12 : Code := Code.r c_towpathlaw01_Book_fillEvent_5
noncomputable def c_towpathlaw01_Book_fillEvent_13 : Code := Code.l c_towpathlaw01_Book_fillEvent_12
noncomputable def c_towpathlaw01_Book_fillEvent_14 : Code := Code.l c_towpathlaw01_Book_fillEvent_13
noncomputable def c_towpathlaw01_Book_fillEvent_15 : Code := Code.l c_towpathlaw01_Book_fillEvent_14
noncomputable def r_towpathlaw01_Book_fillEvent_15 : Array Oper := Code.ops c_towpathlaw01_Book_fillEvent_15
noncomputable def c_towpathlaw01_Book_fillEvent_17 : Code := Code.r c_towpathlaw01_Book_fillEvent_14
noncomputable def c_towpathlaw01_Book_fillEvent_18 : Code := Code.l c_towpathlaw01_Book_fillEvent_17
noncomputable def r_towpathlaw01_Book_fillEvent_18 : Array Oper := Code.ops c_towpathlaw01_Book_fillEvent_18
noncomputable def c_towpathlaw01_Book_fillEvent_20 : Code := Code.r c_towpathlaw01_Book_fillEvent_17
noncomputable def c_towpathlaw01_Book_fillEvent_21 : Code := Code.l c_towpathlaw01_Book_fillEvent_20
noncomputable def c_towpathlaw01_Book_fillEvent_22 : Code := Code.l c_towpathlaw01_Book_fillEvent_21
noncomputable def c_towpathlaw01_Book_fillEvent_23 : Code := Code.l c_towpathlaw01_Book_fillEvent_22
noncomputable def c_towpathlaw01_Book_fillEvent_24 : Code := Code.l c_towpathlaw01_Book_fillEvent_23
noncomputable def r_towpathlaw01_Book_fillEvent_24 : Array Oper := Code.ops c_towpathlaw01_Book_fillEvent_24
noncomputable def c_towpathlaw01_Book_fillEvent_26 : Code := Code.r c_towpathlaw01_Book_fillEvent_23
noncomputable def c_towpathlaw01_Book_fillEvent_27 : Code := Code.l c_towpathlaw01_Book_fillEvent_26
noncomputable def c_towpathlaw01_Book_fillEvent_28 : Code := Code.r c_towpathlaw01_Book_fillEvent_26
noncomputable def c_towpathlaw01_Book_fillEvent_29 : Code := Code.r c_towpathlaw01_Book_fillEvent_22
noncomputable def c_towpathlaw01_Book_fillEvent_30 : Code := Code.l c_towpathlaw01_Book_fillEvent_29
noncomputable def c_towpathlaw01_Book_fillEvent_31 : Code := Code.l c_towpathlaw01_Book_fillEvent_30
noncomputable def r_towpathlaw01_Book_fillEvent_31 : Array Oper := Code.ops c_towpathlaw01_Book_fillEvent_31
noncomputable def c_towpathlaw01_Book_fillEvent_33 : Code := Code.r c_towpathlaw01_Book_fillEvent_29
noncomputable def r_towpathlaw01_Book_fillEvent_33 : Array Oper := Code.ops c_towpathlaw01_Book_fillEvent_33
noncomputable def c_towpathlaw01_Book_fillEvent_35 : Code := Code.r c_towpathlaw01_Book_fillEvent_12
noncomputable def r_towpathlaw01_Book_fillEvent_35 : Array Oper := Code.ops c_towpathlaw01_Book_fillEvent_35

set_option maxRecDepth 100000 in
set_option maxHeartbeats 4000000 in
theorem S_towpathlaw01_Book_fillEvent {b_ : Option Addr} {w : World} {R : World → Prop} (h : F_towpathlaw01_Book_fillEvent b_ R w) : C_towpathlaw01_Book_fillEvent b_ w R := by
  unfold F_towpathlaw01_Book_fillEvent at h
  unfold C_towpathlaw01_Book_fillEvent
  refine Calls.mono (calls_of_wpE (args := [Value.pointer b_]) (R := fun v w' => v = Value.tuple #[] ∧ R w') Tryd.func39 (c := c_towpathlaw01_Book_fillEvent_0) (by kernel_rfl) 35 (by kernel_rfl) (by kernel_rfl) [(0, Value.pointer b_)] (by kernel_rfl) ?_) ?_
  · refine wpE_seq (x := c_towpathlaw01_Book_fillEvent_1) (y := c_towpathlaw01_Book_fillEvent_3) (by kernel_rfl) ?_
    refine wpE_region (id := 0) (ops := r_towpathlaw01_Book_fillEvent_1) (by kernel_rfl) ?_
    refine reg_run [.plain] 1 [(0, [], Value.pointer b_), (2, [], Value.int .i64 0)] (by kernel_rfl) (by kernel_rfl) ?_
    refine reg_end [(0, Value.pointer b_), (2, Value.int .i64 0)] (by kernel_rfl) (by kernel_rfl) ?_
    change WpE _ _ c_towpathlaw01_Book_fillEvent_3 _ _ _
    refine wpE_block (id := 0) (x := c_towpathlaw01_Book_fillEvent_4) (by kernel_rfl) ?_
    obtain ⟨I, μ, h0, hr⟩ := h
    refine wpE_loop (x := c_towpathlaw01_Book_fillEvent_5) (by kernel_rfl) (fun m l w => ∃ (i : Int), l = [(0, Value.pointer b_), (2, Value.int .i64 i)] ∧ I i w ∧ μ i w = m) (l' := [(0, Value.pointer b_), (2, Value.int .i64 0)]) (Sub.mk (by kernel_rfl)) ⟨0, rfl, h0, rfl⟩ ?_
    rintro _ _ w1 ⟨i, rfl, hI, rfl⟩
    obtain ⟨again_, again__h, h⟩ : ∃ again_ : Int → World → Prop, (∀ i' w', again_ i' w' → I i' w' ∧ μ i' w' < μ i w1) ∧ F_towpathlaw01_Book_fillEvent_L0 b_ R again_ i w1 := ⟨_, fun _ _ h => h, hr i w1 hI⟩
    clear h0 hI
    unfold F_towpathlaw01_Book_fillEvent_L0 at h
    refine wpE_seq (x := c_towpathlaw01_Book_fillEvent_6) (y := c_towpathlaw01_Book_fillEvent_12) (by kernel_rfl) ?_
    refine wpE_seq (x := c_towpathlaw01_Book_fillEvent_7) (y := c_towpathlaw01_Book_fillEvent_9) (by kernel_rfl) ?_
    refine wpE_region (id := 1) (ops := r_towpathlaw01_Book_fillEvent_7) (by kernel_rfl) ?_
    refine reg_run [.plain, .plain] 2 [(0, [], Value.pointer b_), (2, [], Value.int .i64 i), (5, [], Value.int .i64 i), (6, [], Value.pointer b_)] (by kernel_rfl) (by kernel_rfl) ?_
    obtain ⟨hp_3, h⟩ := h
    refine reg_conv [(0, [], Value.pointer b_), (2, [], Value.int .i64 i), (5, [], Value.int .i64 i), (6, [], Value.pointer (some ⟨(pblk b_), (poff b_), none⟩))] (congrArg (fun pp => ([(0, [], Value.pointer b_), (2, [], Value.int .i64 i), (5, [], Value.int .i64 i), (6, [], Value.pointer pp)] : GEnv)) hp_3) ?_
    refine reg_run [.plain] 3 [(0, [], Value.pointer b_), (2, [], Value.int .i64 i), (5, [], Value.int .i64 i), (6, [], Value.pointer (some ⟨(pblk b_), (poff b_), none⟩)), (7, [], Value.pointer (some ⟨(pblk b_), (poff b_), none⟩))] (by kernel_rfl) (by kernel_rfl) ?_
    refine reg_run [.plain] 4 [(0, [], Value.pointer b_), (2, [], Value.int .i64 i), (5, [], Value.int .i64 i), (8, [], Value.pointer (some ⟨(pblk b_), (poff b_) + 10, none⟩))] (by kernel_rfl) (by kernel_rfl) ?_
    obtain ⟨v9, hc, h⟩ := h
    refine reg_load1 (t := 43) (a := (Go.Operand.tmp 8)) (b := (pblk b_)) (o := ((poff b_) + 10)) (ty := 43) (dst := some 9) (by kernel_rfl) (by kernel_rfl) (by kernel_rfl) hc ?_
    refine reg_run [.plain, .plain] 7 [(0, [], Value.pointer b_), (2, [], Value.int .i64 i), (11, [], Value.bool (decide (i < ((v9.len : Nat) : Int))))] (by kernel_rfl) (by kernel_rfl) ?_
    refine reg_end [(0, Value.pointer b_), (2, Value.int .i64 i), (11, Value.bool (decide (i < ((v9.len : Nat) : Int))))] (by kernel_rfl) (by kernel_rfl) ?_
    change WpE _ _ c_towpathlaw01_Book_fillEvent_9 _ _ _
    refine wpE_cond (o := (Operand.tmp 11)) (b := (decide (i < ((v9.len : Nat) : Int)))) (x := c_towpathlaw01_Book_fillEvent_10) (y := c_towpathlaw01_Book_fillEvent_11) (by kernel_rfl) (by kernel_rfl) (fun hb => ?_) (fun hb => ?_)
    · replace h := h.1 hb
      exact h.elim
    · replace h := h.2 hb
      refine wpE_exit (id := 0) (by kernel_rfl) ?_
      repeat (first | refine seqQ_exit ?_ | refine loopQ_exit ?_ | refine cutQ_exit ?_ | refine blockQ_hit ?_ | refine blockQ_miss (by kernel_rfl) ?_)
      refine retQ_normal ?_
      repeat (first | refine seqQ_ret ?_ | refine blockQ_ret ?_ | refine loopQ_ret ?_ | refine cutQ_ret ?_)
      exact retT (rs := []) (vs := []) (by kernel_rfl) (trivial) (by kernel_rfl) ⟨rfl, h⟩
  · rintro e w' ⟨v, rfl, rfl, h⟩; exact ⟨rfl, h⟩
end Go.Proofs.YtcgfmkpddhhmgaaDoor
