/- WRITTEN BY PROGRAM (dec.py): for each Go function the clean formula F, the call's contract C, and the proof S that F gives C. -/
import Derived.Test.YtfmkemmgakdddaaRows
import Derived.Test.YtfmkemmgakdddaaGF
namespace Go.Proofs.Ytfmkemmgakdddaa
open Go
set_option linter.unusedVariables false

/-! ### towpath/towpathlaw01.WritesSize (function 65) -/
noncomputable def c_towpathlaw01_WritesSize_0 : Code := (Try.f65.body).getD Code.skip
noncomputable def c_towpathlaw01_WritesSize_1 : Code := Code.l c_towpathlaw01_WritesSize_0
noncomputable def r_towpathlaw01_WritesSize_1 : Array Oper := Code.ops c_towpathlaw01_WritesSize_1
noncomputable def c_towpathlaw01_WritesSize_3 : Code := Code.r c_towpathlaw01_WritesSize_0
noncomputable def c_towpathlaw01_WritesSize_4 : Code := Code.l c_towpathlaw01_WritesSize_3
noncomputable def r_towpathlaw01_WritesSize_4 : Array Oper := Code.ops c_towpathlaw01_WritesSize_4
noncomputable def c_towpathlaw01_WritesSize_6 : Code := Code.r c_towpathlaw01_WritesSize_3
noncomputable def c_towpathlaw01_WritesSize_7 : Code := Code.l c_towpathlaw01_WritesSize_6
noncomputable def c_towpathlaw01_WritesSize_8 : Code := Code.l c_towpathlaw01_WritesSize_7
noncomputable def r_towpathlaw01_WritesSize_8 : Array Oper := Code.ops c_towpathlaw01_WritesSize_8
noncomputable def c_towpathlaw01_WritesSize_10 : Code := Code.r c_towpathlaw01_WritesSize_7
noncomputable def c_towpathlaw01_WritesSize_11 : Code := Code.l c_towpathlaw01_WritesSize_10
noncomputable def c_towpathlaw01_WritesSize_12 : Code := Code.l c_towpathlaw01_WritesSize_11
noncomputable def c_towpathlaw01_WritesSize_13 : Code := Code.l c_towpathlaw01_WritesSize_12
noncomputable def c_towpathlaw01_WritesSize_14 : Code := Code.l c_towpathlaw01_WritesSize_13
noncomputable def r_towpathlaw01_WritesSize_14 : Array Oper := Code.ops c_towpathlaw01_WritesSize_14
noncomputable def c_towpathlaw01_WritesSize_16 : Code := Code.r c_towpathlaw01_WritesSize_13
noncomputable def c_towpathlaw01_WritesSize_17 : Code := Code.l c_towpathlaw01_WritesSize_16
noncomputable def c_towpathlaw01_WritesSize_18 : Code := Code.r c_towpathlaw01_WritesSize_16
noncomputable def c_towpathlaw01_WritesSize_19 : Code := Code.r c_towpathlaw01_WritesSize_12
noncomputable def c_towpathlaw01_WritesSize_20 : Code := Code.l c_towpathlaw01_WritesSize_19
noncomputable def c_towpathlaw01_WritesSize_21 : Code := Code.l c_towpathlaw01_WritesSize_20
noncomputable def r_towpathlaw01_WritesSize_21 : Array Oper := Code.ops c_towpathlaw01_WritesSize_21
noncomputable def c_towpathlaw01_WritesSize_23 : Code := Code.r c_towpathlaw01_WritesSize_19
noncomputable def r_towpathlaw01_WritesSize_23 : Array Oper := Code.ops c_towpathlaw01_WritesSize_23
noncomputable def c_towpathlaw01_WritesSize_25 : Code := Code.r c_towpathlaw01_WritesSize_6
noncomputable def c_towpathlaw01_WritesSize_26 : Code := Code.l c_towpathlaw01_WritesSize_25
noncomputable def r_towpathlaw01_WritesSize_26 : Array Oper := Code.ops c_towpathlaw01_WritesSize_26
noncomputable def c_towpathlaw01_WritesSize_28 : Code := Code.r c_towpathlaw01_WritesSize_25

set_option maxRecDepth 100000 in
set_option maxHeartbeats 4000000 in
theorem S_towpathlaw01_WritesSize {l_ : Slc} {w : World} {R : Int → World → Prop} (h : F_towpathlaw01_WritesSize l_ R w) : C_towpathlaw01_WritesSize l_ w R := by
  unfold F_towpathlaw01_WritesSize at h
  unfold C_towpathlaw01_WritesSize
  refine Calls.mono (calls_of_wpE (args := [Value.slice l_.ptr l_.len l_.cap]) (R := fun v w' => ∃ (r0 : Int), v = Value.int .i64 r0 ∧ R r0 w') Try.func65 (c := c_towpathlaw01_WritesSize_0) (by kernel_rfl) 33 (by kernel_rfl) (by kernel_rfl) [(0, Value.slice l_.ptr l_.len l_.cap)] (by kernel_rfl) ?_) ?_
  · refine wpE_seq (x := c_towpathlaw01_WritesSize_1) (y := c_towpathlaw01_WritesSize_3) (by kernel_rfl) ?_
    refine wpE_region (id := 0) (ops := r_towpathlaw01_WritesSize_1) (by kernel_rfl) ?_
    refine reg_run [.plain] 1 [(0, [], Value.slice l_.ptr l_.len l_.cap)] (by kernel_rfl) (by kernel_rfl) ?_
    refine reg_end [(0, Value.slice l_.ptr l_.len l_.cap)] (by kernel_rfl) (by kernel_rfl) ?_
    change WpE _ _ c_towpathlaw01_WritesSize_3 _ _ _
    refine wpE_seq (x := c_towpathlaw01_WritesSize_4) (y := c_towpathlaw01_WritesSize_6) (by kernel_rfl) ?_
    refine wpE_region (id := 1) (ops := r_towpathlaw01_WritesSize_4) (by kernel_rfl) ?_
    refine reg_run [.plain, .plain, .plain] 3 [(0, [], Value.slice l_.ptr l_.len l_.cap), (3, [], Value.int .i64 ((l_.len : Nat) : Int))] (by kernel_rfl) (by kernel_rfl) ?_
    refine reg_end [(0, Value.slice l_.ptr l_.len l_.cap), (3, Value.int .i64 ((l_.len : Nat) : Int))] (by kernel_rfl) (by kernel_rfl) ?_
    change WpE _ _ c_towpathlaw01_WritesSize_6 _ _ _
    refine wpE_seq (x := c_towpathlaw01_WritesSize_7) (y := c_towpathlaw01_WritesSize_25) (by kernel_rfl) ?_
    refine wpE_seq (x := c_towpathlaw01_WritesSize_8) (y := c_towpathlaw01_WritesSize_10) (by kernel_rfl) ?_
    refine wpE_region (id := 2) (ops := r_towpathlaw01_WritesSize_8) (by kernel_rfl) ?_
    refine reg_run [.plain] 1 [(0, [], Value.slice l_.ptr l_.len l_.cap), (3, [], Value.int .i64 ((l_.len : Nat) : Int)), (4, [], Value.int .i64 0)] (by kernel_rfl) (by kernel_rfl) ?_
    refine reg_end [(0, Value.slice l_.ptr l_.len l_.cap), (3, Value.int .i64 ((l_.len : Nat) : Int)), (4, Value.int .i64 0)] (by kernel_rfl) (by kernel_rfl) ?_
    change WpE _ _ c_towpathlaw01_WritesSize_10 _ _ _
    refine wpE_block (id := 0) (x := c_towpathlaw01_WritesSize_11) (by kernel_rfl) ?_
    obtain ⟨I, μ, h0, hr⟩ := h
    refine wpE_loop (x := c_towpathlaw01_WritesSize_12) (by kernel_rfl) (fun m l w => ∃ (n_ : Int) (i : Int), l = [(0, Value.slice l_.ptr l_.len l_.cap), (3, Value.int .i64 n_), (4, Value.int .i64 i)] ∧ I n_ i w ∧ μ n_ i w = m) (l' := [(0, Value.slice l_.ptr l_.len l_.cap), (3, Value.int .i64 ((l_.len : Nat) : Int)), (4, Value.int .i64 0)]) (Sub.mk (by kernel_rfl)) ⟨((l_.len : Nat) : Int), 0, rfl, h0, rfl⟩ ?_
    rintro _ _ w1 ⟨n_, i, rfl, hI, rfl⟩
    obtain ⟨again_, again__h, h⟩ : ∃ again_ : Int → Int → World → Prop, (∀ n_' i' w', again_ n_' i' w' → I n_' i' w' ∧ μ n_' i' w' < μ n_ i w1) ∧ F_towpathlaw01_WritesSize_L0 l_ R again_ n_ i w1 := ⟨_, fun _ _ _ h => h, hr n_ i w1 hI⟩
    clear h0 hI
    unfold F_towpathlaw01_WritesSize_L0 at h
    refine wpE_seq (x := c_towpathlaw01_WritesSize_13) (y := c_towpathlaw01_WritesSize_19) (by kernel_rfl) ?_
    refine wpE_seq (x := c_towpathlaw01_WritesSize_14) (y := c_towpathlaw01_WritesSize_16) (by kernel_rfl) ?_
    refine wpE_region (id := 3) (ops := r_towpathlaw01_WritesSize_14) (by kernel_rfl) ?_
    refine reg_run [.plain, .plain, .plain, .plain, .plain, .plain, .plain, .pick] 8 [(0, [], Value.slice l_.ptr l_.len l_.cap), (3, [], Value.int .i64 n_), (4, [], Value.int .i64 i), (14, [], Value.bool ((decide (i < ((l_.len : Nat) : Int))) && (decide (n_ ≤ 1048576))))] (by kernel_rfl) (by kernel_rfl) ?_
    refine reg_end [(0, Value.slice l_.ptr l_.len l_.cap), (3, Value.int .i64 n_), (4, Value.int .i64 i), (14, Value.bool ((decide (i < ((l_.len : Nat) : Int))) && (decide (n_ ≤ 1048576))))] (by kernel_rfl) (by kernel_rfl) ?_
    change WpE _ _ c_towpathlaw01_WritesSize_16 _ _ _
    refine wpE_cond (o := (Operand.tmp 14)) (b := ((decide (i < ((l_.len : Nat) : Int))) && (decide (n_ ≤ 1048576)))) (x := c_towpathlaw01_WritesSize_17) (y := c_towpathlaw01_WritesSize_18) (by kernel_rfl) (by kernel_rfl) (fun hb => ?_) (fun hb => ?_)
    · replace h := h.1 hb
      refine wpE_skip (by kernel_rfl) ?_
      change WpE _ _ c_towpathlaw01_WritesSize_19 _ _ _
      refine wpE_seq (x := c_towpathlaw01_WritesSize_20) (y := c_towpathlaw01_WritesSize_23) (by kernel_rfl) ?_
      refine wpE_block (id := 1) (x := c_towpathlaw01_WritesSize_21) (by kernel_rfl) ?_
      refine wpE_drawregion (id := 5) (ops := r_towpathlaw01_WritesSize_21) (by kernel_rfl) (by kernel_rfl) (by kernel_rfl) ?_
      refine qreg_run [.plain, .plain, .plain] 3 [(0, [], Value.slice l_.ptr l_.len l_.cap), (3, [], Value.int .i64 n_), (4, [], Value.int .i64 i), (17, [], Value.int .i64 n_), (18, [], Value.slice l_.ptr l_.len l_.cap), (19, [], Value.int .i64 i)] (by kernel_rfl) (by kernel_rfl) ?_
      obtain ⟨hp_6, h⟩ := h
      refine qreg_conv [(0, [], Value.slice l_.ptr l_.len l_.cap), (3, [], Value.int .i64 n_), (4, [], Value.int .i64 i), (17, [], Value.int .i64 n_), (18, [], Value.slice (some ⟨(pblk l_.ptr), (poff l_.ptr), none⟩) l_.len l_.cap), (19, [], Value.int .i64 i)] (congrArg (fun pp => ([(0, [], Value.slice l_.ptr l_.len l_.cap), (3, [], Value.int .i64 n_), (4, [], Value.int .i64 i), (17, [], Value.int .i64 n_), (18, [], Value.slice pp l_.len l_.cap), (19, [], Value.int .i64 i)] : GEnv)) hp_6) ?_
      obtain ⟨h0, h1, h⟩ := h
      refine qreg_indexS (t := 25) (e := 61) (x := (Go.Operand.tmp 18)) (ix := (Go.Operand.tmp 19)) (b := (pblk l_.ptr)) (o := (poff l_.ptr)) (l := l_.len) (c := l_.cap) (k := .i64) (j := i) (ty := 0) (dst := some 20) (sz := 3) (by kernel_rfl) (by kernel_rfl) (by kernel_rfl) (by kernel_rfl) (by kernel_rfl) h0 h1 ?_
      refine qreg_run [.plain] 5 [(0, [], Value.slice l_.ptr l_.len l_.cap), (3, [], Value.int .i64 n_), (4, [], Value.int .i64 i), (17, [], Value.int .i64 n_), (21, [], Value.pointer (some ⟨(pblk l_.ptr), (poff l_.ptr) + i.toNat * 3, none⟩))] (by kernel_rfl) (by kernel_rfl) ?_
      obtain ⟨v22, hc, h⟩ := h
      refine qreg_load1 (t := 9) (a := (Go.Operand.tmp 21)) (b := (pblk l_.ptr)) (o := ((poff l_.ptr) + i.toNat * 3)) (ty := 9) (dst := some 22) (by kernel_rfl) (by kernel_rfl) (by kernel_rfl) hc ?_
      refine qreg_run [.plain, .plain, .plain, .plain] 10 [(0, [], Value.slice l_.ptr l_.len l_.cap), (3, [], Value.int .i64 n_), (4, [], Value.int .i64 i), (24, [], Value.int .i64 (IntKind.i64.wrap (n_ + ((v22.size : Nat) : Int)))), (25, [], Value.slice l_.ptr l_.len l_.cap), (26, [], Value.int .i64 i)] (by kernel_rfl) (by kernel_rfl) ?_
      obtain ⟨hp_7, h⟩ := h
      refine qreg_conv [(0, [], Value.slice l_.ptr l_.len l_.cap), (3, [], Value.int .i64 n_), (4, [], Value.int .i64 i), (24, [], Value.int .i64 (IntKind.i64.wrap (n_ + ((v22.size : Nat) : Int)))), (25, [], Value.slice (some ⟨(pblk l_.ptr), (poff l_.ptr), none⟩) l_.len l_.cap), (26, [], Value.int .i64 i)] (congrArg (fun pp => ([(0, [], Value.slice l_.ptr l_.len l_.cap), (3, [], Value.int .i64 n_), (4, [], Value.int .i64 i), (24, [], Value.int .i64 (IntKind.i64.wrap (n_ + ((v22.size : Nat) : Int)))), (25, [], Value.slice pp l_.len l_.cap), (26, [], Value.int .i64 i)] : GEnv)) hp_7) ?_
      obtain ⟨h0, h1, h⟩ := h
      refine qreg_indexS (t := 25) (e := 61) (x := (Go.Operand.tmp 25)) (ix := (Go.Operand.tmp 26)) (b := (pblk l_.ptr)) (o := (poff l_.ptr)) (l := l_.len) (c := l_.cap) (k := .i64) (j := i) (ty := 0) (dst := some 27) (sz := 3) (by kernel_rfl) (by kernel_rfl) (by kernel_rfl) (by kernel_rfl) (by kernel_rfl) h0 h1 ?_
      refine qreg_run [.plain] 12 [(0, [], Value.slice l_.ptr l_.len l_.cap), (3, [], Value.int .i64 n_), (4, [], Value.int .i64 i), (24, [], Value.int .i64 (IntKind.i64.wrap (n_ + ((v22.size : Nat) : Int)))), (28, [], Value.pointer (some ⟨(pblk l_.ptr), ((poff l_.ptr) + i.toNat * 3) + 1, none⟩))] (by kernel_rfl) (by kernel_rfl) ?_
      obtain ⟨v29, hc, h⟩ := h
      refine qreg_load1 (t := 9) (a := (Go.Operand.tmp 28)) (b := (pblk l_.ptr)) (o := (((poff l_.ptr) + i.toNat * 3) + 1)) (ty := 9) (dst := some 29) (by kernel_rfl) (by kernel_rfl) (by kernel_rfl) hc ?_
      refine qreg_run [.plain, .plain, .plain] 16 [(0, [], Value.slice l_.ptr l_.len l_.cap), (3, [], Value.int .i64 (IntKind.i64.wrap ((IntKind.i64.wrap (n_ + ((v22.size : Nat) : Int))) + ((v29.size : Nat) : Int)))), (4, [], Value.int .i64 i)] (by kernel_rfl) (by kernel_rfl) ?_
      refine qreg_end [(0, Value.slice l_.ptr l_.len l_.cap), (3, Value.int .i64 (IntKind.i64.wrap ((IntKind.i64.wrap (n_ + ((v22.size : Nat) : Int))) + ((v29.size : Nat) : Int)))), (4, Value.int .i64 i)] (by kernel_rfl) (by kernel_rfl) (fun w2 hw => ?_)
      replace h := h w2 hw
      clear hw
      change WpE _ _ c_towpathlaw01_WritesSize_23 _ _ _
      refine wpE_region (id := 4) (ops := r_towpathlaw01_WritesSize_23) (by kernel_rfl) ?_
      refine reg_run [.plain, .plain, .plain] 3 [(0, [], Value.slice l_.ptr l_.len l_.cap), (3, [], Value.int .i64 (IntKind.i64.wrap ((IntKind.i64.wrap (n_ + ((v22.size : Nat) : Int))) + ((v29.size : Nat) : Int)))), (4, [], Value.int .i64 (IntKind.i64.wrap (i + 1)))] (by kernel_rfl) (by kernel_rfl) ?_
      refine reg_end [(0, Value.slice l_.ptr l_.len l_.cap), (3, Value.int .i64 (IntKind.i64.wrap ((IntKind.i64.wrap (n_ + ((v22.size : Nat) : Int))) + ((v29.size : Nat) : Int)))), (4, Value.int .i64 (IntKind.i64.wrap (i + 1)))] (by kernel_rfl) (by kernel_rfl) ?_
      have hb_ := again__h _ _ _ h
      exact ⟨_, hb_.2, [(0, Value.slice l_.ptr l_.len l_.cap), (3, Value.int .i64 (IntKind.i64.wrap ((IntKind.i64.wrap (n_ + ((v22.size : Nat) : Int))) + ((v29.size : Nat) : Int)))), (4, Value.int .i64 (IntKind.i64.wrap (i + 1)))], Sub.mk (by kernel_rfl), (IntKind.i64.wrap ((IntKind.i64.wrap (n_ + ((v22.size : Nat) : Int))) + ((v29.size : Nat) : Int))), (IntKind.i64.wrap (i + 1)), rfl, hb_.1, rfl⟩
    · replace h := h.2 hb
      refine wpE_exit (id := 0) (by kernel_rfl) ?_
      change WpE _ _ c_towpathlaw01_WritesSize_25 _ _ _
      refine wpE_seq (x := c_towpathlaw01_WritesSize_26) (y := c_towpathlaw01_WritesSize_28) (by kernel_rfl) ?_
      refine wpE_region (id := 6) (ops := r_towpathlaw01_WritesSize_26) (by kernel_rfl) ?_
      refine reg_run [.plain, .plain] 2 [(2, [], Value.int .i64 n_)] (by kernel_rfl) (by kernel_rfl) ?_
      refine reg_end [(2, Value.int .i64 n_)] (by kernel_rfl) (by kernel_rfl) ?_
      change WpE _ _ c_towpathlaw01_WritesSize_28 _ _ _
      refine wpE_ret (by kernel_rfl) ?_
      repeat (first | refine seqQ_ret ?_ | refine blockQ_ret ?_ | refine loopQ_ret ?_ | refine cutQ_ret ?_)
      exact retS (rs := [(Go.ResultVar.tmp 2)]) (v := Value.int .i64 n_) (by kernel_rfl) (⟨by kernel_rfl, trivial⟩) ⟨n_, rfl, h⟩
  · rintro e w' ⟨v, rfl, r0, rfl, h⟩; exact ⟨r0, rfl, h⟩

/-! ### towpath/towpathlaw01.SameInts (function 66) -/
noncomputable def c_towpathlaw01_SameInts_0 : Code := (Try.f66.body).getD Code.skip
noncomputable def c_towpathlaw01_SameInts_1 : Code := Code.l c_towpathlaw01_SameInts_0
noncomputable def r_towpathlaw01_SameInts_1 : Array Oper := Code.ops c_towpathlaw01_SameInts_1
noncomputable def c_towpathlaw01_SameInts_3 : Code := Code.r c_towpathlaw01_SameInts_0
noncomputable def c_towpathlaw01_SameInts_4 : Code := Code.l c_towpathlaw01_SameInts_3
noncomputable def c_towpathlaw01_SameInts_5 : Code := Code.l c_towpathlaw01_SameInts_4
noncomputable def r_towpathlaw01_SameInts_5 : Array Oper := Code.ops c_towpathlaw01_SameInts_5
noncomputable def c_towpathlaw01_SameInts_7 : Code := Code.r c_towpathlaw01_SameInts_4
noncomputable def c_towpathlaw01_SameInts_8 : Code := Code.l c_towpathlaw01_SameInts_7
noncomputable def c_towpathlaw01_SameInts_9 : Code := Code.l c_towpathlaw01_SameInts_8
noncomputable def r_towpathlaw01_SameInts_9 : Array Oper := Code.ops c_towpathlaw01_SameInts_9
noncomputable def c_towpathlaw01_SameInts_11 : Code := Code.r c_towpathlaw01_SameInts_8
noncomputable def c_towpathlaw01_SameInts_12 : Code := Code.r c_towpathlaw01_SameInts_7
noncomputable def c_towpathlaw01_SameInts_13 : Code := Code.r c_towpathlaw01_SameInts_3
noncomputable def c_towpathlaw01_SameInts_14 : Code := Code.l c_towpathlaw01_SameInts_13
noncomputable def c_towpathlaw01_SameInts_15 : Code := Code.l c_towpathlaw01_SameInts_14
noncomputable def r_towpathlaw01_SameInts_15 : Array Oper := Code.ops c_towpathlaw01_SameInts_15
noncomputable def c_towpathlaw01_SameInts_17 : Code := Code.r c_towpathlaw01_SameInts_14
noncomputable def c_towpathlaw01_SameInts_18 : Code := Code.l c_towpathlaw01_SameInts_17
noncomputable def c_towpathlaw01_SameInts_19 : Code := Code.l c_towpathlaw01_SameInts_18
noncomputable def c_towpathlaw01_SameInts_20 : Code := Code.l c_towpathlaw01_SameInts_19
noncomputable def c_towpathlaw01_SameInts_21 : Code := Code.l c_towpathlaw01_SameInts_20
noncomputable def r_towpathlaw01_SameInts_21 : Array Oper := Code.ops c_towpathlaw01_SameInts_21
noncomputable def c_towpathlaw01_SameInts_23 : Code := Code.r c_towpathlaw01_SameInts_20
noncomputable def c_towpathlaw01_SameInts_24 : Code := Code.l c_towpathlaw01_SameInts_23
noncomputable def c_towpathlaw01_SameInts_25 : Code := Code.r c_towpathlaw01_SameInts_23
noncomputable def c_towpathlaw01_SameInts_26 : Code := Code.r c_towpathlaw01_SameInts_19
noncomputable def c_towpathlaw01_SameInts_27 : Code := Code.l c_towpathlaw01_SameInts_26
noncomputable def c_towpathlaw01_SameInts_28 : Code := Code.l c_towpathlaw01_SameInts_27
noncomputable def c_towpathlaw01_SameInts_29 : Code := Code.l c_towpathlaw01_SameInts_28
noncomputable def r_towpathlaw01_SameInts_29 : Array Oper := Code.ops c_towpathlaw01_SameInts_29
noncomputable def c_towpathlaw01_SameInts_31 : Code := Code.r c_towpathlaw01_SameInts_28
noncomputable def c_towpathlaw01_SameInts_32 : Code := Code.l c_towpathlaw01_SameInts_31
noncomputable def c_towpathlaw01_SameInts_33 : Code := Code.l c_towpathlaw01_SameInts_32
noncomputable def r_towpathlaw01_SameInts_33 : Array Oper := Code.ops c_towpathlaw01_SameInts_33
noncomputable def c_towpathlaw01_SameInts_35 : Code := Code.r c_towpathlaw01_SameInts_32
noncomputable def c_towpathlaw01_SameInts_36 : Code := Code.r c_towpathlaw01_SameInts_31
noncomputable def c_towpathlaw01_SameInts_37 : Code := Code.r c_towpathlaw01_SameInts_26
noncomputable def r_towpathlaw01_SameInts_37 : Array Oper := Code.ops c_towpathlaw01_SameInts_37
noncomputable def c_towpathlaw01_SameInts_39 : Code := Code.r c_towpathlaw01_SameInts_13
noncomputable def c_towpathlaw01_SameInts_40 : Code := Code.l c_towpathlaw01_SameInts_39
noncomputable def r_towpathlaw01_SameInts_40 : Array Oper := Code.ops c_towpathlaw01_SameInts_40
noncomputable def c_towpathlaw01_SameInts_42 : Code := Code.r c_towpathlaw01_SameInts_39

set_option maxRecDepth 100000 in
set_option maxHeartbeats 4000000 in
theorem S_towpathlaw01_SameInts {a_ : Slc} {b_ : Slc} {w : World} {R : Bool → World → Prop} (h : F_towpathlaw01_SameInts a_ b_ R w) : C_towpathlaw01_SameInts a_ b_ w R := by
  unfold F_towpathlaw01_SameInts at h
  unfold C_towpathlaw01_SameInts
  refine Calls.mono (calls_of_wpE (args := [Value.slice a_.ptr a_.len a_.cap, Value.slice b_.ptr b_.len b_.cap]) (R := fun v w' => ∃ (r0 : Bool), v = Value.bool r0 ∧ R r0 w') Try.func66 (c := c_towpathlaw01_SameInts_0) (by kernel_rfl) 26 (by kernel_rfl) (by kernel_rfl) [(0, Value.slice a_.ptr a_.len a_.cap), (1, Value.slice b_.ptr b_.len b_.cap)] (by kernel_rfl) ?_) ?_
  · refine wpE_seq (x := c_towpathlaw01_SameInts_1) (y := c_towpathlaw01_SameInts_3) (by kernel_rfl) ?_
    refine wpE_region (id := 0) (ops := r_towpathlaw01_SameInts_1) (by kernel_rfl) ?_
    refine reg_run [.plain] 1 [(0, [], Value.slice a_.ptr a_.len a_.cap), (1, [], Value.slice b_.ptr b_.len b_.cap)] (by kernel_rfl) (by kernel_rfl) ?_
    refine reg_end [(0, Value.slice a_.ptr a_.len a_.cap), (1, Value.slice b_.ptr b_.len b_.cap)] (by kernel_rfl) (by kernel_rfl) ?_
    change WpE _ _ c_towpathlaw01_SameInts_3 _ _ _
    refine wpE_seq (x := c_towpathlaw01_SameInts_4) (y := c_towpathlaw01_SameInts_13) (by kernel_rfl) ?_
    refine wpE_seq (x := c_towpathlaw01_SameInts_5) (y := c_towpathlaw01_SameInts_7) (by kernel_rfl) ?_
    refine wpE_region (id := 1) (ops := r_towpathlaw01_SameInts_5) (by kernel_rfl) ?_
    refine reg_run [.plain, .plain, .plain, .plain, .plain] 5 [(0, [], Value.slice a_.ptr a_.len a_.cap), (1, [], Value.slice b_.ptr b_.len b_.cap), (10, [], Value.bool (((a_.len : Nat) : Int) != ((b_.len : Nat) : Int)))] (by kernel_rfl) (by kernel_rfl) ?_
    refine reg_end [(0, Value.slice a_.ptr a_.len a_.cap), (1, Value.slice b_.ptr b_.len b_.cap), (10, Value.bool (((a_.len : Nat) : Int) != ((b_.len : Nat) : Int)))] (by kernel_rfl) (by kernel_rfl) ?_
    change WpE _ _ c_towpathlaw01_SameInts_7 _ _ _
    refine wpE_cond (o := (Operand.tmp 10)) (b := (((a_.len : Nat) : Int) != ((b_.len : Nat) : Int))) (x := c_towpathlaw01_SameInts_8) (y := c_towpathlaw01_SameInts_12) (by kernel_rfl) (by kernel_rfl) (fun hb => ?_) (fun hb => ?_)
    · replace h := h.1 hb
      refine wpE_seq (x := c_towpathlaw01_SameInts_9) (y := c_towpathlaw01_SameInts_11) (by kernel_rfl) ?_
      refine wpE_region (id := 2) (ops := r_towpathlaw01_SameInts_9) (by kernel_rfl) ?_
      refine reg_run [.plain] 1 [(4, [], Value.bool false)] (by kernel_rfl) (by kernel_rfl) ?_
      refine reg_end [(4, Value.bool false)] (by kernel_rfl) (by kernel_rfl) ?_
      change WpE _ _ c_towpathlaw01_SameInts_11 _ _ _
      refine wpE_ret (by kernel_rfl) ?_
      repeat (first | refine seqQ_ret ?_ | refine blockQ_ret ?_ | refine loopQ_ret ?_ | refine cutQ_ret ?_)
      exact retS (rs := [(Go.ResultVar.tmp 4)]) (v := Value.bool false) (by kernel_rfl) (⟨by kernel_rfl, trivial⟩) ⟨false, rfl, h⟩
    · replace h := h.2 hb
      refine wpE_skip (by kernel_rfl) ?_
      change WpE _ _ c_towpathlaw01_SameInts_13 _ _ _
      refine wpE_seq (x := c_towpathlaw01_SameInts_14) (y := c_towpathlaw01_SameInts_39) (by kernel_rfl) ?_
      refine wpE_seq (x := c_towpathlaw01_SameInts_15) (y := c_towpathlaw01_SameInts_17) (by kernel_rfl) ?_
      refine wpE_region (id := 3) (ops := r_towpathlaw01_SameInts_15) (by kernel_rfl) ?_
      refine reg_run [.plain] 1 [(0, [], Value.slice a_.ptr a_.len a_.cap), (1, [], Value.slice b_.ptr b_.len b_.cap), (5, [], Value.int .i64 0)] (by kernel_rfl) (by kernel_rfl) ?_
      refine reg_end [(0, Value.slice a_.ptr a_.len a_.cap), (1, Value.slice b_.ptr b_.len b_.cap), (5, Value.int .i64 0)] (by kernel_rfl) (by kernel_rfl) ?_
      change WpE _ _ c_towpathlaw01_SameInts_17 _ _ _
      refine wpE_block (id := 0) (x := c_towpathlaw01_SameInts_18) (by kernel_rfl) ?_
      obtain ⟨I, μ, h0, hr⟩ := h
      refine wpE_loop (x := c_towpathlaw01_SameInts_19) (by kernel_rfl) (fun m l w => ∃ (i : Int), l = [(0, Value.slice a_.ptr a_.len a_.cap), (1, Value.slice b_.ptr b_.len b_.cap), (5, Value.int .i64 i)] ∧ I i w ∧ μ i w = m) (l' := [(0, Value.slice a_.ptr a_.len a_.cap), (1, Value.slice b_.ptr b_.len b_.cap), (5, Value.int .i64 0)]) (Sub.mk (by kernel_rfl)) ⟨0, rfl, h0, rfl⟩ ?_
      rintro _ _ w1 ⟨i, rfl, hI, rfl⟩
      obtain ⟨again_, again__h, h⟩ : ∃ again_ : Int → World → Prop, (∀ i' w', again_ i' w' → I i' w' ∧ μ i' w' < μ i w1) ∧ F_towpathlaw01_SameInts_L0 a_ b_ R again_ i w1 := ⟨_, fun _ _ h => h, hr i w1 hI⟩
      clear h0 hI
      unfold F_towpathlaw01_SameInts_L0 at h
      refine wpE_seq (x := c_towpathlaw01_SameInts_20) (y := c_towpathlaw01_SameInts_26) (by kernel_rfl) ?_
      refine wpE_seq (x := c_towpathlaw01_SameInts_21) (y := c_towpathlaw01_SameInts_23) (by kernel_rfl) ?_
      refine wpE_region (id := 4) (ops := r_towpathlaw01_SameInts_21) (by kernel_rfl) ?_
      refine reg_run [.plain, .plain, .plain, .plain] 4 [(0, [], Value.slice a_.ptr a_.len a_.cap), (1, [], Value.slice b_.ptr b_.len b_.cap), (5, [], Value.int .i64 i), (14, [], Value.bool (decide (i < ((a_.len : Nat) : Int))))] (by kernel_rfl) (by kernel_rfl) ?_
      refine reg_end [(0, Value.slice a_.ptr a_.len a_.cap), (1, Value.slice b_.ptr b_.len b_.cap), (5, Value.int .i64 i), (14, Value.bool (decide (i < ((a_.len : Nat) : Int))))] (by kernel_rfl) (by kernel_rfl) ?_
      change WpE _ _ c_towpathlaw01_SameInts_23 _ _ _
      refine wpE_cond (o := (Operand.tmp 14)) (b := (decide (i < ((a_.len : Nat) : Int)))) (x := c_towpathlaw01_SameInts_24) (y := c_towpathlaw01_SameInts_25) (by kernel_rfl) (by kernel_rfl) (fun hb => ?_) (fun hb => ?_)
      · replace h := h.1 hb
        refine wpE_skip (by kernel_rfl) ?_
        change WpE _ _ c_towpathlaw01_SameInts_26 _ _ _
        refine wpE_seq (x := c_towpathlaw01_SameInts_27) (y := c_towpathlaw01_SameInts_37) (by kernel_rfl) ?_
        refine wpE_block (id := 1) (x := c_towpathlaw01_SameInts_28) (by kernel_rfl) ?_
        refine wpE_seq (x := c_towpathlaw01_SameInts_29) (y := c_towpathlaw01_SameInts_31) (by kernel_rfl) ?_
        refine wpE_drawregion (id := 6) (ops := r_towpathlaw01_SameInts_29) (by kernel_rfl) (by kernel_rfl) (by kernel_rfl) ?_
        refine qreg_run [.plain, .plain] 2 [(0, [], Value.slice a_.ptr a_.len a_.cap), (1, [], Value.slice b_.ptr b_.len b_.cap), (5, [], Value.int .i64 i), (17, [], Value.slice a_.ptr a_.len a_.cap), (18, [], Value.int .i64 i)] (by kernel_rfl) (by kernel_rfl) ?_
        obtain ⟨hp_14, h⟩ := h
        refine qreg_conv [(0, [], Value.slice a_.ptr a_.len a_.cap), (1, [], Value.slice b_.ptr b_.len b_.cap), (5, [], Value.int .i64 i), (17, [], Value.slice (some ⟨(pblk a_.ptr), (poff a_.ptr), none⟩) a_.len a_.cap), (18, [], Value.int .i64 i)] (congrArg (fun pp => ([(0, [], Value.slice a_.ptr a_.len a_.cap), (1, [], Value.slice b_.ptr b_.len b_.cap), (5, [], Value.int .i64 i), (17, [], Value.slice pp a_.len a_.cap), (18, [], Value.int .i64 i)] : GEnv)) hp_14) ?_
        obtain ⟨h0, h1, h⟩ := h
        refine qreg_indexS1 (t := 63) (e := 3) (x := (Go.Operand.tmp 17)) (ix := (Go.Operand.tmp 18)) (b := (pblk a_.ptr)) (o := (poff a_.ptr)) (l := a_.len) (c := a_.cap) (k := .i64) (j := i) (ty := 0) (dst := some 19) (by kernel_rfl) (by kernel_rfl) (by kernel_rfl) (by kernel_rfl) (by kernel_rfl) h0 h1 ?_
        refine qreg_run [] 3 [(0, [], Value.slice a_.ptr a_.len a_.cap), (1, [], Value.slice b_.ptr b_.len b_.cap), (5, [], Value.int .i64 i), (19, [], Value.pointer (some ⟨(pblk a_.ptr), (poff a_.ptr) + i.toNat, none⟩))] (by kernel_rfl) (by kernel_rfl) ?_
        obtain ⟨v20, hc, h⟩ := h
        refine qreg_load1 (t := 3) (a := (Go.Operand.tmp 19)) (b := (pblk a_.ptr)) (o := ((poff a_.ptr) + i.toNat)) (ty := 3) (dst := some 20) (by kernel_rfl) (by kernel_rfl) (by kernel_rfl) hc ?_
        refine qreg_run [.plain, .plain] 6 [(0, [], Value.slice a_.ptr a_.len a_.cap), (1, [], Value.slice b_.ptr b_.len b_.cap), (5, [], Value.int .i64 i), (20, [], Value.int .i64 v20), (21, [], Value.slice b_.ptr b_.len b_.cap), (22, [], Value.int .i64 i)] (by kernel_rfl) (by kernel_rfl) ?_
        obtain ⟨hp_15, h⟩ := h
        refine qreg_conv [(0, [], Value.slice a_.ptr a_.len a_.cap), (1, [], Value.slice b_.ptr b_.len b_.cap), (5, [], Value.int .i64 i), (20, [], Value.int .i64 v20), (21, [], Value.slice (some ⟨(pblk b_.ptr), (poff b_.ptr), none⟩) b_.len b_.cap), (22, [], Value.int .i64 i)] (congrArg (fun pp => ([(0, [], Value.slice a_.ptr a_.len a_.cap), (1, [], Value.slice b_.ptr b_.len b_.cap), (5, [], Value.int .i64 i), (20, [], Value.int .i64 v20), (21, [], Value.slice pp b_.len b_.cap), (22, [], Value.int .i64 i)] : GEnv)) hp_15) ?_
        obtain ⟨h0, h1, h⟩ := h
        refine qreg_indexS1 (t := 63) (e := 3) (x := (Go.Operand.tmp 21)) (ix := (Go.Operand.tmp 22)) (b := (pblk b_.ptr)) (o := (poff b_.ptr)) (l := b_.len) (c := b_.cap) (k := .i64) (j := i) (ty := 0) (dst := some 23) (by kernel_rfl) (by kernel_rfl) (by kernel_rfl) (by kernel_rfl) (by kernel_rfl) h0 h1 ?_
        refine qreg_run [] 7 [(0, [], Value.slice a_.ptr a_.len a_.cap), (1, [], Value.slice b_.ptr b_.len b_.cap), (5, [], Value.int .i64 i), (20, [], Value.int .i64 v20), (23, [], Value.pointer (some ⟨(pblk b_.ptr), (poff b_.ptr) + i.toNat, none⟩))] (by kernel_rfl) (by kernel_rfl) ?_
        obtain ⟨v24, hc, h⟩ := h
        refine qreg_load1 (t := 3) (a := (Go.Operand.tmp 23)) (b := (pblk b_.ptr)) (o := ((poff b_.ptr) + i.toNat)) (ty := 3) (dst := some 24) (by kernel_rfl) (by kernel_rfl) (by kernel_rfl) hc ?_
        refine qreg_run [.plain] 9 [(0, [], Value.slice a_.ptr a_.len a_.cap), (1, [], Value.slice b_.ptr b_.len b_.cap), (5, [], Value.int .i64 i), (25, [], Value.bool (v20 != v24))] (by kernel_rfl) (by kernel_rfl) ?_
        refine qreg_end [(0, Value.slice a_.ptr a_.len a_.cap), (1, Value.slice b_.ptr b_.len b_.cap), (5, Value.int .i64 i), (25, Value.bool (v20 != v24))] (by kernel_rfl) (by kernel_rfl) (fun w2 hw => ?_)
        replace h := h w2 hw
        clear hw
        change WpE _ _ c_towpathlaw01_SameInts_31 _ _ _
        refine wpE_cond (o := (Operand.tmp 25)) (b := (v20 != v24)) (x := c_towpathlaw01_SameInts_32) (y := c_towpathlaw01_SameInts_36) (by kernel_rfl) (by kernel_rfl) (fun hb => ?_) (fun hb => ?_)
        · replace h := h.1 hb
          refine wpE_seq (x := c_towpathlaw01_SameInts_33) (y := c_towpathlaw01_SameInts_35) (by kernel_rfl) ?_
          refine wpE_region (id := 7) (ops := r_towpathlaw01_SameInts_33) (by kernel_rfl) ?_
          refine reg_run [.plain] 1 [(4, [], Value.bool false)] (by kernel_rfl) (by kernel_rfl) ?_
          refine reg_end [(4, Value.bool false)] (by kernel_rfl) (by kernel_rfl) ?_
          change WpE _ _ c_towpathlaw01_SameInts_35 _ _ _
          refine wpE_ret (by kernel_rfl) ?_
          repeat (first | refine seqQ_ret ?_ | refine blockQ_ret ?_ | refine loopQ_ret ?_ | refine cutQ_ret ?_)
          exact retS (rs := [(Go.ResultVar.tmp 4)]) (v := Value.bool false) (by kernel_rfl) (⟨by kernel_rfl, trivial⟩) ⟨false, rfl, h⟩
        · replace h := h.2 hb
          refine wpE_skip (by kernel_rfl) ?_
          change WpE _ _ c_towpathlaw01_SameInts_37 _ _ _
          refine wpE_region (id := 5) (ops := r_towpathlaw01_SameInts_37) (by kernel_rfl) ?_
          refine reg_run [.plain, .plain, .plain] 3 [(0, [], Value.slice a_.ptr a_.len a_.cap), (1, [], Value.slice b_.ptr b_.len b_.cap), (5, [], Value.int .i64 (IntKind.i64.wrap (i + 1)))] (by kernel_rfl) (by kernel_rfl) ?_
          refine reg_end [(0, Value.slice a_.ptr a_.len a_.cap), (1, Value.slice b_.ptr b_.len b_.cap), (5, Value.int .i64 (IntKind.i64.wrap (i + 1)))] (by kernel_rfl) (by kernel_rfl) ?_
          have hb_ := again__h _ _ h
          exact ⟨_, hb_.2, [(0, Value.slice a_.ptr a_.len a_.cap), (1, Value.slice b_.ptr b_.len b_.cap), (5, Value.int .i64 (IntKind.i64.wrap (i + 1)))], Sub.mk (by kernel_rfl), (IntKind.i64.wrap (i + 1)), rfl, hb_.1, rfl⟩
      · replace h := h.2 hb
        refine wpE_exit (id := 0) (by kernel_rfl) ?_
        change WpE _ _ c_towpathlaw01_SameInts_39 _ _ _
        refine wpE_seq (x := c_towpathlaw01_SameInts_40) (y := c_towpathlaw01_SameInts_42) (by kernel_rfl) ?_
        refine wpE_region (id := 8) (ops := r_towpathlaw01_SameInts_40) (by kernel_rfl) ?_
        refine reg_run [.plain] 1 [(4, [], Value.bool true)] (by kernel_rfl) (by kernel_rfl) ?_
        refine reg_end [(4, Value.bool true)] (by kernel_rfl) (by kernel_rfl) ?_
        change WpE _ _ c_towpathlaw01_SameInts_42 _ _ _
        refine wpE_ret (by kernel_rfl) ?_
        repeat (first | refine seqQ_ret ?_ | refine blockQ_ret ?_ | refine loopQ_ret ?_ | refine cutQ_ret ?_)
        exact retS (rs := [(Go.ResultVar.tmp 4)]) (v := Value.bool true) (by kernel_rfl) (⟨by kernel_rfl, trivial⟩) ⟨true, rfl, h⟩
  · rintro e w' ⟨v, rfl, r0, rfl, h⟩; exact ⟨r0, rfl, h⟩

/-! ### towpath/towpathlaw01.TwinWrites (function 83) -/
noncomputable def c_towpathlaw01_TwinWrites_0 : Code := (Try.f83.body).getD Code.skip
noncomputable def c_towpathlaw01_TwinWrites_1 : Code := Code.l c_towpathlaw01_TwinWrites_0
noncomputable def r_towpathlaw01_TwinWrites_1 : Array Oper := Code.ops c_towpathlaw01_TwinWrites_1
noncomputable def c_towpathlaw01_TwinWrites_3 : Code := Code.r c_towpathlaw01_TwinWrites_0
noncomputable def c_towpathlaw01_TwinWrites_4 : Code := Code.l c_towpathlaw01_TwinWrites_3
noncomputable def r_towpathlaw01_TwinWrites_4 : Array Oper := Code.ops c_towpathlaw01_TwinWrites_4
noncomputable def c_towpathlaw01_TwinWrites_6 : Code := Code.r c_towpathlaw01_TwinWrites_3
noncomputable def c_towpathlaw01_TwinWrites_7 : Code := Code.l c_towpathlaw01_TwinWrites_6
noncomputable def c_towpathlaw01_TwinWrites_8 : Code := Code.l c_towpathlaw01_TwinWrites_7
noncomputable def r_towpathlaw01_TwinWrites_8 : Array Oper := Code.ops c_towpathlaw01_TwinWrites_8
noncomputable def c_towpathlaw01_TwinWrites_10 : Code := Code.r c_towpathlaw01_TwinWrites_7
noncomputable def c_towpathlaw01_TwinWrites_11 : Code := Code.l c_towpathlaw01_TwinWrites_10
noncomputable def c_towpathlaw01_TwinWrites_12 : Code := Code.l c_towpathlaw01_TwinWrites_11
noncomputable def c_towpathlaw01_TwinWrites_13 : Code := Code.l c_towpathlaw01_TwinWrites_12
noncomputable def c_towpathlaw01_TwinWrites_14 : Code := Code.l c_towpathlaw01_TwinWrites_13
noncomputable def r_towpathlaw01_TwinWrites_14 : Array Oper := Code.ops c_towpathlaw01_TwinWrites_14
noncomputable def c_towpathlaw01_TwinWrites_16 : Code := Code.r c_towpathlaw01_TwinWrites_13
noncomputable def c_towpathlaw01_TwinWrites_17 : Code := Code.l c_towpathlaw01_TwinWrites_16
noncomputable def c_towpathlaw01_TwinWrites_18 : Code := Code.r c_towpathlaw01_TwinWrites_16
noncomputable def c_towpathlaw01_TwinWrites_19 : Code := Code.r c_towpathlaw01_TwinWrites_12
noncomputable def c_towpathlaw01_TwinWrites_20 : Code := Code.l c_towpathlaw01_TwinWrites_19
noncomputable def c_towpathlaw01_TwinWrites_21 : Code := Code.l c_towpathlaw01_TwinWrites_20
noncomputable def r_towpathlaw01_TwinWrites_21 : Array Oper := Code.ops c_towpathlaw01_TwinWrites_21
noncomputable def c_towpathlaw01_TwinWrites_23 : Code := Code.r c_towpathlaw01_TwinWrites_19
noncomputable def r_towpathlaw01_TwinWrites_23 : Array Oper := Code.ops c_towpathlaw01_TwinWrites_23
noncomputable def c_towpathlaw01_TwinWrites_25 : Code := Code.r c_towpathlaw01_TwinWrites_6
noncomputable def c_towpathlaw01_TwinWrites_26 : Code := Code.l c_towpathlaw01_TwinWrites_25
noncomputable def r_towpathlaw01_TwinWrites_26 : Array Oper := Code.ops c_towpathlaw01_TwinWrites_26
noncomputable def c_towpathlaw01_TwinWrites_28 : Code := Code.r c_towpathlaw01_TwinWrites_25

set_option maxRecDepth 100000 in
set_option maxHeartbeats 4000000 in
theorem S_towpathlaw01_TwinWrites {l_ : Slc} {w : World} {R : Slc → World → Prop} (h : F_towpathlaw01_TwinWrites l_ R w) : C_towpathlaw01_TwinWrites l_ w R := by
  unfold F_towpathlaw01_TwinWrites at h
  unfold C_towpathlaw01_TwinWrites
  refine Calls.mono (calls_of_wpE (args := [Value.slice l_.ptr l_.len l_.cap]) (R := fun v w' => ∃ (r0 : Slc), v = Value.slice r0.ptr r0.len r0.cap ∧ R r0 w') Try.func83 (c := c_towpathlaw01_TwinWrites_0) (by kernel_rfl) 29 (by kernel_rfl) (by kernel_rfl) [(0, Value.slice l_.ptr l_.len l_.cap)] (by kernel_rfl) ?_) ?_
  · refine wpE_seq (x := c_towpathlaw01_TwinWrites_1) (y := c_towpathlaw01_TwinWrites_3) (by kernel_rfl) ?_
    refine wpE_region (id := 0) (ops := r_towpathlaw01_TwinWrites_1) (by kernel_rfl) ?_
    refine reg_run [.plain] 1 [(0, [], Value.slice l_.ptr l_.len l_.cap)] (by kernel_rfl) (by kernel_rfl) ?_
    refine reg_end [(0, Value.slice l_.ptr l_.len l_.cap)] (by kernel_rfl) (by kernel_rfl) ?_
    change WpE _ _ c_towpathlaw01_TwinWrites_3 _ _ _
    refine wpE_seq (x := c_towpathlaw01_TwinWrites_4) (y := c_towpathlaw01_TwinWrites_6) (by kernel_rfl) ?_
    refine wpE_region (id := 1) (ops := r_towpathlaw01_TwinWrites_4) (by kernel_rfl) ?_
    refine reg_run [.plain, .plain, .plain] 3 [(0, [], Value.slice l_.ptr l_.len l_.cap), (7, [], Value.int .i64 (IntKind.i64.wrap (((l_.len : Nat) : Int) + 1)))] (by kernel_rfl) (by kernel_rfl) ?_
    obtain ⟨h0, h1, h2, h⟩ := h
    refine reg_makeSlice (t := 25) (e := 61) (lo := (Go.Operand.const (Go.Value.int Go.IntKind.i64 0))) (co := (Go.Operand.tmp 7)) (l := 0) (c := (IntKind.i64.wrap (((l_.len : Nat) : Int) + 1))) (sz := 3) (by_ := 40) (zs := [Value.string ByteArray.empty, Value.string ByteArray.empty, Value.bool false]) (ty := 25) (dst := some 8) (by kernel_rfl) (by kernel_rfl) (by kernel_rfl) (by kernel_rfl) (by kernel_rfl) (by kernel_rfl) (by kernel_rfl) (by kernel_rfl) (by kernel_rfl) h0 h1 h2 (fun b_ w1 hb hw => ?_)
    replace h := h b_ w1 hb hw
    clear hb hw
    refine reg_run [.plain] 5 [(0, [], Value.slice l_.ptr l_.len l_.cap), (3, [], Value.slice (some ⟨b_, 0, none⟩) 0 ((IntKind.i64.wrap (((l_.len : Nat) : Int) + 1)).toNat))] (by kernel_rfl) (by kernel_rfl) ?_
    refine reg_end [(0, Value.slice l_.ptr l_.len l_.cap), (3, Value.slice (some ⟨b_, 0, none⟩) 0 ((IntKind.i64.wrap (((l_.len : Nat) : Int) + 1)).toNat))] (by kernel_rfl) (by kernel_rfl) ?_
    change WpE _ _ c_towpathlaw01_TwinWrites_6 _ _ _
    refine wpE_seq (x := c_towpathlaw01_TwinWrites_7) (y := c_towpathlaw01_TwinWrites_25) (by kernel_rfl) ?_
    refine wpE_seq (x := c_towpathlaw01_TwinWrites_8) (y := c_towpathlaw01_TwinWrites_10) (by kernel_rfl) ?_
    refine wpE_region (id := 2) (ops := r_towpathlaw01_TwinWrites_8) (by kernel_rfl) ?_
    refine reg_run [.plain] 1 [(0, [], Value.slice l_.ptr l_.len l_.cap), (3, [], Value.slice (some ⟨b_, 0, none⟩) 0 ((IntKind.i64.wrap (((l_.len : Nat) : Int) + 1)).toNat)), (4, [], Value.int .i64 0)] (by kernel_rfl) (by kernel_rfl) ?_
    refine reg_end [(0, Value.slice l_.ptr l_.len l_.cap), (3, Value.slice (some ⟨b_, 0, none⟩) 0 ((IntKind.i64.wrap (((l_.len : Nat) : Int) + 1)).toNat)), (4, Value.int .i64 0)] (by kernel_rfl) (by kernel_rfl) ?_
    change WpE _ _ c_towpathlaw01_TwinWrites_10 _ _ _
    refine wpE_block (id := 0) (x := c_towpathlaw01_TwinWrites_11) (by kernel_rfl) ?_
    obtain ⟨I, μ, h0, hr⟩ := h
    refine wpE_loop (x := c_towpathlaw01_TwinWrites_12) (by kernel_rfl) (fun m l w => ∃ (t_ : Slc) (i : Int), l = [(0, Value.slice l_.ptr l_.len l_.cap), (3, Value.slice t_.ptr t_.len t_.cap), (4, Value.int .i64 i)] ∧ I t_ i w ∧ μ t_ i w = m) (l' := [(0, Value.slice l_.ptr l_.len l_.cap), (3, Value.slice (some ⟨b_, 0, none⟩) 0 ((IntKind.i64.wrap (((l_.len : Nat) : Int) + 1)).toNat)), (4, Value.int .i64 0)]) (Sub.mk (by kernel_rfl)) ⟨(Slc.mk (some ⟨b_, 0, none⟩) 0 ((IntKind.i64.wrap (((l_.len : Nat) : Int) + 1)).toNat)), 0, rfl, h0, rfl⟩ ?_
    rintro _ _ w2 ⟨t_, i, rfl, hI, rfl⟩
    obtain ⟨again_, again__h, h⟩ : ∃ again_ : Slc → Int → World → Prop, (∀ t_' i' w', again_ t_' i' w' → I t_' i' w' ∧ μ t_' i' w' < μ t_ i w2) ∧ F_towpathlaw01_TwinWrites_L0 l_ R again_ t_ i w2 := ⟨_, fun _ _ _ h => h, hr t_ i w2 hI⟩
    clear h0 hI
    unfold F_towpathlaw01_TwinWrites_L0 at h
    refine wpE_seq (x := c_towpathlaw01_TwinWrites_13) (y := c_towpathlaw01_TwinWrites_19) (by kernel_rfl) ?_
    refine wpE_seq (x := c_towpathlaw01_TwinWrites_14) (y := c_towpathlaw01_TwinWrites_16) (by kernel_rfl) ?_
    refine wpE_region (id := 3) (ops := r_towpathlaw01_TwinWrites_14) (by kernel_rfl) ?_
    refine reg_run [.plain, .plain, .plain, .plain] 4 [(0, [], Value.slice l_.ptr l_.len l_.cap), (3, [], Value.slice t_.ptr t_.len t_.cap), (4, [], Value.int .i64 i), (12, [], Value.bool (decide (i < ((l_.len : Nat) : Int))))] (by kernel_rfl) (by kernel_rfl) ?_
    refine reg_end [(0, Value.slice l_.ptr l_.len l_.cap), (3, Value.slice t_.ptr t_.len t_.cap), (4, Value.int .i64 i), (12, Value.bool (decide (i < ((l_.len : Nat) : Int))))] (by kernel_rfl) (by kernel_rfl) ?_
    change WpE _ _ c_towpathlaw01_TwinWrites_16 _ _ _
    refine wpE_cond (o := (Operand.tmp 12)) (b := (decide (i < ((l_.len : Nat) : Int)))) (x := c_towpathlaw01_TwinWrites_17) (y := c_towpathlaw01_TwinWrites_18) (by kernel_rfl) (by kernel_rfl) (fun hb => ?_) (fun hb => ?_)
    · replace h := h.1 hb
      refine wpE_skip (by kernel_rfl) ?_
      change WpE _ _ c_towpathlaw01_TwinWrites_19 _ _ _
      refine wpE_seq (x := c_towpathlaw01_TwinWrites_20) (y := c_towpathlaw01_TwinWrites_23) (by kernel_rfl) ?_
      refine wpE_block (id := 1) (x := c_towpathlaw01_TwinWrites_21) (by kernel_rfl) ?_
      refine wpE_region (id := 5) (ops := r_towpathlaw01_TwinWrites_21) (by kernel_rfl) ?_
      refine reg_run [.plain, .plain, .plain] 3 [(0, [], Value.slice l_.ptr l_.len l_.cap), (3, [], Value.slice t_.ptr t_.len t_.cap), (4, [], Value.int .i64 i), (15, [], Value.slice t_.ptr t_.len t_.cap), (16, [], Value.slice l_.ptr l_.len l_.cap), (17, [], Value.int .i64 i)] (by kernel_rfl) (by kernel_rfl) ?_
      obtain ⟨hp_3, h⟩ := h
      refine reg_conv [(0, [], Value.slice l_.ptr l_.len l_.cap), (3, [], Value.slice t_.ptr t_.len t_.cap), (4, [], Value.int .i64 i), (15, [], Value.slice t_.ptr t_.len t_.cap), (16, [], Value.slice (some ⟨(pblk l_.ptr), (poff l_.ptr), none⟩) l_.len l_.cap), (17, [], Value.int .i64 i)] (congrArg (fun pp => ([(0, [], Value.slice l_.ptr l_.len l_.cap), (3, [], Value.slice t_.ptr t_.len t_.cap), (4, [], Value.int .i64 i), (15, [], Value.slice t_.ptr t_.len t_.cap), (16, [], Value.slice pp l_.len l_.cap), (17, [], Value.int .i64 i)] : GEnv)) hp_3) ?_
      obtain ⟨h0, h1, h⟩ := h
      refine reg_indexS (t := 25) (e := 61) (x := (Go.Operand.tmp 16)) (ix := (Go.Operand.tmp 17)) (b := (pblk l_.ptr)) (o := (poff l_.ptr)) (l := l_.len) (c := l_.cap) (k := .i64) (j := i) (ty := 0) (dst := some 18) (sz := 3) (by kernel_rfl) (by kernel_rfl) (by kernel_rfl) (by kernel_rfl) (by kernel_rfl) h0 h1 ?_
      refine reg_run [] 4 [(0, [], Value.slice l_.ptr l_.len l_.cap), (3, [], Value.slice t_.ptr t_.len t_.cap), (4, [], Value.int .i64 i), (15, [], Value.slice t_.ptr t_.len t_.cap), (18, [], Value.pointer (some ⟨(pblk l_.ptr), (poff l_.ptr) + i.toNat * 3, none⟩))] (by kernel_rfl) (by kernel_rfl) ?_
      obtain ⟨v19, hc, h⟩ := h
      refine reg_loadN (t := 61) (a := (Go.Operand.tmp 18)) (b := (pblk l_.ptr)) (o := ((poff l_.ptr) + i.toNat * 3)) (ty := 61) (dst := some 19) [Value.string v19.Key, Value.string v19.Val, Value.bool v19.Drop] (by kernel_rfl) (by kernel_rfl) (by kernel_rfl) (k := 3) (by kernel_rfl) (by kernel_rfl) hc ?_
      refine reg_run [] 5 [(0, [], Value.slice l_.ptr l_.len l_.cap), (3, [], Value.slice t_.ptr t_.len t_.cap), (4, [], Value.int .i64 i), (15, [], Value.slice t_.ptr t_.len t_.cap), (19, [], Value.agg #[Value.string v19.Key, Value.string v19.Val, Value.bool v19.Drop])] (by kernel_rfl) (by kernel_rfl) ?_
      refine reg_new (op := (Go.Op.buildSlice 25 1 #[(0, (Go.Operand.tmp 19))])) (ty := 25) (dst := some 20) (fun bb => Value.slice (some ⟨bb, 0, none⟩) 1 1) (Obj.cells ([Value.string v19.Key, Value.string v19.Val, Value.bool v19.Drop]).toArray ty_api_Write (0, 0)) (by kernel_rfl) (by kernel_rfl) (fun b_1 w3 hb hw => ?_)
      replace h := h b_1 w3 hb hw
      clear hb hw
      refine reg_run [] 6 [(0, [], Value.slice l_.ptr l_.len l_.cap), (3, [], Value.slice t_.ptr t_.len t_.cap), (4, [], Value.int .i64 i), (15, [], Value.slice t_.ptr t_.len t_.cap), (20, [], Value.slice (some ⟨b_1, 0, none⟩) 1 1)] (by kernel_rfl) (by kernel_rfl) ?_
      obtain ⟨src, hs, h⟩ := h
      refine reg_append (t := 25) (tx := 25) (e := 61) (a := (Go.Operand.tmp 15)) (xo := (Go.Operand.tmp 20)) (s := t_) (x := (Slc.mk (some ⟨b_1, 0, none⟩) 1 1)) (sz := 3) (by_ := 40) (zs := [Value.string ByteArray.empty, Value.string ByteArray.empty, Value.bool false]) (ty := 25) (dst := some 21)  src (by kernel_rfl) (by kernel_rfl) (by kernel_rfl) (by kernel_rfl) (by kernel_rfl) (by kernel_rfl) (by kernel_rfl) (by kernel_rfl) (by kernel_rfl) hs (AppendW.mono h (fun t_1 w4 h => ?_))
      refine reg_run [.plain] 8 [(0, [], Value.slice l_.ptr l_.len l_.cap), (3, [], Value.slice t_1.ptr t_1.len t_1.cap), (4, [], Value.int .i64 i)] (by kernel_rfl) (by kernel_rfl) ?_
      refine reg_end [(0, Value.slice l_.ptr l_.len l_.cap), (3, Value.slice t_1.ptr t_1.len t_1.cap), (4, Value.int .i64 i)] (by kernel_rfl) (by kernel_rfl) ?_
      change WpE _ _ c_towpathlaw01_TwinWrites_23 _ _ _
      refine wpE_region (id := 4) (ops := r_towpathlaw01_TwinWrites_23) (by kernel_rfl) ?_
      refine reg_run [.plain, .plain, .plain] 3 [(0, [], Value.slice l_.ptr l_.len l_.cap), (3, [], Value.slice t_1.ptr t_1.len t_1.cap), (4, [], Value.int .i64 (IntKind.i64.wrap (i + 1)))] (by kernel_rfl) (by kernel_rfl) ?_
      refine reg_end [(0, Value.slice l_.ptr l_.len l_.cap), (3, Value.slice t_1.ptr t_1.len t_1.cap), (4, Value.int .i64 (IntKind.i64.wrap (i + 1)))] (by kernel_rfl) (by kernel_rfl) ?_
      have hb_ := again__h _ _ _ h
      exact ⟨_, hb_.2, [(0, Value.slice l_.ptr l_.len l_.cap), (3, Value.slice t_1.ptr t_1.len t_1.cap), (4, Value.int .i64 (IntKind.i64.wrap (i + 1)))], Sub.mk (by kernel_rfl), t_1, (IntKind.i64.wrap (i + 1)), rfl, hb_.1, rfl⟩
    · replace h := h.2 hb
      refine wpE_exit (id := 0) (by kernel_rfl) ?_
      change WpE _ _ c_towpathlaw01_TwinWrites_25 _ _ _
      refine wpE_seq (x := c_towpathlaw01_TwinWrites_26) (y := c_towpathlaw01_TwinWrites_28) (by kernel_rfl) ?_
      refine wpE_region (id := 6) (ops := r_towpathlaw01_TwinWrites_26) (by kernel_rfl) ?_
      refine reg_run [.plain, .plain] 2 [(0, [], Value.slice l_.ptr l_.len l_.cap), (22, [], Value.slice t_.ptr t_.len t_.cap), (23, [], Value.agg #[Value.string (ByteArray.mk #[115, 112, 97, 114, 101]), Value.string ByteArray.empty, Value.bool false])] (by kernel_rfl) (by kernel_rfl) ?_
      refine reg_new (op := (Go.Op.buildSlice 25 1 #[(0, (Go.Operand.tmp 23))])) (ty := 25) (dst := some 24) (fun bb => Value.slice (some ⟨bb, 0, none⟩) 1 1) (Obj.cells ([Value.string (ByteArray.mk #[115, 112, 97, 114, 101]), Value.string ByteArray.empty, Value.bool false]).toArray ty_api_Write (0, 0)) (by kernel_rfl) (by kernel_rfl) (fun b_2 w5 hb hw => ?_)
      replace h := h b_2 w5 hb hw
      clear hb hw
      refine reg_run [] 3 [(0, [], Value.slice l_.ptr l_.len l_.cap), (22, [], Value.slice t_.ptr t_.len t_.cap), (24, [], Value.slice (some ⟨b_2, 0, none⟩) 1 1)] (by kernel_rfl) (by kernel_rfl) ?_
      obtain ⟨src, hs, h⟩ := h
      refine reg_append (t := 25) (tx := 25) (e := 61) (a := (Go.Operand.tmp 22)) (xo := (Go.Operand.tmp 24)) (s := t_) (x := (Slc.mk (some ⟨b_2, 0, none⟩) 1 1)) (sz := 3) (by_ := 40) (zs := [Value.string ByteArray.empty, Value.string ByteArray.empty, Value.bool false]) (ty := 25) (dst := some 25)  src (by kernel_rfl) (by kernel_rfl) (by kernel_rfl) (by kernel_rfl) (by kernel_rfl) (by kernel_rfl) (by kernel_rfl) (by kernel_rfl) (by kernel_rfl) hs (AppendW.mono h (fun v25 w6 h => ?_))
      refine reg_run [.plain, .plain] 6 [(25, [], Value.slice v25.ptr v25.len v25.cap), (27, [], Value.int .i64 ((l_.len : Nat) : Int))] (by kernel_rfl) (by kernel_rfl) ?_
      obtain ⟨h0, h1, h⟩ := h
      refine reg_sliceHi (t := 25) (e := 61) (x := (Go.Operand.tmp 25)) (hi := (Go.Operand.tmp 27)) (p := v25.ptr) (l := v25.len) (c := v25.cap) (sz := 3) (k := .i64) (j := ((l_.len : Nat) : Int)) (ty := 25) (dst := some 28) (by kernel_rfl) (by kernel_rfl) (by kernel_rfl) (by kernel_rfl) (by kernel_rfl) h0 h1 ?_
      refine reg_run [.plain] 8 [(2, [], Value.slice v25.ptr (((l_.len : Nat) : Int).toNat) v25.cap)] (by kernel_rfl) (by kernel_rfl) ?_
      refine reg_end [(2, Value.slice v25.ptr (((l_.len : Nat) : Int).toNat) v25.cap)] (by kernel_rfl) (by kernel_rfl) ?_
      change WpE _ _ c_towpathlaw01_TwinWrites_28 _ _ _
      refine wpE_ret (by kernel_rfl) ?_
      repeat (first | refine seqQ_ret ?_ | refine blockQ_ret ?_ | refine loopQ_ret ?_ | refine cutQ_ret ?_)
      exact retS (rs := [(Go.ResultVar.tmp 2)]) (v := Value.slice v25.ptr (((l_.len : Nat) : Int).toNat) v25.cap) (by kernel_rfl) (⟨by kernel_rfl, trivial⟩) ⟨(Slc.mk v25.ptr (((l_.len : Nat) : Int).toNat) v25.cap), rfl, h⟩
  · rintro e w' ⟨v, rfl, r0, rfl, h⟩; exact ⟨r0, rfl, h⟩

/-! ### towpath/towpathlaw01.LeftWrites (function 86) -/
noncomputable def c_towpathlaw01_LeftWrites_0 : Code := (Try.f86.body).getD Code.skip
noncomputable def c_towpathlaw01_LeftWrites_1 : Code := Code.l c_towpathlaw01_LeftWrites_0
noncomputable def r_towpathlaw01_LeftWrites_1 : Array Oper := Code.ops c_towpathlaw01_LeftWrites_1
noncomputable def c_towpathlaw01_LeftWrites_3 : Code := Code.r c_towpathlaw01_LeftWrites_0
noncomputable def c_towpathlaw01_LeftWrites_4 : Code := Code.l c_towpathlaw01_LeftWrites_3
noncomputable def c_towpathlaw01_LeftWrites_5 : Code := Code.l c_towpathlaw01_LeftWrites_4
noncomputable def r_towpathlaw01_LeftWrites_5 : Array Oper := Code.ops c_towpathlaw01_LeftWrites_5
noncomputable def c_towpathlaw01_LeftWrites_7 : Code := Code.r c_towpathlaw01_LeftWrites_4
noncomputable def c_towpathlaw01_LeftWrites_8 : Code := Code.l c_towpathlaw01_LeftWrites_7
noncomputable def c_towpathlaw01_LeftWrites_9 : Code := Code.l c_towpathlaw01_LeftWrites_8
noncomputable def r_towpathlaw01_LeftWrites_9 : Array Oper := Code.ops c_towpathlaw01_LeftWrites_9
noncomputable def c_towpathlaw01_LeftWrites_11 : Code := Code.r c_towpathlaw01_LeftWrites_8
noncomputable def c_towpathlaw01_LeftWrites_12 : Code := Code.r c_towpathlaw01_LeftWrites_7
noncomputable def c_towpathlaw01_LeftWrites_13 : Code := Code.r c_towpathlaw01_LeftWrites_3
noncomputable def c_towpathlaw01_LeftWrites_14 : Code := Code.l c_towpathlaw01_LeftWrites_13
noncomputable def c_towpathlaw01_LeftWrites_15 : Code := Code.l c_towpathlaw01_LeftWrites_14
noncomputable def r_towpathlaw01_LeftWrites_15 : Array Oper := Code.ops c_towpathlaw01_LeftWrites_15
noncomputable def c_towpathlaw01_LeftWrites_17 : Code := Code.r c_towpathlaw01_LeftWrites_14
noncomputable def c_towpathlaw01_LeftWrites_18 : Code := Code.l c_towpathlaw01_LeftWrites_17
noncomputable def c_towpathlaw01_LeftWrites_19 : Code := Code.l c_towpathlaw01_LeftWrites_18
noncomputable def c_towpathlaw01_LeftWrites_20 : Code := Code.l c_towpathlaw01_LeftWrites_19
noncomputable def c_towpathlaw01_LeftWrites_21 : Code := Code.l c_towpathlaw01_LeftWrites_20
noncomputable def r_towpathlaw01_LeftWrites_21 : Array Oper := Code.ops c_towpathlaw01_LeftWrites_21
noncomputable def c_towpathlaw01_LeftWrites_23 : Code := Code.r c_towpathlaw01_LeftWrites_20
noncomputable def c_towpathlaw01_LeftWrites_24 : Code := Code.l c_towpathlaw01_LeftWrites_23
noncomputable def c_towpathlaw01_LeftWrites_25 : Code := Code.r c_towpathlaw01_LeftWrites_23
noncomputable def c_towpathlaw01_LeftWrites_26 : Code := Code.r c_towpathlaw01_LeftWrites_19
noncomputable def c_towpathlaw01_LeftWrites_27 : Code := Code.l c_towpathlaw01_LeftWrites_26
noncomputable def c_towpathlaw01_LeftWrites_28 : Code := Code.l c_towpathlaw01_LeftWrites_27
noncomputable def c_towpathlaw01_LeftWrites_29 : Code := Code.l c_towpathlaw01_LeftWrites_28
noncomputable def r_towpathlaw01_LeftWrites_29 : Array Oper := Code.ops c_towpathlaw01_LeftWrites_29
noncomputable def c_towpathlaw01_LeftWrites_31 : Code := Code.r c_towpathlaw01_LeftWrites_28
noncomputable def c_towpathlaw01_LeftWrites_32 : Code := Code.l c_towpathlaw01_LeftWrites_31
noncomputable def c_towpathlaw01_LeftWrites_33 : Code := Code.l c_towpathlaw01_LeftWrites_32
noncomputable def r_towpathlaw01_LeftWrites_33 : Array Oper := Code.ops c_towpathlaw01_LeftWrites_33
noncomputable def c_towpathlaw01_LeftWrites_35 : Code := Code.r c_towpathlaw01_LeftWrites_32
noncomputable def c_towpathlaw01_LeftWrites_36 : Code := Code.r c_towpathlaw01_LeftWrites_31
noncomputable def c_towpathlaw01_LeftWrites_37 : Code := Code.r c_towpathlaw01_LeftWrites_26
noncomputable def r_towpathlaw01_LeftWrites_37 : Array Oper := Code.ops c_towpathlaw01_LeftWrites_37
noncomputable def c_towpathlaw01_LeftWrites_39 : Code := Code.r c_towpathlaw01_LeftWrites_13
noncomputable def c_towpathlaw01_LeftWrites_40 : Code := Code.l c_towpathlaw01_LeftWrites_39
noncomputable def r_towpathlaw01_LeftWrites_40 : Array Oper := Code.ops c_towpathlaw01_LeftWrites_40
noncomputable def c_towpathlaw01_LeftWrites_42 : Code := Code.r c_towpathlaw01_LeftWrites_39
noncomputable def c_towpathlaw01_LeftWrites_43 : Code := Code.l c_towpathlaw01_LeftWrites_42
noncomputable def r_towpathlaw01_LeftWrites_43 : Array Oper := Code.ops c_towpathlaw01_LeftWrites_43
noncomputable def c_towpathlaw01_LeftWrites_45 : Code := Code.r c_towpathlaw01_LeftWrites_42

set_option maxRecDepth 100000 in
set_option maxHeartbeats 4000000 in
theorem S_towpathlaw01_LeftWrites {t_ : Slc} {l_ : Slc} {w : World} {R : Bool → World → Prop} (h : F_towpathlaw01_LeftWrites t_ l_ R w) : C_towpathlaw01_LeftWrites t_ l_ w R := by
  unfold F_towpathlaw01_LeftWrites at h
  unfold C_towpathlaw01_LeftWrites
  refine Calls.mono (calls_of_wpE (args := [Value.slice t_.ptr t_.len t_.cap, Value.slice l_.ptr l_.len l_.cap]) (R := fun v w' => ∃ (r0 : Bool), v = Value.bool r0 ∧ R r0 w') Try.func86 (c := c_towpathlaw01_LeftWrites_0) (by kernel_rfl) 46 (by kernel_rfl) (by kernel_rfl) [(0, Value.slice t_.ptr t_.len t_.cap), (1, Value.slice l_.ptr l_.len l_.cap)] (by kernel_rfl) ?_) ?_
  · refine wpE_seq (x := c_towpathlaw01_LeftWrites_1) (y := c_towpathlaw01_LeftWrites_3) (by kernel_rfl) ?_
    refine wpE_region (id := 0) (ops := r_towpathlaw01_LeftWrites_1) (by kernel_rfl) ?_
    refine reg_run [.plain] 1 [(0, [], Value.slice t_.ptr t_.len t_.cap), (1, [], Value.slice l_.ptr l_.len l_.cap)] (by kernel_rfl) (by kernel_rfl) ?_
    refine reg_end [(0, Value.slice t_.ptr t_.len t_.cap), (1, Value.slice l_.ptr l_.len l_.cap)] (by kernel_rfl) (by kernel_rfl) ?_
    change WpE _ _ c_towpathlaw01_LeftWrites_3 _ _ _
    refine wpE_seq (x := c_towpathlaw01_LeftWrites_4) (y := c_towpathlaw01_LeftWrites_13) (by kernel_rfl) ?_
    refine wpE_seq (x := c_towpathlaw01_LeftWrites_5) (y := c_towpathlaw01_LeftWrites_7) (by kernel_rfl) ?_
    refine wpE_region (id := 1) (ops := r_towpathlaw01_LeftWrites_5) (by kernel_rfl) ?_
    refine reg_run [.plain, .plain, .plain, .plain, .plain, .plain, .plain, .plain, .plain, .plain, .plain, .pick] 12 [(0, [], Value.slice t_.ptr t_.len t_.cap), (1, [], Value.slice l_.ptr l_.len l_.cap), (18, [], Value.bool ((((t_.len : Nat) : Int) != ((l_.len : Nat) : Int)) || (decide (((t_.cap : Nat) : Int) ≤ ((l_.len : Nat) : Int)))))] (by kernel_rfl) (by kernel_rfl) ?_
    refine reg_end [(0, Value.slice t_.ptr t_.len t_.cap), (1, Value.slice l_.ptr l_.len l_.cap), (18, Value.bool ((((t_.len : Nat) : Int) != ((l_.len : Nat) : Int)) || (decide (((t_.cap : Nat) : Int) ≤ ((l_.len : Nat) : Int)))))] (by kernel_rfl) (by kernel_rfl) ?_
    change WpE _ _ c_towpathlaw01_LeftWrites_7 _ _ _
    refine wpE_cond (o := (Operand.tmp 18)) (b := ((((t_.len : Nat) : Int) != ((l_.len : Nat) : Int)) || (decide (((t_.cap : Nat) : Int) ≤ ((l_.len : Nat) : Int))))) (x := c_towpathlaw01_LeftWrites_8) (y := c_towpathlaw01_LeftWrites_12) (by kernel_rfl) (by kernel_rfl) (fun hb => ?_) (fun hb => ?_)
    · replace h := h.1 hb
      refine wpE_seq (x := c_towpathlaw01_LeftWrites_9) (y := c_towpathlaw01_LeftWrites_11) (by kernel_rfl) ?_
      refine wpE_region (id := 2) (ops := r_towpathlaw01_LeftWrites_9) (by kernel_rfl) ?_
      refine reg_run [.plain] 1 [(4, [], Value.bool false)] (by kernel_rfl) (by kernel_rfl) ?_
      refine reg_end [(4, Value.bool false)] (by kernel_rfl) (by kernel_rfl) ?_
      change WpE _ _ c_towpathlaw01_LeftWrites_11 _ _ _
      refine wpE_ret (by kernel_rfl) ?_
      repeat (first | refine seqQ_ret ?_ | refine blockQ_ret ?_ | refine loopQ_ret ?_ | refine cutQ_ret ?_)
      exact retS (rs := [(Go.ResultVar.tmp 4)]) (v := Value.bool false) (by kernel_rfl) (⟨by kernel_rfl, trivial⟩) ⟨false, rfl, h⟩
    · replace h := h.2 hb
      refine wpE_skip (by kernel_rfl) ?_
      change WpE _ _ c_towpathlaw01_LeftWrites_13 _ _ _
      refine wpE_seq (x := c_towpathlaw01_LeftWrites_14) (y := c_towpathlaw01_LeftWrites_39) (by kernel_rfl) ?_
      refine wpE_seq (x := c_towpathlaw01_LeftWrites_15) (y := c_towpathlaw01_LeftWrites_17) (by kernel_rfl) ?_
      refine wpE_region (id := 3) (ops := r_towpathlaw01_LeftWrites_15) (by kernel_rfl) ?_
      refine reg_run [.plain] 1 [(0, [], Value.slice t_.ptr t_.len t_.cap), (1, [], Value.slice l_.ptr l_.len l_.cap), (5, [], Value.int .i64 0)] (by kernel_rfl) (by kernel_rfl) ?_
      refine reg_end [(0, Value.slice t_.ptr t_.len t_.cap), (1, Value.slice l_.ptr l_.len l_.cap), (5, Value.int .i64 0)] (by kernel_rfl) (by kernel_rfl) ?_
      change WpE _ _ c_towpathlaw01_LeftWrites_17 _ _ _
      refine wpE_block (id := 0) (x := c_towpathlaw01_LeftWrites_18) (by kernel_rfl) ?_
      obtain ⟨I, μ, h0, hr⟩ := h
      refine wpE_loop (x := c_towpathlaw01_LeftWrites_19) (by kernel_rfl) (fun m l w => ∃ (i : Int), l = [(0, Value.slice t_.ptr t_.len t_.cap), (1, Value.slice l_.ptr l_.len l_.cap), (5, Value.int .i64 i)] ∧ I i w ∧ μ i w = m) (l' := [(0, Value.slice t_.ptr t_.len t_.cap), (1, Value.slice l_.ptr l_.len l_.cap), (5, Value.int .i64 0)]) (Sub.mk (by kernel_rfl)) ⟨0, rfl, h0, rfl⟩ ?_
      rintro _ _ w1 ⟨i, rfl, hI, rfl⟩
      obtain ⟨again_, again__h, h⟩ : ∃ again_ : Int → World → Prop, (∀ i' w', again_ i' w' → I i' w' ∧ μ i' w' < μ i w1) ∧ F_towpathlaw01_LeftWrites_L0 t_ l_ R again_ i w1 := ⟨_, fun _ _ h => h, hr i w1 hI⟩
      clear h0 hI
      unfold F_towpathlaw01_LeftWrites_L0 at h
      refine wpE_seq (x := c_towpathlaw01_LeftWrites_20) (y := c_towpathlaw01_LeftWrites_26) (by kernel_rfl) ?_
      refine wpE_seq (x := c_towpathlaw01_LeftWrites_21) (y := c_towpathlaw01_LeftWrites_23) (by kernel_rfl) ?_
      refine wpE_region (id := 4) (ops := r_towpathlaw01_LeftWrites_21) (by kernel_rfl) ?_
      refine reg_run [.plain, .plain, .plain, .plain] 4 [(0, [], Value.slice t_.ptr t_.len t_.cap), (1, [], Value.slice l_.ptr l_.len l_.cap), (5, [], Value.int .i64 i), (22, [], Value.bool (decide (i < ((l_.len : Nat) : Int))))] (by kernel_rfl) (by kernel_rfl) ?_
      refine reg_end [(0, Value.slice t_.ptr t_.len t_.cap), (1, Value.slice l_.ptr l_.len l_.cap), (5, Value.int .i64 i), (22, Value.bool (decide (i < ((l_.len : Nat) : Int))))] (by kernel_rfl) (by kernel_rfl) ?_
      change WpE _ _ c_towpathlaw01_LeftWrites_23 _ _ _
      refine wpE_cond (o := (Operand.tmp 22)) (b := (decide (i < ((l_.len : Nat) : Int)))) (x := c_towpathlaw01_LeftWrites_24) (y := c_towpathlaw01_LeftWrites_25) (by kernel_rfl) (by kernel_rfl) (fun hb => ?_) (fun hb => ?_)
      · replace h := h.1 hb
        refine wpE_skip (by kernel_rfl) ?_
        change WpE _ _ c_towpathlaw01_LeftWrites_26 _ _ _
        refine wpE_seq (x := c_towpathlaw01_LeftWrites_27) (y := c_towpathlaw01_LeftWrites_37) (by kernel_rfl) ?_
        refine wpE_block (id := 1) (x := c_towpathlaw01_LeftWrites_28) (by kernel_rfl) ?_
        refine wpE_seq (x := c_towpathlaw01_LeftWrites_29) (y := c_towpathlaw01_LeftWrites_31) (by kernel_rfl) ?_
        refine wpE_drawregion (id := 6) (ops := r_towpathlaw01_LeftWrites_29) (by kernel_rfl) (by kernel_rfl) (by kernel_rfl) ?_
        refine qreg_run [.plain, .plain] 2 [(0, [], Value.slice t_.ptr t_.len t_.cap), (1, [], Value.slice l_.ptr l_.len l_.cap), (5, [], Value.int .i64 i), (25, [], Value.slice t_.ptr t_.len t_.cap), (26, [], Value.int .i64 i)] (by kernel_rfl) (by kernel_rfl) ?_
        obtain ⟨hp_14, h⟩ := h
        refine qreg_conv [(0, [], Value.slice t_.ptr t_.len t_.cap), (1, [], Value.slice l_.ptr l_.len l_.cap), (5, [], Value.int .i64 i), (25, [], Value.slice (some ⟨(pblk t_.ptr), (poff t_.ptr), none⟩) t_.len t_.cap), (26, [], Value.int .i64 i)] (congrArg (fun pp => ([(0, [], Value.slice t_.ptr t_.len t_.cap), (1, [], Value.slice l_.ptr l_.len l_.cap), (5, [], Value.int .i64 i), (25, [], Value.slice pp t_.len t_.cap), (26, [], Value.int .i64 i)] : GEnv)) hp_14) ?_
        obtain ⟨h0, h1, h⟩ := h
        refine qreg_indexS (t := 25) (e := 61) (x := (Go.Operand.tmp 25)) (ix := (Go.Operand.tmp 26)) (b := (pblk t_.ptr)) (o := (poff t_.ptr)) (l := t_.len) (c := t_.cap) (k := .i64) (j := i) (ty := 0) (dst := some 27) (sz := 3) (by kernel_rfl) (by kernel_rfl) (by kernel_rfl) (by kernel_rfl) (by kernel_rfl) h0 h1 ?_
        refine qreg_run [] 3 [(0, [], Value.slice t_.ptr t_.len t_.cap), (1, [], Value.slice l_.ptr l_.len l_.cap), (5, [], Value.int .i64 i), (27, [], Value.pointer (some ⟨(pblk t_.ptr), (poff t_.ptr) + i.toNat * 3, none⟩))] (by kernel_rfl) (by kernel_rfl) ?_
        obtain ⟨v28, hc, h⟩ := h
        refine qreg_loadN (t := 61) (a := (Go.Operand.tmp 27)) (b := (pblk t_.ptr)) (o := ((poff t_.ptr) + i.toNat * 3)) (ty := 61) (dst := some 28) [Value.string v28.Key, Value.string v28.Val, Value.bool v28.Drop] (by kernel_rfl) (by kernel_rfl) (by kernel_rfl) (k := 3) (by kernel_rfl) (by kernel_rfl) hc ?_
        refine qreg_run [.plain, .plain] 6 [(0, [], Value.slice t_.ptr t_.len t_.cap), (1, [], Value.slice l_.ptr l_.len l_.cap), (5, [], Value.int .i64 i), (28, [], Value.agg #[Value.string v28.Key, Value.string v28.Val, Value.bool v28.Drop]), (29, [], Value.slice l_.ptr l_.len l_.cap), (30, [], Value.int .i64 i)] (by kernel_rfl) (by kernel_rfl) ?_
        obtain ⟨hp_15, h⟩ := h
        refine qreg_conv [(0, [], Value.slice t_.ptr t_.len t_.cap), (1, [], Value.slice l_.ptr l_.len l_.cap), (5, [], Value.int .i64 i), (28, [], Value.agg #[Value.string v28.Key, Value.string v28.Val, Value.bool v28.Drop]), (29, [], Value.slice (some ⟨(pblk l_.ptr), (poff l_.ptr), none⟩) l_.len l_.cap), (30, [], Value.int .i64 i)] (congrArg (fun pp => ([(0, [], Value.slice t_.ptr t_.len t_.cap), (1, [], Value.slice l_.ptr l_.len l_.cap), (5, [], Value.int .i64 i), (28, [], Value.agg #[Value.string v28.Key, Value.string v28.Val, Value.bool v28.Drop]), (29, [], Value.slice pp l_.len l_.cap), (30, [], Value.int .i64 i)] : GEnv)) hp_15) ?_
        obtain ⟨h0, h1, h⟩ := h
        refine qreg_indexS (t := 25) (e := 61) (x := (Go.Operand.tmp 29)) (ix := (Go.Operand.tmp 30)) (b := (pblk l_.ptr)) (o := (poff l_.ptr)) (l := l_.len) (c := l_.cap) (k := .i64) (j := i) (ty := 0) (dst := some 31) (sz := 3) (by kernel_rfl) (by kernel_rfl) (by kernel_rfl) (by kernel_rfl) (by kernel_rfl) h0 h1 ?_
        refine qreg_run [] 7 [(0, [], Value.slice t_.ptr t_.len t_.cap), (1, [], Value.slice l_.ptr l_.len l_.cap), (5, [], Value.int .i64 i), (28, [], Value.agg #[Value.string v28.Key, Value.string v28.Val, Value.bool v28.Drop]), (31, [], Value.pointer (some ⟨(pblk l_.ptr), (poff l_.ptr) + i.toNat * 3, none⟩))] (by kernel_rfl) (by kernel_rfl) ?_
        obtain ⟨v32, hc, h⟩ := h
        refine qreg_loadN (t := 61) (a := (Go.Operand.tmp 31)) (b := (pblk l_.ptr)) (o := ((poff l_.ptr) + i.toNat * 3)) (ty := 61) (dst := some 32) [Value.string v32.Key, Value.string v32.Val, Value.bool v32.Drop] (by kernel_rfl) (by kernel_rfl) (by kernel_rfl) (k := 3) (by kernel_rfl) (by kernel_rfl) hc ?_
        refine qreg_run [] 8 [(0, [], Value.slice t_.ptr t_.len t_.cap), (1, [], Value.slice l_.ptr l_.len l_.cap), (5, [], Value.int .i64 i), (28, [], Value.agg #[Value.string v28.Key, Value.string v28.Val, Value.bool v28.Drop]), (32, [], Value.agg #[Value.string v32.Key, Value.string v32.Val, Value.bool v32.Drop])] (by kernel_rfl) (by kernel_rfl) ?_
        refine qreg_val (op := (Go.Op.binOp Go.BinOp.neq 61 (Go.Operand.tmp 28) (Go.Operand.tmp 32) 61)) (ty := 4) (dst := some 33) (Value.bool (!(((v28.Key == v32.Key) && (v28.Val == v32.Val)) && (v28.Drop == v32.Drop)))) (by kernel_rfl) (fun ww => run_struct_neq (xs := [Value.string v28.Key, Value.string v28.Val, Value.bool v28.Drop]) (ys := [Value.string v32.Key, Value.string v32.Val, Value.bool v32.Drop]) (by kernel_rfl) (by kernel_rfl) (by kernel_rfl) (by kernel_rfl) (by kernel_rfl) ww) ?_
        refine qreg_end [(0, Value.slice t_.ptr t_.len t_.cap), (1, Value.slice l_.ptr l_.len l_.cap), (5, Value.int .i64 i), (33, Value.bool (!(((v28.Key == v32.Key) && (v28.Val == v32.Val)) && (v28.Drop == v32.Drop))))] (by kernel_rfl) (by kernel_rfl) (fun w2 hw => ?_)
        replace h := h w2 hw
        clear hw
        change WpE _ _ c_towpathlaw01_LeftWrites_31 _ _ _
        refine wpE_cond (o := (Operand.tmp 33)) (b := (!(((v28.Key == v32.Key) && (v28.Val == v32.Val)) && (v28.Drop == v32.Drop)))) (x := c_towpathlaw01_LeftWrites_32) (y := c_towpathlaw01_LeftWrites_36) (by kernel_rfl) (by kernel_rfl) (fun hb => ?_) (fun hb => ?_)
        · replace h := h.1 hb
          refine wpE_seq (x := c_towpathlaw01_LeftWrites_33) (y := c_towpathlaw01_LeftWrites_35) (by kernel_rfl) ?_
          refine wpE_region (id := 7) (ops := r_towpathlaw01_LeftWrites_33) (by kernel_rfl) ?_
          refine reg_run [.plain] 1 [(4, [], Value.bool false)] (by kernel_rfl) (by kernel_rfl) ?_
          refine reg_end [(4, Value.bool false)] (by kernel_rfl) (by kernel_rfl) ?_
          change WpE _ _ c_towpathlaw01_LeftWrites_35 _ _ _
          refine wpE_ret (by kernel_rfl) ?_
          repeat (first | refine seqQ_ret ?_ | refine blockQ_ret ?_ | refine loopQ_ret ?_ | refine cutQ_ret ?_)
          exact retS (rs := [(Go.ResultVar.tmp 4)]) (v := Value.bool false) (by kernel_rfl) (⟨by kernel_rfl, trivial⟩) ⟨false, rfl, h⟩
        · replace h := h.2 hb
          refine wpE_skip (by kernel_rfl) ?_
          change WpE _ _ c_towpathlaw01_LeftWrites_37 _ _ _
          refine wpE_region (id := 5) (ops := r_towpathlaw01_LeftWrites_37) (by kernel_rfl) ?_
          refine reg_run [.plain, .plain, .plain] 3 [(0, [], Value.slice t_.ptr t_.len t_.cap), (1, [], Value.slice l_.ptr l_.len l_.cap), (5, [], Value.int .i64 (IntKind.i64.wrap (i + 1)))] (by kernel_rfl) (by kernel_rfl) ?_
          refine reg_end [(0, Value.slice t_.ptr t_.len t_.cap), (1, Value.slice l_.ptr l_.len l_.cap), (5, Value.int .i64 (IntKind.i64.wrap (i + 1)))] (by kernel_rfl) (by kernel_rfl) ?_
          have hb_ := again__h _ _ h
          exact ⟨_, hb_.2, [(0, Value.slice t_.ptr t_.len t_.cap), (1, Value.slice l_.ptr l_.len l_.cap), (5, Value.int .i64 (IntKind.i64.wrap (i + 1)))], Sub.mk (by kernel_rfl), (IntKind.i64.wrap (i + 1)), rfl, hb_.1, rfl⟩
      · replace h := h.2 hb
        refine wpE_exit (id := 0) (by kernel_rfl) ?_
        change WpE _ _ c_towpathlaw01_LeftWrites_39 _ _ _
        refine wpE_seq (x := c_towpathlaw01_LeftWrites_40) (y := c_towpathlaw01_LeftWrites_42) (by kernel_rfl) ?_
        refine wpE_region (id := 8) (ops := r_towpathlaw01_LeftWrites_40) (by kernel_rfl) ?_
        refine reg_run [.plain, .plain, .plain, .plain] 4 [(1, [], Value.slice l_.ptr l_.len l_.cap), (34, [], Value.slice t_.ptr t_.len t_.cap), (37, [], Value.int .i64 (IntKind.i64.wrap (((l_.len : Nat) : Int) + 1)))] (by kernel_rfl) (by kernel_rfl) ?_
        obtain ⟨h0, h1, h⟩ := h
        refine reg_sliceHi (t := 25) (e := 61) (x := (Go.Operand.tmp 34)) (hi := (Go.Operand.tmp 37)) (p := t_.ptr) (l := t_.len) (c := t_.cap) (sz := 3) (k := .i64) (j := (IntKind.i64.wrap (((l_.len : Nat) : Int) + 1))) (ty := 25) (dst := some 38) (by kernel_rfl) (by kernel_rfl) (by kernel_rfl) (by kernel_rfl) (by kernel_rfl) h0 h1 ?_
        refine reg_run [.plain, .plain] 7 [(38, [], Value.slice t_.ptr ((IntKind.i64.wrap (((l_.len : Nat) : Int) + 1)).toNat) t_.cap), (40, [], Value.int .i64 ((l_.len : Nat) : Int))] (by kernel_rfl) (by kernel_rfl) ?_
        obtain ⟨hp_17, h⟩ := h
        refine reg_conv [(38, [], Value.slice (some ⟨(pblk t_.ptr), (poff t_.ptr), none⟩) ((IntKind.i64.wrap (((l_.len : Nat) : Int) + 1)).toNat) t_.cap), (40, [], Value.int .i64 ((l_.len : Nat) : Int))] (congrArg (fun pp => ([(38, [], Value.slice pp ((IntKind.i64.wrap (((l_.len : Nat) : Int) + 1)).toNat) t_.cap), (40, [], Value.int .i64 ((l_.len : Nat) : Int))] : GEnv)) hp_17) ?_
        obtain ⟨h0, h1, h⟩ := h
        refine reg_indexS (t := 25) (e := 61) (x := (Go.Operand.tmp 38)) (ix := (Go.Operand.tmp 40)) (b := (pblk t_.ptr)) (o := (poff t_.ptr)) (l := ((IntKind.i64.wrap (((l_.len : Nat) : Int) + 1)).toNat)) (c := t_.cap) (k := .i64) (j := ((l_.len : Nat) : Int)) (ty := 0) (dst := some 41) (sz := 3) (by kernel_rfl) (by kernel_rfl) (by kernel_rfl) (by kernel_rfl) (by kernel_rfl) h0 h1 ?_
        refine reg_run [] 8 [(41, [], Value.pointer (some ⟨(pblk t_.ptr), (poff t_.ptr) + ((l_.len : Nat) : Int).toNat * 3, none⟩))] (by kernel_rfl) (by kernel_rfl) ?_
        obtain ⟨v42, hc, h⟩ := h
        refine reg_loadN (t := 61) (a := (Go.Operand.tmp 41)) (b := (pblk t_.ptr)) (o := ((poff t_.ptr) + ((l_.len : Nat) : Int).toNat * 3)) (ty := 61) (dst := some 42) [Value.string v42.Key, Value.string v42.Val, Value.bool v42.Drop] (by kernel_rfl) (by kernel_rfl) (by kernel_rfl) (k := 3) (by kernel_rfl) (by kernel_rfl) hc ?_
        refine reg_run [] 9 [(42, [], Value.agg #[Value.string v42.Key, Value.string v42.Val, Value.bool v42.Drop])] (by kernel_rfl) (by kernel_rfl) ?_
        refine reg_new (op := (Go.Op.alloc 61)) (ty := 0) (dst := some 6) (fun bb => Value.pointer (some ⟨bb, 0, none⟩)) (Obj.cells ([Value.string ByteArray.empty, Value.string ByteArray.empty, Value.bool false]).toArray ty_api_Write (0, 0)) (by kernel_rfl) (by kernel_rfl) (fun b_ w3 hb hw => ?_)
        replace h := h b_ w3 hb hw
        clear hb hw
        refine reg_run [] 10 [(6, [], Value.pointer (some ⟨b_, 0, none⟩)), (42, [], Value.agg #[Value.string v42.Key, Value.string v42.Val, Value.bool v42.Drop])] (by kernel_rfl) (by kernel_rfl) ?_
        obtain ⟨hc, h⟩ := h
        refine reg_store (t := 61) (a := (Go.Operand.tmp 6)) (x := (Go.Operand.tmp 42)) (b := b_) (o := 0) (ty := 0) (dst := none) [Value.string v42.Key, Value.string v42.Val, Value.bool v42.Drop] (by kernel_rfl) (by kernel_rfl) (by kernel_rfl) (k := 3) (by kernel_rfl) (by kernel_rfl) (by kernel_rfl) hc (fun w4 hw => ?_)
        replace h := h w4 hw
        clear hw
        refine reg_end [(6, Value.pointer (some ⟨b_, 0, none⟩))] (by kernel_rfl) (by kernel_rfl) ?_
        change WpE _ _ c_towpathlaw01_LeftWrites_42 _ _ _
        refine wpE_seq (x := c_towpathlaw01_LeftWrites_43) (y := c_towpathlaw01_LeftWrites_45) (by kernel_rfl) ?_
        refine wpE_region (id := 9) (ops := r_towpathlaw01_LeftWrites_43) (by kernel_rfl) ?_
        refine reg_run [] 0 [(6, [], Value.pointer (some ⟨b_, 0, none⟩))] (by kernel_rfl) (by kernel_rfl) ?_
        obtain ⟨v43, hc, h⟩ := h
        refine reg_loadN (t := 61) (a := (Go.Operand.tmp 6)) (b := b_) (o := 0) (ty := 61) (dst := some 43) [Value.string v43.Key, Value.string v43.Val, Value.bool v43.Drop] (by kernel_rfl) (by kernel_rfl) (by kernel_rfl) (k := 3) (by kernel_rfl) (by kernel_rfl) hc ?_
        refine reg_run [.plain] 2 [(43, [], Value.agg #[Value.string v43.Key, Value.string v43.Val, Value.bool v43.Drop]), (44, [], Value.agg #[Value.string (ByteArray.mk #[115, 112, 97, 114, 101]), Value.string ByteArray.empty, Value.bool false])] (by kernel_rfl) (by kernel_rfl) ?_
        refine reg_val (op := (Go.Op.binOp Go.BinOp.eql 61 (Go.Operand.tmp 43) (Go.Operand.tmp 44) 61)) (ty := 4) (dst := some 45) (Value.bool (((v43.Key == (ByteArray.mk #[115, 112, 97, 114, 101])) && (v43.Val == ByteArray.empty)) && (v43.Drop == false))) (by kernel_rfl) (fun ww => run_struct_eql (xs := [Value.string v43.Key, Value.string v43.Val, Value.bool v43.Drop]) (ys := [Value.string (ByteArray.mk #[115, 112, 97, 114, 101]), Value.string ByteArray.empty, Value.bool false]) (by kernel_rfl) (by kernel_rfl) (by kernel_rfl) (by kernel_rfl) (by kernel_rfl) ww) ?_
        refine reg_run [.plain] 4 [(4, [], Value.bool (((v43.Key == (ByteArray.mk #[115, 112, 97, 114, 101])) && (v43.Val == ByteArray.empty)) && (v43.Drop == false)))] (by kernel_rfl) (by kernel_rfl) ?_
        refine reg_end [(4, Value.bool (((v43.Key == (ByteArray.mk #[115, 112, 97, 114, 101])) && (v43.Val == ByteArray.empty)) && (v43.Drop == false)))] (by kernel_rfl) (by kernel_rfl) ?_
        change WpE _ _ c_towpathlaw01_LeftWrites_45 _ _ _
        refine wpE_ret (by kernel_rfl) ?_
        repeat (first | refine seqQ_ret ?_ | refine blockQ_ret ?_ | refine loopQ_ret ?_ | refine cutQ_ret ?_)
        exact retS (rs := [(Go.ResultVar.tmp 4)]) (v := Value.bool (((v43.Key == (ByteArray.mk #[115, 112, 97, 114, 101])) && (v43.Val == ByteArray.empty)) && (v43.Drop == false))) (by kernel_rfl) (⟨by kernel_rfl, trivial⟩) ⟨(((v43.Key == (ByteArray.mk #[115, 112, 97, 114, 101])) && (v43.Val == ByteArray.empty)) && (v43.Drop == false)), rfl, h⟩
  · rintro e w' ⟨v, rfl, r0, rfl, h⟩; exact ⟨r0, rfl, h⟩
end Go.Proofs.Ytfmkemmgakdddaa
