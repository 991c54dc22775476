/- WRITTEN BY PROGRAM (dec.py): for each Go function the clean formula F, the call's contract C, and the proof S that F gives C. -/
import Derived.Test.YtfmkemmgakdddaaRows
import Derived.Test.YtfmkemmgakdddaaGF
namespace Go.Proofs.Ytfmkemmgakdddaa
open Go
set_option linter.unusedVariables false

/-! ### towpath/towpathlaw01.Beyond (function 10) -/
noncomputable def c_towpathlaw01_Beyond_0 : Code := (Try.f10.body).getD Code.skip
noncomputable def c_towpathlaw01_Beyond_1 : Code := Code.l c_towpathlaw01_Beyond_0
noncomputable def r_towpathlaw01_Beyond_1 : Array Oper := Code.ops c_towpathlaw01_Beyond_1
noncomputable def c_towpathlaw01_Beyond_3 : Code := Code.r c_towpathlaw01_Beyond_0
noncomputable def c_towpathlaw01_Beyond_4 : Code := Code.l c_towpathlaw01_Beyond_3
noncomputable def r_towpathlaw01_Beyond_4 : Array Oper := Code.ops c_towpathlaw01_Beyond_4
noncomputable def c_towpathlaw01_Beyond_6 : Code := Code.r c_towpathlaw01_Beyond_3
noncomputable def c_towpathlaw01_Beyond_7 : Code := Code.l c_towpathlaw01_Beyond_6
noncomputable def c_towpathlaw01_Beyond_8 : Code := Code.l c_towpathlaw01_Beyond_7
noncomputable def r_towpathlaw01_Beyond_8 : Array Oper := Code.ops c_towpathlaw01_Beyond_8
noncomputable def c_towpathlaw01_Beyond_10 : Code := Code.r c_towpathlaw01_Beyond_7
noncomputable def c_towpathlaw01_Beyond_11 : Code := Code.l c_towpathlaw01_Beyond_10
noncomputable def c_towpathlaw01_Beyond_12 : Code := Code.l c_towpathlaw01_Beyond_11
noncomputable def c_towpathlaw01_Beyond_13 : Code := Code.l c_towpathlaw01_Beyond_12
noncomputable def c_towpathlaw01_Beyond_14 : Code := Code.l c_towpathlaw01_Beyond_13
noncomputable def r_towpathlaw01_Beyond_14 : Array Oper := Code.ops c_towpathlaw01_Beyond_14
noncomputable def c_towpathlaw01_Beyond_16 : Code := Code.r c_towpathlaw01_Beyond_13
noncomputable def c_towpathlaw01_Beyond_17 : Code := Code.l c_towpathlaw01_Beyond_16
noncomputable def c_towpathlaw01_Beyond_18 : Code := Code.r c_towpathlaw01_Beyond_16
noncomputable def c_towpathlaw01_Beyond_19 : Code := Code.r c_towpathlaw01_Beyond_12
noncomputable def c_towpathlaw01_Beyond_20 : Code := Code.l c_towpathlaw01_Beyond_19
noncomputable def c_towpathlaw01_Beyond_21 : Code := Code.l c_towpathlaw01_Beyond_20
noncomputable def c_towpathlaw01_Beyond_22 : Code := Code.l c_towpathlaw01_Beyond_21
noncomputable def r_towpathlaw01_Beyond_22 : Array Oper := Code.ops c_towpathlaw01_Beyond_22
noncomputable def c_towpathlaw01_Beyond_24 : Code := Code.r c_towpathlaw01_Beyond_21
noncomputable def c_towpathlaw01_Beyond_25 : Code := Code.l c_towpathlaw01_Beyond_24
noncomputable def r_towpathlaw01_Beyond_25 : Array Oper := Code.ops c_towpathlaw01_Beyond_25
noncomputable def c_towpathlaw01_Beyond_27 : Code := Code.r c_towpathlaw01_Beyond_24
noncomputable def c_towpathlaw01_Beyond_28 : Code := Code.l c_towpathlaw01_Beyond_27
noncomputable def c_towpathlaw01_Beyond_29 : Code := Code.l c_towpathlaw01_Beyond_28
noncomputable def r_towpathlaw01_Beyond_29 : Array Oper := Code.ops c_towpathlaw01_Beyond_29
noncomputable def c_towpathlaw01_Beyond_31 : Code := Code.r c_towpathlaw01_Beyond_28
noncomputable def c_towpathlaw01_Beyond_32 : Code := Code.r c_towpathlaw01_Beyond_27
noncomputable def c_towpathlaw01_Beyond_33 : Code := Code.r c_towpathlaw01_Beyond_19
noncomputable def r_towpathlaw01_Beyond_33 : Array Oper := Code.ops c_towpathlaw01_Beyond_33
noncomputable def c_towpathlaw01_Beyond_35 : Code := Code.r c_towpathlaw01_Beyond_6
noncomputable def c_towpathlaw01_Beyond_36 : Code := Code.l c_towpathlaw01_Beyond_35
noncomputable def r_towpathlaw01_Beyond_36 : Array Oper := Code.ops c_towpathlaw01_Beyond_36
noncomputable def c_towpathlaw01_Beyond_38 : Code := Code.r c_towpathlaw01_Beyond_35

set_option maxRecDepth 100000 in
set_option maxHeartbeats 4000000 in
theorem S_towpathlaw01_Beyond {l_ : Slc} {w : World} {R : Bool → World → Prop} (h : F_towpathlaw01_Beyond l_ R w) : C_towpathlaw01_Beyond l_ w R := by
  unfold F_towpathlaw01_Beyond at h
  unfold C_towpathlaw01_Beyond
  refine Calls.mono (calls_of_wpE (args := [Value.slice l_.ptr l_.len l_.cap]) (R := fun v w' => ∃ (r0 : Bool), v = Value.bool r0 ∧ R r0 w') Try.func10 (c := c_towpathlaw01_Beyond_0) (by kernel_rfl) 19 (by kernel_rfl) (by kernel_rfl) [(0, Value.slice l_.ptr l_.len l_.cap)] (by kernel_rfl) ?_) ?_
  · refine wpE_seq (x := c_towpathlaw01_Beyond_1) (y := c_towpathlaw01_Beyond_3) (by kernel_rfl) ?_
    refine wpE_region (id := 0) (ops := r_towpathlaw01_Beyond_1) (by kernel_rfl) ?_
    refine reg_run [.plain] 1 [(0, [], Value.slice l_.ptr l_.len l_.cap)] (by kernel_rfl) (by kernel_rfl) ?_
    refine reg_end [(0, Value.slice l_.ptr l_.len l_.cap)] (by kernel_rfl) (by kernel_rfl) ?_
    change WpE _ _ c_towpathlaw01_Beyond_3 _ _ _
    refine wpE_seq (x := c_towpathlaw01_Beyond_4) (y := c_towpathlaw01_Beyond_6) (by kernel_rfl) ?_
    refine wpE_region (id := 1) (ops := r_towpathlaw01_Beyond_4) (by kernel_rfl) ?_
    refine reg_run [.plain] 1 [(0, [], Value.slice l_.ptr l_.len l_.cap), (3, [], Value.int .i64 0)] (by kernel_rfl) (by kernel_rfl) ?_
    refine reg_end [(0, Value.slice l_.ptr l_.len l_.cap), (3, Value.int .i64 0)] (by kernel_rfl) (by kernel_rfl) ?_
    change WpE _ _ c_towpathlaw01_Beyond_6 _ _ _
    refine wpE_seq (x := c_towpathlaw01_Beyond_7) (y := c_towpathlaw01_Beyond_35) (by kernel_rfl) ?_
    refine wpE_seq (x := c_towpathlaw01_Beyond_8) (y := c_towpathlaw01_Beyond_10) (by kernel_rfl) ?_
    refine wpE_region (id := 2) (ops := r_towpathlaw01_Beyond_8) (by kernel_rfl) ?_
    refine reg_run [.plain] 1 [(0, [], Value.slice l_.ptr l_.len l_.cap), (3, [], Value.int .i64 0), (4, [], Value.int .i64 0)] (by kernel_rfl) (by kernel_rfl) ?_
    refine reg_end [(0, Value.slice l_.ptr l_.len l_.cap), (3, Value.int .i64 0), (4, Value.int .i64 0)] (by kernel_rfl) (by kernel_rfl) ?_
    change WpE _ _ c_towpathlaw01_Beyond_10 _ _ _
    refine wpE_block (id := 0) (x := c_towpathlaw01_Beyond_11) (by kernel_rfl) ?_
    obtain ⟨I, μ, h0, hr⟩ := h
    refine wpE_loop (x := c_towpathlaw01_Beyond_12) (by kernel_rfl) (fun m l w => ∃ (n_ : Int) (i : Int), l = [(0, Value.slice l_.ptr l_.len l_.cap), (3, Value.int .i64 n_), (4, Value.int .i64 i)] ∧ I n_ i w ∧ μ n_ i w = m) (l' := [(0, Value.slice l_.ptr l_.len l_.cap), (3, Value.int .i64 0), (4, Value.int .i64 0)]) (Sub.mk (by kernel_rfl)) ⟨0, 0, rfl, h0, rfl⟩ ?_
    rintro _ _ w1 ⟨n_, i, rfl, hI, rfl⟩
    obtain ⟨again_, again__h, h⟩ : ∃ again_ : Int → Int → World → Prop, (∀ n_' i' w', again_ n_' i' w' → I n_' i' w' ∧ μ n_' i' w' < μ n_ i w1) ∧ F_towpathlaw01_Beyond_L0 l_ R again_ n_ i w1 := ⟨_, fun _ _ _ h => h, hr n_ i w1 hI⟩
    clear h0 hI
    unfold F_towpathlaw01_Beyond_L0 at h
    refine wpE_seq (x := c_towpathlaw01_Beyond_13) (y := c_towpathlaw01_Beyond_19) (by kernel_rfl) ?_
    refine wpE_seq (x := c_towpathlaw01_Beyond_14) (y := c_towpathlaw01_Beyond_16) (by kernel_rfl) ?_
    refine wpE_region (id := 3) (ops := r_towpathlaw01_Beyond_14) (by kernel_rfl) ?_
    refine reg_run [.plain, .plain, .plain, .plain] 4 [(0, [], Value.slice l_.ptr l_.len l_.cap), (3, [], Value.int .i64 n_), (4, [], Value.int .i64 i), (8, [], Value.bool (decide (i < ((l_.len : Nat) : Int))))] (by kernel_rfl) (by kernel_rfl) ?_
    refine reg_end [(0, Value.slice l_.ptr l_.len l_.cap), (3, Value.int .i64 n_), (4, Value.int .i64 i), (8, Value.bool (decide (i < ((l_.len : Nat) : Int))))] (by kernel_rfl) (by kernel_rfl) ?_
    change WpE _ _ c_towpathlaw01_Beyond_16 _ _ _
    refine wpE_cond (o := (Operand.tmp 8)) (b := (decide (i < ((l_.len : Nat) : Int)))) (x := c_towpathlaw01_Beyond_17) (y := c_towpathlaw01_Beyond_18) (by kernel_rfl) (by kernel_rfl) (fun hb => ?_) (fun hb => ?_)
    · replace h := h.1 hb
      refine wpE_skip (by kernel_rfl) ?_
      change WpE _ _ c_towpathlaw01_Beyond_19 _ _ _
      refine wpE_seq (x := c_towpathlaw01_Beyond_20) (y := c_towpathlaw01_Beyond_33) (by kernel_rfl) ?_
      refine wpE_block (id := 1) (x := c_towpathlaw01_Beyond_21) (by kernel_rfl) ?_
      refine wpE_seq (x := c_towpathlaw01_Beyond_22) (y := c_towpathlaw01_Beyond_24) (by kernel_rfl) ?_
      refine wpE_region (id := 5) (ops := r_towpathlaw01_Beyond_22) (by kernel_rfl) ?_
      refine reg_run [.plain, .plain, .plain] 3 [(0, [], Value.slice l_.ptr l_.len l_.cap), (3, [], Value.int .i64 n_), (4, [], Value.int .i64 i), (11, [], Value.int .i64 n_), (12, [], Value.slice l_.ptr l_.len l_.cap), (13, [], Value.int .i64 i)] (by kernel_rfl) (by kernel_rfl) ?_
      obtain ⟨hp_7, h⟩ := h
      refine reg_conv [(0, [], Value.slice l_.ptr l_.len l_.cap), (3, [], Value.int .i64 n_), (4, [], Value.int .i64 i), (11, [], Value.int .i64 n_), (12, [], Value.slice (some ⟨(pblk l_.ptr), (poff l_.ptr), none⟩) l_.len l_.cap), (13, [], Value.int .i64 i)] (congrArg (fun pp => ([(0, [], Value.slice l_.ptr l_.len l_.cap), (3, [], Value.int .i64 n_), (4, [], Value.int .i64 i), (11, [], Value.int .i64 n_), (12, [], Value.slice pp l_.len l_.cap), (13, [], Value.int .i64 i)] : GEnv)) hp_7) ?_
      obtain ⟨h0, h1, h⟩ := h
      refine reg_indexS1 (t := 63) (e := 3) (x := (Go.Operand.tmp 12)) (ix := (Go.Operand.tmp 13)) (b := (pblk l_.ptr)) (o := (poff l_.ptr)) (l := l_.len) (c := l_.cap) (k := .i64) (j := i) (ty := 0) (dst := some 14) (by kernel_rfl) (by kernel_rfl) (by kernel_rfl) (by kernel_rfl) (by kernel_rfl) h0 h1 ?_
      refine reg_run [] 4 [(0, [], Value.slice l_.ptr l_.len l_.cap), (3, [], Value.int .i64 n_), (4, [], Value.int .i64 i), (11, [], Value.int .i64 n_), (14, [], Value.pointer (some ⟨(pblk l_.ptr), (poff l_.ptr) + i.toNat, none⟩))] (by kernel_rfl) (by kernel_rfl) ?_
      obtain ⟨v15, hc, h⟩ := h
      refine reg_load1 (t := 3) (a := (Go.Operand.tmp 14)) (b := (pblk l_.ptr)) (o := ((poff l_.ptr) + i.toNat)) (ty := 3) (dst := some 15) (by kernel_rfl) (by kernel_rfl) (by kernel_rfl) hc ?_
      refine reg_run [.plain, .plain] 7 [(0, [], Value.slice l_.ptr l_.len l_.cap), (3, [], Value.int .i64 (IntKind.i64.wrap (n_ + v15))), (4, [], Value.int .i64 i)] (by kernel_rfl) (by kernel_rfl) ?_
      refine reg_end [(0, Value.slice l_.ptr l_.len l_.cap), (3, Value.int .i64 (IntKind.i64.wrap (n_ + v15))), (4, Value.int .i64 i)] (by kernel_rfl) (by kernel_rfl) ?_
      change WpE _ _ c_towpathlaw01_Beyond_24 _ _ _
      refine wpE_seq (x := c_towpathlaw01_Beyond_25) (y := c_towpathlaw01_Beyond_27) (by kernel_rfl) ?_
      refine wpE_region (id := 6) (ops := r_towpathlaw01_Beyond_25) (by kernel_rfl) ?_
      refine reg_run [.plain, .plain] 2 [(0, [], Value.slice l_.ptr l_.len l_.cap), (3, [], Value.int .i64 (IntKind.i64.wrap (n_ + v15))), (4, [], Value.int .i64 i), (18, [], Value.bool (decide ((IntKind.i64.wrap (n_ + v15)) > 1048576)))] (by kernel_rfl) (by kernel_rfl) ?_
      refine reg_end [(0, Value.slice l_.ptr l_.len l_.cap), (3, Value.int .i64 (IntKind.i64.wrap (n_ + v15))), (4, Value.int .i64 i), (18, Value.bool (decide ((IntKind.i64.wrap (n_ + v15)) > 1048576)))] (by kernel_rfl) (by kernel_rfl) ?_
      change WpE _ _ c_towpathlaw01_Beyond_27 _ _ _
      refine wpE_cond (o := (Operand.tmp 18)) (b := (decide ((IntKind.i64.wrap (n_ + v15)) > 1048576))) (x := c_towpathlaw01_Beyond_28) (y := c_towpathlaw01_Beyond_32) (by kernel_rfl) (by kernel_rfl) (fun hb => ?_) (fun hb => ?_)
      · replace h := h.1 hb
        refine wpE_seq (x := c_towpathlaw01_Beyond_29) (y := c_towpathlaw01_Beyond_31) (by kernel_rfl) ?_
        refine wpE_region (id := 7) (ops := r_towpathlaw01_Beyond_29) (by kernel_rfl) ?_
        refine reg_run [.plain] 1 [(2, [], Value.bool true)] (by kernel_rfl) (by kernel_rfl) ?_
        refine reg_end [(2, Value.bool true)] (by kernel_rfl) (by kernel_rfl) ?_
        change WpE _ _ c_towpathlaw01_Beyond_31 _ _ _
        refine wpE_ret (by kernel_rfl) ?_
        repeat (first | refine seqQ_ret ?_ | refine blockQ_ret ?_ | refine loopQ_ret ?_ | refine cutQ_ret ?_)
        exact retS (rs := [(Go.ResultVar.tmp 2)]) (v := Value.bool true) (by kernel_rfl) (⟨by kernel_rfl, trivial⟩) ⟨true, rfl, h⟩
      · replace h := h.2 hb
        refine wpE_skip (by kernel_rfl) ?_
        change WpE _ _ c_towpathlaw01_Beyond_33 _ _ _
        refine wpE_region (id := 4) (ops := r_towpathlaw01_Beyond_33) (by kernel_rfl) ?_
        refine reg_run [.plain, .plain, .plain] 3 [(0, [], Value.slice l_.ptr l_.len l_.cap), (3, [], Value.int .i64 (IntKind.i64.wrap (n_ + v15))), (4, [], Value.int .i64 (IntKind.i64.wrap (i + 1)))] (by kernel_rfl) (by kernel_rfl) ?_
        refine reg_end [(0, Value.slice l_.ptr l_.len l_.cap), (3, Value.int .i64 (IntKind.i64.wrap (n_ + v15))), (4, Value.int .i64 (IntKind.i64.wrap (i + 1)))] (by kernel_rfl) (by kernel_rfl) ?_
        have hb_ := again__h _ _ _ h
        exact ⟨_, hb_.2, [(0, Value.slice l_.ptr l_.len l_.cap), (3, Value.int .i64 (IntKind.i64.wrap (n_ + v15))), (4, Value.int .i64 (IntKind.i64.wrap (i + 1)))], Sub.mk (by kernel_rfl), (IntKind.i64.wrap (n_ + v15)), (IntKind.i64.wrap (i + 1)), rfl, hb_.1, rfl⟩
    · replace h := h.2 hb
      refine wpE_exit (id := 0) (by kernel_rfl) ?_
      change WpE _ _ c_towpathlaw01_Beyond_35 _ _ _
      refine wpE_seq (x := c_towpathlaw01_Beyond_36) (y := c_towpathlaw01_Beyond_38) (by kernel_rfl) ?_
      refine wpE_region (id := 8) (ops := r_towpathlaw01_Beyond_36) (by kernel_rfl) ?_
      refine reg_run [.plain] 1 [(2, [], Value.bool false)] (by kernel_rfl) (by kernel_rfl) ?_
      refine reg_end [(2, Value.bool false)] (by kernel_rfl) (by kernel_rfl) ?_
      change WpE _ _ c_towpathlaw01_Beyond_38 _ _ _
      refine wpE_ret (by kernel_rfl) ?_
      repeat (first | refine seqQ_ret ?_ | refine blockQ_ret ?_ | refine loopQ_ret ?_ | refine cutQ_ret ?_)
      exact retS (rs := [(Go.ResultVar.tmp 2)]) (v := Value.bool false) (by kernel_rfl) (⟨by kernel_rfl, trivial⟩) ⟨false, rfl, h⟩
  · rintro e w' ⟨v, rfl, r0, rfl, h⟩; exact ⟨r0, rfl, h⟩

/-! ### towpath/towpathlaw01.TxnsSize (function 22) -/
noncomputable def c_towpathlaw01_TxnsSize_0 : Code := (Try.f22.body).getD Code.skip
noncomputable def c_towpathlaw01_TxnsSize_1 : Code := Code.l c_towpathlaw01_TxnsSize_0
noncomputable def r_towpathlaw01_TxnsSize_1 : Array Oper := Code.ops c_towpathlaw01_TxnsSize_1
noncomputable def c_towpathlaw01_TxnsSize_3 : Code := Code.r c_towpathlaw01_TxnsSize_0
noncomputable def c_towpathlaw01_TxnsSize_4 : Code := Code.l c_towpathlaw01_TxnsSize_3
noncomputable def r_towpathlaw01_TxnsSize_4 : Array Oper := Code.ops c_towpathlaw01_TxnsSize_4
noncomputable def c_towpathlaw01_TxnsSize_6 : Code := Code.r c_towpathlaw01_TxnsSize_3
noncomputable def c_towpathlaw01_TxnsSize_7 : Code := Code.l c_towpathlaw01_TxnsSize_6
noncomputable def c_towpathlaw01_TxnsSize_8 : Code := Code.l c_towpathlaw01_TxnsSize_7
noncomputable def r_towpathlaw01_TxnsSize_8 : Array Oper := Code.ops c_towpathlaw01_TxnsSize_8
noncomputable def c_towpathlaw01_TxnsSize_10 : Code := Code.r c_towpathlaw01_TxnsSize_7
noncomputable def c_towpathlaw01_TxnsSize_11 : Code := Code.l c_towpathlaw01_TxnsSize_10
noncomputable def c_towpathlaw01_TxnsSize_12 : Code := Code.l c_towpathlaw01_TxnsSize_11
noncomputable def c_towpathlaw01_TxnsSize_13 : Code := Code.l c_towpathlaw01_TxnsSize_12
noncomputable def c_towpathlaw01_TxnsSize_14 : Code := Code.l c_towpathlaw01_TxnsSize_13
noncomputable def r_towpathlaw01_TxnsSize_14 : Array Oper := Code.ops c_towpathlaw01_TxnsSize_14
noncomputable def c_towpathlaw01_TxnsSize_16 : Code := Code.r c_towpathlaw01_TxnsSize_13
noncomputable def c_towpathlaw01_TxnsSize_17 : Code := Code.l c_towpathlaw01_TxnsSize_16
noncomputable def c_towpathlaw01_TxnsSize_18 : Code := Code.r c_towpathlaw01_TxnsSize_16
noncomputable def c_towpathlaw01_TxnsSize_19 : Code := Code.r c_towpathlaw01_TxnsSize_12
noncomputable def c_towpathlaw01_TxnsSize_20 : Code := Code.l c_towpathlaw01_TxnsSize_19
noncomputable def c_towpathlaw01_TxnsSize_21 : Code := Code.l c_towpathlaw01_TxnsSize_20
noncomputable def r_towpathlaw01_TxnsSize_21 : Array Oper := Code.ops c_towpathlaw01_TxnsSize_21
noncomputable def c_towpathlaw01_TxnsSize_23 : Code := Code.r c_towpathlaw01_TxnsSize_19
noncomputable def r_towpathlaw01_TxnsSize_23 : Array Oper := Code.ops c_towpathlaw01_TxnsSize_23
noncomputable def c_towpathlaw01_TxnsSize_25 : Code := Code.r c_towpathlaw01_TxnsSize_6
noncomputable def c_towpathlaw01_TxnsSize_26 : Code := Code.l c_towpathlaw01_TxnsSize_25
noncomputable def r_towpathlaw01_TxnsSize_26 : Array Oper := Code.ops c_towpathlaw01_TxnsSize_26
noncomputable def c_towpathlaw01_TxnsSize_28 : Code := Code.r c_towpathlaw01_TxnsSize_25

set_option maxRecDepth 100000 in
set_option maxHeartbeats 4000000 in
theorem S_towpathlaw01_TxnsSize {l_ : Slc} {w : World} {R : Int → World → Prop} (h : F_towpathlaw01_TxnsSize l_ R w) : C_towpathlaw01_TxnsSize l_ w R := by
  unfold F_towpathlaw01_TxnsSize at h
  unfold C_towpathlaw01_TxnsSize
  refine Calls.mono (calls_of_wpE (args := [Value.slice l_.ptr l_.len l_.cap]) (R := fun v w' => ∃ (r0 : Int), v = Value.int .i64 r0 ∧ R r0 w') Try.func22 (c := c_towpathlaw01_TxnsSize_0) (by kernel_rfl) 25 (by kernel_rfl) (by kernel_rfl) [(0, Value.slice l_.ptr l_.len l_.cap)] (by kernel_rfl) ?_) ?_
  · refine wpE_seq (x := c_towpathlaw01_TxnsSize_1) (y := c_towpathlaw01_TxnsSize_3) (by kernel_rfl) ?_
    refine wpE_region (id := 0) (ops := r_towpathlaw01_TxnsSize_1) (by kernel_rfl) ?_
    refine reg_run [.plain] 1 [(0, [], Value.slice l_.ptr l_.len l_.cap)] (by kernel_rfl) (by kernel_rfl) ?_
    refine reg_end [(0, Value.slice l_.ptr l_.len l_.cap)] (by kernel_rfl) (by kernel_rfl) ?_
    change WpE _ _ c_towpathlaw01_TxnsSize_3 _ _ _
    refine wpE_seq (x := c_towpathlaw01_TxnsSize_4) (y := c_towpathlaw01_TxnsSize_6) (by kernel_rfl) ?_
    refine wpE_region (id := 1) (ops := r_towpathlaw01_TxnsSize_4) (by kernel_rfl) ?_
    refine reg_run [.plain, .plain, .plain] 3 [(0, [], Value.slice l_.ptr l_.len l_.cap), (3, [], Value.int .i64 ((l_.len : Nat) : Int))] (by kernel_rfl) (by kernel_rfl) ?_
    refine reg_end [(0, Value.slice l_.ptr l_.len l_.cap), (3, Value.int .i64 ((l_.len : Nat) : Int))] (by kernel_rfl) (by kernel_rfl) ?_
    change WpE _ _ c_towpathlaw01_TxnsSize_6 _ _ _
    refine wpE_seq (x := c_towpathlaw01_TxnsSize_7) (y := c_towpathlaw01_TxnsSize_25) (by kernel_rfl) ?_
    refine wpE_seq (x := c_towpathlaw01_TxnsSize_8) (y := c_towpathlaw01_TxnsSize_10) (by kernel_rfl) ?_
    refine wpE_region (id := 2) (ops := r_towpathlaw01_TxnsSize_8) (by kernel_rfl) ?_
    refine reg_run [.plain] 1 [(0, [], Value.slice l_.ptr l_.len l_.cap), (3, [], Value.int .i64 ((l_.len : Nat) : Int)), (4, [], Value.int .i64 0)] (by kernel_rfl) (by kernel_rfl) ?_
    refine reg_end [(0, Value.slice l_.ptr l_.len l_.cap), (3, Value.int .i64 ((l_.len : Nat) : Int)), (4, Value.int .i64 0)] (by kernel_rfl) (by kernel_rfl) ?_
    change WpE _ _ c_towpathlaw01_TxnsSize_10 _ _ _
    refine wpE_block (id := 0) (x := c_towpathlaw01_TxnsSize_11) (by kernel_rfl) ?_
    obtain ⟨I, μ, h0, hr⟩ := h
    refine wpE_loop (x := c_towpathlaw01_TxnsSize_12) (by kernel_rfl) (fun m l w => ∃ (n_ : Int) (i : Int), l = [(0, Value.slice l_.ptr l_.len l_.cap), (3, Value.int .i64 n_), (4, Value.int .i64 i)] ∧ I n_ i w ∧ μ n_ i w = m) (l' := [(0, Value.slice l_.ptr l_.len l_.cap), (3, Value.int .i64 ((l_.len : Nat) : Int)), (4, Value.int .i64 0)]) (Sub.mk (by kernel_rfl)) ⟨((l_.len : Nat) : Int), 0, rfl, h0, rfl⟩ ?_
    rintro _ _ w1 ⟨n_, i, rfl, hI, rfl⟩
    obtain ⟨again_, again__h, h⟩ : ∃ again_ : Int → Int → World → Prop, (∀ n_' i' w', again_ n_' i' w' → I n_' i' w' ∧ μ n_' i' w' < μ n_ i w1) ∧ F_towpathlaw01_TxnsSize_L0 l_ R again_ n_ i w1 := ⟨_, fun _ _ _ h => h, hr n_ i w1 hI⟩
    clear h0 hI
    unfold F_towpathlaw01_TxnsSize_L0 at h
    refine wpE_seq (x := c_towpathlaw01_TxnsSize_13) (y := c_towpathlaw01_TxnsSize_19) (by kernel_rfl) ?_
    refine wpE_seq (x := c_towpathlaw01_TxnsSize_14) (y := c_towpathlaw01_TxnsSize_16) (by kernel_rfl) ?_
    refine wpE_region (id := 3) (ops := r_towpathlaw01_TxnsSize_14) (by kernel_rfl) ?_
    refine reg_run [.plain, .plain, .plain, .plain, .plain, .plain, .plain, .pick] 8 [(0, [], Value.slice l_.ptr l_.len l_.cap), (3, [], Value.int .i64 n_), (4, [], Value.int .i64 i), (14, [], Value.bool ((decide (i < ((l_.len : Nat) : Int))) && (decide (n_ ≤ 1048576))))] (by kernel_rfl) (by kernel_rfl) ?_
    refine reg_end [(0, Value.slice l_.ptr l_.len l_.cap), (3, Value.int .i64 n_), (4, Value.int .i64 i), (14, Value.bool ((decide (i < ((l_.len : Nat) : Int))) && (decide (n_ ≤ 1048576))))] (by kernel_rfl) (by kernel_rfl) ?_
    change WpE _ _ c_towpathlaw01_TxnsSize_16 _ _ _
    refine wpE_cond (o := (Operand.tmp 14)) (b := ((decide (i < ((l_.len : Nat) : Int))) && (decide (n_ ≤ 1048576)))) (x := c_towpathlaw01_TxnsSize_17) (y := c_towpathlaw01_TxnsSize_18) (by kernel_rfl) (by kernel_rfl) (fun hb => ?_) (fun hb => ?_)
    · replace h := h.1 hb
      refine wpE_skip (by kernel_rfl) ?_
      change WpE _ _ c_towpathlaw01_TxnsSize_19 _ _ _
      refine wpE_seq (x := c_towpathlaw01_TxnsSize_20) (y := c_towpathlaw01_TxnsSize_23) (by kernel_rfl) ?_
      refine wpE_block (id := 1) (x := c_towpathlaw01_TxnsSize_21) (by kernel_rfl) ?_
      refine wpE_region (id := 5) (ops := r_towpathlaw01_TxnsSize_21) (by kernel_rfl) ?_
      refine reg_run [.plain, .plain, .plain] 3 [(0, [], Value.slice l_.ptr l_.len l_.cap), (3, [], Value.int .i64 n_), (4, [], Value.int .i64 i), (17, [], Value.int .i64 n_), (18, [], Value.slice l_.ptr l_.len l_.cap), (19, [], Value.int .i64 i)] (by kernel_rfl) (by kernel_rfl) ?_
      obtain ⟨hp_3, h⟩ := h
      refine reg_conv [(0, [], Value.slice l_.ptr l_.len l_.cap), (3, [], Value.int .i64 n_), (4, [], Value.int .i64 i), (17, [], Value.int .i64 n_), (18, [], Value.slice (some ⟨(pblk l_.ptr), (poff l_.ptr), none⟩) l_.len l_.cap), (19, [], Value.int .i64 i)] (congrArg (fun pp => ([(0, [], Value.slice l_.ptr l_.len l_.cap), (3, [], Value.int .i64 n_), (4, [], Value.int .i64 i), (17, [], Value.int .i64 n_), (18, [], Value.slice pp l_.len l_.cap), (19, [], Value.int .i64 i)] : GEnv)) hp_3) ?_
      obtain ⟨h0, h1, h⟩ := h
      refine reg_indexS (t := 52) (e := 27) (x := (Go.Operand.tmp 18)) (ix := (Go.Operand.tmp 19)) (b := (pblk l_.ptr)) (o := (poff l_.ptr)) (l := l_.len) (c := l_.cap) (k := .i64) (j := i) (ty := 0) (dst := some 20) (sz := 2) (by kernel_rfl) (by kernel_rfl) (by kernel_rfl) (by kernel_rfl) (by kernel_rfl) h0 h1 ?_
      refine reg_run [] 4 [(0, [], Value.slice l_.ptr l_.len l_.cap), (3, [], Value.int .i64 n_), (4, [], Value.int .i64 i), (17, [], Value.int .i64 n_), (20, [], Value.pointer (some ⟨(pblk l_.ptr), (poff l_.ptr) + i.toNat * 2, none⟩))] (by kernel_rfl) (by kernel_rfl) ?_
      obtain ⟨v21, hc, h⟩ := h
      refine reg_loadN (t := 27) (a := (Go.Operand.tmp 20)) (b := (pblk l_.ptr)) (o := ((poff l_.ptr) + i.toNat * 2)) (ty := 27) (dst := some 21) [Value.int .i64 v21.Number, Value.slice v21.Writes.ptr v21.Writes.len v21.Writes.cap] (by kernel_rfl) (by kernel_rfl) (by kernel_rfl) (k := 2) (by kernel_rfl) (by kernel_rfl) hc ?_
      refine reg_run [] 5 [(0, [], Value.slice l_.ptr l_.len l_.cap), (3, [], Value.int .i64 n_), (4, [], Value.int .i64 i), (17, [], Value.int .i64 n_), (21, [], Value.agg #[Value.int .i64 v21.Number, Value.slice v21.Writes.ptr v21.Writes.len v21.Writes.cap])] (by kernel_rfl) (by kernel_rfl) ?_
      refine reg_enter (op := (Go.Op.call (Go.Call.mk (Go.Callee.value (Go.Operand.func 32)) #[(Go.Operand.tmp 21)] #[27]))) (ty := 3) (dst := some 22) 32 #[Value.agg #[Value.int .i64 v21.Number, Value.slice v21.Writes.ptr v21.Writes.len v21.Writes.cap]] (by kernel_rfl) (fun ww => by kernel_rfl) (Calls.mono h ?_)
      rintro _ w2 ⟨v22, rfl, h⟩
      refine ⟨_, rfl, ?_⟩
      refine reg_run [.plain, .plain] 8 [(0, [], Value.slice l_.ptr l_.len l_.cap), (3, [], Value.int .i64 (IntKind.i64.wrap (n_ + v22))), (4, [], Value.int .i64 i)] (by kernel_rfl) (by kernel_rfl) ?_
      refine reg_end [(0, Value.slice l_.ptr l_.len l_.cap), (3, Value.int .i64 (IntKind.i64.wrap (n_ + v22))), (4, Value.int .i64 i)] (by kernel_rfl) (by kernel_rfl) ?_
      change WpE _ _ c_towpathlaw01_TxnsSize_23 _ _ _
      refine wpE_region (id := 4) (ops := r_towpathlaw01_TxnsSize_23) (by kernel_rfl) ?_
      refine reg_run [.plain, .plain, .plain] 3 [(0, [], Value.slice l_.ptr l_.len l_.cap), (3, [], Value.int .i64 (IntKind.i64.wrap (n_ + v22))), (4, [], Value.int .i64 (IntKind.i64.wrap (i + 1)))] (by kernel_rfl) (by kernel_rfl) ?_
      refine reg_end [(0, Value.slice l_.ptr l_.len l_.cap), (3, Value.int .i64 (IntKind.i64.wrap (n_ + v22))), (4, Value.int .i64 (IntKind.i64.wrap (i + 1)))] (by kernel_rfl) (by kernel_rfl) ?_
      have hb_ := again__h _ _ _ h
      exact ⟨_, hb_.2, [(0, Value.slice l_.ptr l_.len l_.cap), (3, Value.int .i64 (IntKind.i64.wrap (n_ + v22))), (4, Value.int .i64 (IntKind.i64.wrap (i + 1)))], Sub.mk (by kernel_rfl), (IntKind.i64.wrap (n_ + v22)), (IntKind.i64.wrap (i + 1)), rfl, hb_.1, rfl⟩
    · replace h := h.2 hb
      refine wpE_exit (id := 0) (by kernel_rfl) ?_
      change WpE _ _ c_towpathlaw01_TxnsSize_25 _ _ _
      refine wpE_seq (x := c_towpathlaw01_TxnsSize_26) (y := c_towpathlaw01_TxnsSize_28) (by kernel_rfl) ?_
      refine wpE_region (id := 6) (ops := r_towpathlaw01_TxnsSize_26) (by kernel_rfl) ?_
      refine reg_run [.plain, .plain] 2 [(2, [], Value.int .i64 n_)] (by kernel_rfl) (by kernel_rfl) ?_
      refine reg_end [(2, Value.int .i64 n_)] (by kernel_rfl) (by kernel_rfl) ?_
      change WpE _ _ c_towpathlaw01_TxnsSize_28 _ _ _
      refine wpE_ret (by kernel_rfl) ?_
      repeat (first | refine seqQ_ret ?_ | refine blockQ_ret ?_ | refine loopQ_ret ?_ | refine cutQ_ret ?_)
      exact retS (rs := [(Go.ResultVar.tmp 2)]) (v := Value.int .i64 n_) (by kernel_rfl) (⟨by kernel_rfl, trivial⟩) ⟨n_, rfl, h⟩
  · rintro e w' ⟨v, rfl, r0, rfl, h⟩; exact ⟨r0, rfl, h⟩

/-! ### towpath/towpathlaw01.TxnSize (function 32) -/
noncomputable def c_towpathlaw01_TxnSize_0 : Code := (Try.f32.body).getD Code.skip
noncomputable def c_towpathlaw01_TxnSize_1 : Code := Code.l c_towpathlaw01_TxnSize_0
noncomputable def r_towpathlaw01_TxnSize_1 : Array Oper := Code.ops c_towpathlaw01_TxnSize_1
noncomputable def c_towpathlaw01_TxnSize_3 : Code := Code.r c_towpathlaw01_TxnSize_0
noncomputable def c_towpathlaw01_TxnSize_4 : Code := Code.l c_towpathlaw01_TxnSize_3
noncomputable def r_towpathlaw01_TxnSize_4 : Array Oper := Code.ops c_towpathlaw01_TxnSize_4
noncomputable def c_towpathlaw01_TxnSize_6 : Code := Code.r c_towpathlaw01_TxnSize_3

set_option maxRecDepth 100000 in
set_option maxHeartbeats 4000000 in
theorem S_towpathlaw01_TxnSize {t_ : T_api_Txn} {w : World} {R : Int → World → Prop} (h : F_towpathlaw01_TxnSize t_ R w) : C_towpathlaw01_TxnSize t_ w R := by
  unfold F_towpathlaw01_TxnSize at h
  unfold C_towpathlaw01_TxnSize
  refine Calls.mono (calls_of_wpE (args := [Value.agg #[Value.int .i64 t_.Number, Value.slice t_.Writes.ptr t_.Writes.len t_.Writes.cap]]) (R := fun v w' => ∃ (r0 : Int), v = Value.int .i64 r0 ∧ R r0 w') Try.func32 (c := c_towpathlaw01_TxnSize_0) (by kernel_rfl) 7 (by kernel_rfl) (by kernel_rfl) [(0, Value.agg #[Value.int .i64 t_.Number, Value.slice t_.Writes.ptr t_.Writes.len t_.Writes.cap])] (by kernel_rfl) ?_) ?_
  · refine wpE_seq (x := c_towpathlaw01_TxnSize_1) (y := c_towpathlaw01_TxnSize_3) (by kernel_rfl) ?_
    refine wpE_region (id := 0) (ops := r_towpathlaw01_TxnSize_1) (by kernel_rfl) ?_
    refine reg_run [] 0 [(0, [], Value.agg #[Value.int .i64 t_.Number, Value.slice t_.Writes.ptr t_.Writes.len t_.Writes.cap])] (by kernel_rfl) (by kernel_rfl) ?_
    refine reg_new (op := (Go.Op.box 27 (Go.Operand.tmp 0))) (ty := 0) (dst := some 1) (fun bb => Value.pointer (some ⟨bb, 0, none⟩)) (Obj.cells ([Value.int .i64 t_.Number, Value.slice t_.Writes.ptr t_.Writes.len t_.Writes.cap]).toArray ty_api_Txn (0, 0)) (by kernel_rfl) (by kernel_rfl) (fun b_ w1 hb hw => ?_)
    replace h := h b_ w1 hb hw
    clear hb hw
    refine reg_run [.plain] 2 [(1, [], Value.pointer (some ⟨b_, 0, none⟩))] (by kernel_rfl) (by kernel_rfl) ?_
    refine reg_end [(1, Value.pointer (some ⟨b_, 0, none⟩))] (by kernel_rfl) (by kernel_rfl) ?_
    change WpE _ _ c_towpathlaw01_TxnSize_3 _ _ _
    refine wpE_seq (x := c_towpathlaw01_TxnSize_4) (y := c_towpathlaw01_TxnSize_6) (by kernel_rfl) ?_
    refine wpE_region (id := 1) (ops := r_towpathlaw01_TxnSize_4) (by kernel_rfl) ?_
    refine reg_run [.plain] 1 [(3, [], Value.pointer (some ⟨b_, 1, none⟩))] (by kernel_rfl) (by kernel_rfl) ?_
    obtain ⟨v4, hc, h⟩ := h
    refine reg_load1 (t := 25) (a := (Go.Operand.tmp 3)) (b := b_) (o := 1) (ty := 25) (dst := some 4) (by kernel_rfl) (by kernel_rfl) (by kernel_rfl) hc ?_
    refine reg_run [] 2 [(4, [], Value.slice v4.ptr v4.len v4.cap)] (by kernel_rfl) (by kernel_rfl) ?_
    refine reg_enter (op := (Go.Op.call (Go.Call.mk (Go.Callee.value (Go.Operand.func 65)) #[(Go.Operand.tmp 4)] #[25]))) (ty := 3) (dst := some 5) 65 #[Value.slice v4.ptr v4.len v4.cap] (by kernel_rfl) (fun ww => by kernel_rfl) (Calls.mono h ?_)
    rintro _ w2 ⟨v5, rfl, h⟩
    refine ⟨_, rfl, ?_⟩
    refine reg_run [.plain, .plain] 5 [(2, [], Value.int .i64 (IntKind.i64.wrap (1 + v5)))] (by kernel_rfl) (by kernel_rfl) ?_
    refine reg_end [(2, Value.int .i64 (IntKind.i64.wrap (1 + v5)))] (by kernel_rfl) (by kernel_rfl) ?_
    change WpE _ _ c_towpathlaw01_TxnSize_6 _ _ _
    refine wpE_ret (by kernel_rfl) ?_
    repeat (first | refine seqQ_ret ?_ | refine blockQ_ret ?_ | refine loopQ_ret ?_ | refine cutQ_ret ?_)
    exact retS (rs := [(Go.ResultVar.tmp 2)]) (v := Value.int .i64 (IntKind.i64.wrap (1 + v5))) (by kernel_rfl) (⟨by kernel_rfl, trivial⟩) ⟨(IntKind.i64.wrap (1 + v5)), rfl, h⟩
  · rintro e w' ⟨v, rfl, r0, rfl, h⟩; exact ⟨r0, rfl, h⟩

/-! ### towpath/towpathlaw01.WritesSize (function 65) -/
noncomputable def c_towpathlaw01_WritesSize_0 : Code := (Try.f65.body).getD Code.skip
noncomputable def c_towpathlaw01_WritesSize_1 : Code := Code.l c_towpathlaw01_WritesSize_0
noncomputable def r_towpathlaw01_WritesSize_1 : Array Oper := Code.ops c_towpathlaw01_WritesSize_1
noncomputable def c_towpathlaw01_WritesSize_3 : Code := Code.r c_towpathlaw01_WritesSize_0
noncomputable def c_towpathlaw01_WritesSize_4 : Code := Code.l c_towpathlaw01_WritesSize_3
noncomputable def r_towpathlaw01_WritesSize_4 : Array Oper := Code.ops c_towpathlaw01_WritesSize_4
noncomputable def c_towpathlaw01_WritesSize_6 : Code := Code.r c_towpathlaw01_WritesSize_3
noncomputable def c_towpathlaw01_WritesSize_7 : Code := Code.l c_towpathlaw01_WritesSize_6
noncomputable def c_towpathlaw01_WritesSize_8 : Code := Code.l c_towpathlaw01_WritesSize_7
noncomputable def r_towpathlaw01_WritesSize_8 : Array Oper := Code.ops c_towpathlaw01_WritesSize_8
noncomputable def c_towpathlaw01_WritesSize_10 : Code := Code.r c_towpathlaw01_WritesSize_7
noncomputable def c_towpathlaw01_WritesSize_11 : Code := Code.l c_towpathlaw01_WritesSize_10
noncomputable def c_towpathlaw01_WritesSize_12 : Code := Code.l c_towpathlaw01_WritesSize_11
noncomputable def c_towpathlaw01_WritesSize_13 : Code := Code.l c_towpathlaw01_WritesSize_12
noncomputable def c_towpathlaw01_WritesSize_14 : Code := Code.l c_towpathlaw01_WritesSize_13
noncomputable def r_towpathlaw01_WritesSize_14 : Array Oper := Code.ops c_towpathlaw01_WritesSize_14
noncomputable def c_towpathlaw01_WritesSize_16 : Code := Code.r c_towpathlaw01_WritesSize_13
noncomputable def c_towpathlaw01_WritesSize_17 : Code := Code.l c_towpathlaw01_WritesSize_16
noncomputable def c_towpathlaw01_WritesSize_18 : Code := Code.r c_towpathlaw01_WritesSize_16
noncomputable def c_towpathlaw01_WritesSize_19 : Code := Code.r c_towpathlaw01_WritesSize_12
noncomputable def c_towpathlaw01_WritesSize_20 : Code := Code.l c_towpathlaw01_WritesSize_19
noncomputable def c_towpathlaw01_WritesSize_21 : Code := Code.l c_towpathlaw01_WritesSize_20
noncomputable def r_towpathlaw01_WritesSize_21 : Array Oper := Code.ops c_towpathlaw01_WritesSize_21
noncomputable def c_towpathlaw01_WritesSize_23 : Code := Code.r c_towpathlaw01_WritesSize_19
noncomputable def r_towpathlaw01_WritesSize_23 : Array Oper := Code.ops c_towpathlaw01_WritesSize_23
noncomputable def c_towpathlaw01_WritesSize_25 : Code := Code.r c_towpathlaw01_WritesSize_6
noncomputable def c_towpathlaw01_WritesSize_26 : Code := Code.l c_towpathlaw01_WritesSize_25
noncomputable def r_towpathlaw01_WritesSize_26 : Array Oper := Code.ops c_towpathlaw01_WritesSize_26
noncomputable def c_towpathlaw01_WritesSize_28 : Code := Code.r c_towpathlaw01_WritesSize_25

set_option maxRecDepth 100000 in
set_option maxHeartbeats 4000000 in
theorem S_towpathlaw01_WritesSize {l_ : Slc} {w : World} {R : Int → World → Prop} (h : F_towpathlaw01_WritesSize l_ R w) : C_towpathlaw01_WritesSize l_ w R := by
  unfold F_towpathlaw01_WritesSize at h
  unfold C_towpathlaw01_WritesSize
  refine Calls.mono (calls_of_wpE (args := [Value.slice l_.ptr l_.len l_.cap]) (R := fun v w' => ∃ (r0 : Int), v = Value.int .i64 r0 ∧ R r0 w') Try.func65 (c := c_towpathlaw01_WritesSize_0) (by kernel_rfl) 33 (by kernel_rfl) (by kernel_rfl) [(0, Value.slice l_.ptr l_.len l_.cap)] (by kernel_rfl) ?_) ?_
  · refine wpE_seq (x := c_towpathlaw01_WritesSize_1) (y := c_towpathlaw01_WritesSize_3) (by kernel_rfl) ?_
    refine wpE_region (id := 0) (ops := r_towpathlaw01_WritesSize_1) (by kernel_rfl) ?_
    refine reg_run [.plain] 1 [(0, [], Value.slice l_.ptr l_.len l_.cap)] (by kernel_rfl) (by kernel_rfl) ?_
    refine reg_end [(0, Value.slice l_.ptr l_.len l_.cap)] (by kernel_rfl) (by kernel_rfl) ?_
    change WpE _ _ c_towpathlaw01_WritesSize_3 _ _ _
    refine wpE_seq (x := c_towpathlaw01_WritesSize_4) (y := c_towpathlaw01_WritesSize_6) (by kernel_rfl) ?_
    refine wpE_region (id := 1) (ops := r_towpathlaw01_WritesSize_4) (by kernel_rfl) ?_
    refine reg_run [.plain, .plain, .plain] 3 [(0, [], Value.slice l_.ptr l_.len l_.cap), (3, [], Value.int .i64 ((l_.len : Nat) : Int))] (by kernel_rfl) (by kernel_rfl) ?_
    refine reg_end [(0, Value.slice l_.ptr l_.len l_.cap), (3, Value.int .i64 ((l_.len : Nat) : Int))] (by kernel_rfl) (by kernel_rfl) ?_
    change WpE _ _ c_towpathlaw01_WritesSize_6 _ _ _
    refine wpE_seq (x := c_towpathlaw01_WritesSize_7) (y := c_towpathlaw01_WritesSize_25) (by kernel_rfl) ?_
    refine wpE_seq (x := c_towpathlaw01_WritesSize_8) (y := c_towpathlaw01_WritesSize_10) (by kernel_rfl) ?_
    refine wpE_region (id := 2) (ops := r_towpathlaw01_WritesSize_8) (by kernel_rfl) ?_
    refine reg_run [.plain] 1 [(0, [], Value.slice l_.ptr l_.len l_.cap), (3, [], Value.int .i64 ((l_.len : Nat) : Int)), (4, [], Value.int .i64 0)] (by kernel_rfl) (by kernel_rfl) ?_
    refine reg_end [(0, Value.slice l_.ptr l_.len l_.cap), (3, Value.int .i64 ((l_.len : Nat) : Int)), (4, Value.int .i64 0)] (by kernel_rfl) (by kernel_rfl) ?_
    change WpE _ _ c_towpathlaw01_WritesSize_10 _ _ _
    refine wpE_block (id := 0) (x := c_towpathlaw01_WritesSize_11) (by kernel_rfl) ?_
    obtain ⟨I, μ, h0, hr⟩ := h
    refine wpE_loop (x := c_towpathlaw01_WritesSize_12) (by kernel_rfl) (fun m l w => ∃ (n_ : Int) (i : Int), l = [(0, Value.slice l_.ptr l_.len l_.cap), (3, Value.int .i64 n_), (4, Value.int .i64 i)] ∧ I n_ i w ∧ μ n_ i w = m) (l' := [(0, Value.slice l_.ptr l_.len l_.cap), (3, Value.int .i64 ((l_.len : Nat) : Int)), (4, Value.int .i64 0)]) (Sub.mk (by kernel_rfl)) ⟨((l_.len : Nat) : Int), 0, rfl, h0, rfl⟩ ?_
    rintro _ _ w1 ⟨n_, i, rfl, hI, rfl⟩
    obtain ⟨again_, again__h, h⟩ : ∃ again_ : Int → Int → World → Prop, (∀ n_' i' w', again_ n_' i' w' → I n_' i' w' ∧ μ n_' i' w' < μ n_ i w1) ∧ F_towpathlaw01_WritesSize_L0 l_ R again_ n_ i w1 := ⟨_, fun _ _ _ h => h, hr n_ i w1 hI⟩
    clear h0 hI
    unfold F_towpathlaw01_WritesSize_L0 at h
    refine wpE_seq (x := c_towpathlaw01_WritesSize_13) (y := c_towpathlaw01_WritesSize_19) (by kernel_rfl) ?_
    refine wpE_seq (x := c_towpathlaw01_WritesSize_14) (y := c_towpathlaw01_WritesSize_16) (by kernel_rfl) ?_
    refine wpE_region (id := 3) (ops := r_towpathlaw01_WritesSize_14) (by kernel_rfl) ?_
    refine reg_run [.plain, .plain, .plain, .plain, .plain, .plain, .plain, .pick] 8 [(0, [], Value.slice l_.ptr l_.len l_.cap), (3, [], Value.int .i64 n_), (4, [], Value.int .i64 i), (14, [], Value.bool ((decide (i < ((l_.len : Nat) : Int))) && (decide (n_ ≤ 1048576))))] (by kernel_rfl) (by kernel_rfl) ?_
    refine reg_end [(0, Value.slice l_.ptr l_.len l_.cap), (3, Value.int .i64 n_), (4, Value.int .i64 i), (14, Value.bool ((decide (i < ((l_.len : Nat) : Int))) && (decide (n_ ≤ 1048576))))] (by kernel_rfl) (by kernel_rfl) ?_
    change WpE _ _ c_towpathlaw01_WritesSize_16 _ _ _
    refine wpE_cond (o := (Operand.tmp 14)) (b := ((decide (i < ((l_.len : Nat) : Int))) && (decide (n_ ≤ 1048576)))) (x := c_towpathlaw01_WritesSize_17) (y := c_towpathlaw01_WritesSize_18) (by kernel_rfl) (by kernel_rfl) (fun hb => ?_) (fun hb => ?_)
    · replace h := h.1 hb
      refine wpE_skip (by kernel_rfl) ?_
      change WpE _ _ c_towpathlaw01_WritesSize_19 _ _ _
      refine wpE_seq (x := c_towpathlaw01_WritesSize_20) (y := c_towpathlaw01_WritesSize_23) (by kernel_rfl) ?_
      refine wpE_block (id := 1) (x := c_towpathlaw01_WritesSize_21) (by kernel_rfl) ?_
      refine wpE_drawregion (id := 5) (ops := r_towpathlaw01_WritesSize_21) (by kernel_rfl) (by kernel_rfl) (by kernel_rfl) ?_
      refine qreg_run [.plain, .plain, .plain] 3 [(0, [], Value.slice l_.ptr l_.len l_.cap), (3, [], Value.int .i64 n_), (4, [], Value.int .i64 i), (17, [], Value.int .i64 n_), (18, [], Value.slice l_.ptr l_.len l_.cap), (19, [], Value.int .i64 i)] (by kernel_rfl) (by kernel_rfl) ?_
      obtain ⟨hp_6, h⟩ := h
      refine qreg_conv [(0, [], Value.slice l_.ptr l_.len l_.cap), (3, [], Value.int .i64 n_), (4, [], Value.int .i64 i), (17, [], Value.int .i64 n_), (18, [], Value.slice (some ⟨(pblk l_.ptr), (poff l_.ptr), none⟩) l_.len l_.cap), (19, [], Value.int .i64 i)] (congrArg (fun pp => ([(0, [], Value.slice l_.ptr l_.len l_.cap), (3, [], Value.int .i64 n_), (4, [], Value.int .i64 i), (17, [], Value.int .i64 n_), (18, [], Value.slice pp l_.len l_.cap), (19, [], Value.int .i64 i)] : GEnv)) hp_6) ?_
      obtain ⟨h0, h1, h⟩ := h
      refine qreg_indexS (t := 25) (e := 61) (x := (Go.Operand.tmp 18)) (ix := (Go.Operand.tmp 19)) (b := (pblk l_.ptr)) (o := (poff l_.ptr)) (l := l_.len) (c := l_.cap) (k := .i64) (j := i) (ty := 0) (dst := some 20) (sz := 3) (by kernel_rfl) (by kernel_rfl) (by kernel_rfl) (by kernel_rfl) (by kernel_rfl) h0 h1 ?_
      refine qreg_run [.plain] 5 [(0, [], Value.slice l_.ptr l_.len l_.cap), (3, [], Value.int .i64 n_), (4, [], Value.int .i64 i), (17, [], Value.int .i64 n_), (21, [], Value.pointer (some ⟨(pblk l_.ptr), (poff l_.ptr) + i.toNat * 3, none⟩))] (by kernel_rfl) (by kernel_rfl) ?_
      obtain ⟨v22, hc, h⟩ := h
      refine qreg_load1 (t := 9) (a := (Go.Operand.tmp 21)) (b := (pblk l_.ptr)) (o := ((poff l_.ptr) + i.toNat * 3)) (ty := 9) (dst := some 22) (by kernel_rfl) (by kernel_rfl) (by kernel_rfl) hc ?_
      refine qreg_run [.plain, .plain, .plain, .plain] 10 [(0, [], Value.slice l_.ptr l_.len l_.cap), (3, [], Value.int .i64 n_), (4, [], Value.int .i64 i), (24, [], Value.int .i64 (IntKind.i64.wrap (n_ + ((v22.size : Nat) : Int)))), (25, [], Value.slice l_.ptr l_.len l_.cap), (26, [], Value.int .i64 i)] (by kernel_rfl) (by kernel_rfl) ?_
      obtain ⟨hp_7, h⟩ := h
      refine qreg_conv [(0, [], Value.slice l_.ptr l_.len l_.cap), (3, [], Value.int .i64 n_), (4, [], Value.int .i64 i), (24, [], Value.int .i64 (IntKind.i64.wrap (n_ + ((v22.size : Nat) : Int)))), (25, [], Value.slice (some ⟨(pblk l_.ptr), (poff l_.ptr), none⟩) l_.len l_.cap), (26, [], Value.int .i64 i)] (congrArg (fun pp => ([(0, [], Value.slice l_.ptr l_.len l_.cap), (3, [], Value.int .i64 n_), (4, [], Value.int .i64 i), (24, [], Value.int .i64 (IntKind.i64.wrap (n_ + ((v22.size : Nat) : Int)))), (25, [], Value.slice pp l_.len l_.cap), (26, [], Value.int .i64 i)] : GEnv)) hp_7) ?_
      obtain ⟨h0, h1, h⟩ := h
      refine qreg_indexS (t := 25) (e := 61) (x := (Go.Operand.tmp 25)) (ix := (Go.Operand.tmp 26)) (b := (pblk l_.ptr)) (o := (poff l_.ptr)) (l := l_.len) (c := l_.cap) (k := .i64) (j := i) (ty := 0) (dst := some 27) (sz := 3) (by kernel_rfl) (by kernel_rfl) (by kernel_rfl) (by kernel_rfl) (by kernel_rfl) h0 h1 ?_
      refine qreg_run [.plain] 12 [(0, [], Value.slice l_.ptr l_.len l_.cap), (3, [], Value.int .i64 n_), (4, [], Value.int .i64 i), (24, [], Value.int .i64 (IntKind.i64.wrap (n_ + ((v22.size : Nat) : Int)))), (28, [], Value.pointer (some ⟨(pblk l_.ptr), ((poff l_.ptr) + i.toNat * 3) + 1, none⟩))] (by kernel_rfl) (by kernel_rfl) ?_
      obtain ⟨v29, hc, h⟩ := h
      refine qreg_load1 (t := 9) (a := (Go.Operand.tmp 28)) (b := (pblk l_.ptr)) (o := (((poff l_.ptr) + i.toNat * 3) + 1)) (ty := 9) (dst := some 29) (by kernel_rfl) (by kernel_rfl) (by kernel_rfl) hc ?_
      refine qreg_run [.plain, .plain, .plain] 16 [(0, [], Value.slice l_.ptr l_.len l_.cap), (3, [], Value.int .i64 (IntKind.i64.wrap ((IntKind.i64.wrap (n_ + ((v22.size : Nat) : Int))) + ((v29.size : Nat) : Int)))), (4, [], Value.int .i64 i)] (by kernel_rfl) (by kernel_rfl) ?_
      refine qreg_end [(0, Value.slice l_.ptr l_.len l_.cap), (3, Value.int .i64 (IntKind.i64.wrap ((IntKind.i64.wrap (n_ + ((v22.size : Nat) : Int))) + ((v29.size : Nat) : Int)))), (4, Value.int .i64 i)] (by kernel_rfl) (by kernel_rfl) (fun w2 hw => ?_)
      replace h := h w2 hw
      clear hw
      change WpE _ _ c_towpathlaw01_WritesSize_23 _ _ _
      refine wpE_region (id := 4) (ops := r_towpathlaw01_WritesSize_23) (by kernel_rfl) ?_
      refine reg_run [.plain, .plain, .plain] 3 [(0, [], Value.slice l_.ptr l_.len l_.cap), (3, [], Value.int .i64 (IntKind.i64.wrap ((IntKind.i64.wrap (n_ + ((v22.size : Nat) : Int))) + ((v29.size : Nat) : Int)))), (4, [], Value.int .i64 (IntKind.i64.wrap (i + 1)))] (by kernel_rfl) (by kernel_rfl) ?_
      refine reg_end [(0, Value.slice l_.ptr l_.len l_.cap), (3, Value.int .i64 (IntKind.i64.wrap ((IntKind.i64.wrap (n_ + ((v22.size : Nat) : Int))) + ((v29.size : Nat) : Int)))), (4, Value.int .i64 (IntKind.i64.wrap (i + 1)))] (by kernel_rfl) (by kernel_rfl) ?_
      have hb_ := again__h _ _ _ h
      exact ⟨_, hb_.2, [(0, Value.slice l_.ptr l_.len l_.cap), (3, Value.int .i64 (IntKind.i64.wrap ((IntKind.i64.wrap (n_ + ((v22.size : Nat) : Int))) + ((v29.size : Nat) : Int)))), (4, Value.int .i64 (IntKind.i64.wrap (i + 1)))], Sub.mk (by kernel_rfl), (IntKind.i64.wrap ((IntKind.i64.wrap (n_ + ((v22.size : Nat) : Int))) + ((v29.size : Nat) : Int))), (IntKind.i64.wrap (i + 1)), rfl, hb_.1, rfl⟩
    · replace h := h.2 hb
      refine wpE_exit (id := 0) (by kernel_rfl) ?_
      change WpE _ _ c_towpathlaw01_WritesSize_25 _ _ _
      refine wpE_seq (x := c_towpathlaw01_WritesSize_26) (y := c_towpathlaw01_WritesSize_28) (by kernel_rfl) ?_
      refine wpE_region (id := 6) (ops := r_towpathlaw01_WritesSize_26) (by kernel_rfl) ?_
      refine reg_run [.plain, .plain] 2 [(2, [], Value.int .i64 n_)] (by kernel_rfl) (by kernel_rfl) ?_
      refine reg_end [(2, Value.int .i64 n_)] (by kernel_rfl) (by kernel_rfl) ?_
      change WpE _ _ c_towpathlaw01_WritesSize_28 _ _ _
      refine wpE_ret (by kernel_rfl) ?_
      repeat (first | refine seqQ_ret ?_ | refine blockQ_ret ?_ | refine loopQ_ret ?_ | refine cutQ_ret ?_)
      exact retS (rs := [(Go.ResultVar.tmp 2)]) (v := Value.int .i64 n_) (by kernel_rfl) (⟨by kernel_rfl, trivial⟩) ⟨n_, rfl, h⟩
  · rintro e w' ⟨v, rfl, r0, rfl, h⟩; exact ⟨r0, rfl, h⟩
end Go.Proofs.Ytfmkemmgakdddaa
