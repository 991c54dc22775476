/- WRITTEN BY PROGRAM (dec.py): for each Go function the clean formula F, the call's contract C, and the proof S that F gives C. -/
import Derived.Test.YtcgfmkpddhhmgaaRows
import Derived.Test.YtcgfmkpddhhmgaaGF
namespace Go.Proofs.Ytcgfmkpddhhmgaa
open Go
set_option linter.unusedVariables false

/-! ### towpath/towpathlaw01.Beyond (function 8) -/
noncomputable def c_towpathlaw01_Beyond_0 : Code := (Try.f8.body).getD Code.skip
noncomputable def c_towpathlaw01_Beyond_1 : Code := Code.l c_towpathlaw01_Beyond_0
noncomputable def r_towpathlaw01_Beyond_1 : Array Oper := Code.ops c_towpathlaw01_Beyond_1
noncomputable def c_towpathlaw01_Beyond_3 : Code := Code.r c_towpathlaw01_Beyond_0
noncomputable def c_towpathlaw01_Beyond_4 : Code := Code.l c_towpathlaw01_Beyond_3
noncomputable def r_towpathlaw01_Beyond_4 : Array Oper := Code.ops c_towpathlaw01_Beyond_4
noncomputable def c_towpathlaw01_Beyond_6 : Code := Code.r c_towpathlaw01_Beyond_3
noncomputable def c_towpathlaw01_Beyond_7 : Code := Code.l c_towpathlaw01_Beyond_6
noncomputable def c_towpathlaw01_Beyond_8 : Code := Code.l c_towpathlaw01_Beyond_7
noncomputable def r_towpathlaw01_Beyond_8 : Array Oper := Code.ops c_towpathlaw01_Beyond_8
noncomputable def c_towpathlaw01_Beyond_10 : Code := Code.r c_towpathlaw01_Beyond_7
noncomputable def c_towpathlaw01_Beyond_11 : Code := Code.l c_towpathlaw01_Beyond_10
noncomputable def c_towpathlaw01_Beyond_12 : Code := Code.l c_towpathlaw01_Beyond_11
noncomputable def c_towpathlaw01_Beyond_13 : Code := Code.l c_towpathlaw01_Beyond_12
noncomputable def c_towpathlaw01_Beyond_14 : Code := Code.l c_towpathlaw01_Beyond_13
noncomputable def r_towpathlaw01_Beyond_14 : Array Oper := Code.ops c_towpathlaw01_Beyond_14
noncomputable def c_towpathlaw01_Beyond_16 : Code := Code.r c_towpathlaw01_Beyond_13
noncomputable def c_towpathlaw01_Beyond_17 : Code := Code.l c_towpathlaw01_Beyond_16
noncomputable def c_towpathlaw01_Beyond_18 : Code := Code.r c_towpathlaw01_Beyond_16
noncomputable def c_towpathlaw01_Beyond_19 : Code := Code.r c_towpathlaw01_Beyond_12
noncomputable def c_towpathlaw01_Beyond_20 : Code := Code.l c_towpathlaw01_Beyond_19
noncomputable def c_towpathlaw01_Beyond_21 : Code := Code.l c_towpathlaw01_Beyond_20
noncomputable def c_towpathlaw01_Beyond_22 : Code := Code.l c_towpathlaw01_Beyond_21
noncomputable def r_towpathlaw01_Beyond_22 : Array Oper := Code.ops c_towpathlaw01_Beyond_22
noncomputable def c_towpathlaw01_Beyond_24 : Code := Code.r c_towpathlaw01_Beyond_21
noncomputable def c_towpathlaw01_Beyond_25 : Code := Code.l c_towpathlaw01_Beyond_24
noncomputable def r_towpathlaw01_Beyond_25 : Array Oper := Code.ops c_towpathlaw01_Beyond_25
noncomputable def c_towpathlaw01_Beyond_27 : Code := Code.r c_towpathlaw01_Beyond_24
noncomputable def c_towpathlaw01_Beyond_28 : Code := Code.l c_towpathlaw01_Beyond_27
noncomputable def c_towpathlaw01_Beyond_29 : Code := Code.l c_towpathlaw01_Beyond_28
noncomputable def r_towpathlaw01_Beyond_29 : Array Oper := Code.ops c_towpathlaw01_Beyond_29
noncomputable def c_towpathlaw01_Beyond_31 : Code := Code.r c_towpathlaw01_Beyond_28
noncomputable def c_towpathlaw01_Beyond_32 : Code := Code.r c_towpathlaw01_Beyond_27
noncomputable def c_towpathlaw01_Beyond_33 : Code := Code.r c_towpathlaw01_Beyond_19
noncomputable def r_towpathlaw01_Beyond_33 : Array Oper := Code.ops c_towpathlaw01_Beyond_33
noncomputable def c_towpathlaw01_Beyond_35 : Code := Code.r c_towpathlaw01_Beyond_6
noncomputable def c_towpathlaw01_Beyond_36 : Code := Code.l c_towpathlaw01_Beyond_35
noncomputable def r_towpathlaw01_Beyond_36 : Array Oper := Code.ops c_towpathlaw01_Beyond_36
noncomputable def c_towpathlaw01_Beyond_38 : Code := Code.r c_towpathlaw01_Beyond_35

set_option maxRecDepth 100000 in
set_option maxHeartbeats 4000000 in
theorem S_towpathlaw01_Beyond {l_ : Slc} {w : World} {R : Bool → World → Prop} (h : F_towpathlaw01_Beyond l_ R w) : C_towpathlaw01_Beyond l_ w R := by
  unfold F_towpathlaw01_Beyond at h
  unfold C_towpathlaw01_Beyond
  refine Calls.mono (calls_of_wpE (args := [Value.slice l_.ptr l_.len l_.cap]) (R := fun v w' => ∃ (r0 : Bool), v = Value.bool r0 ∧ R r0 w') Try.func8 (c := c_towpathlaw01_Beyond_0) (by kernel_rfl) 19 (by kernel_rfl) (by kernel_rfl) [(0, Value.slice l_.ptr l_.len l_.cap)] (by kernel_rfl) ?_) ?_
  · refine wpE_seq (x := c_towpathlaw01_Beyond_1) (y := c_towpathlaw01_Beyond_3) (by kernel_rfl) ?_
    refine wpE_region (id := 0) (ops := r_towpathlaw01_Beyond_1) (by kernel_rfl) ?_
    refine reg_run [.plain] 1 [(0, [], Value.slice l_.ptr l_.len l_.cap)] (by kernel_rfl) (by kernel_rfl) ?_
    refine reg_end [(0, Value.slice l_.ptr l_.len l_.cap)] (by kernel_rfl) (by kernel_rfl) ?_
    change WpE _ _ c_towpathlaw01_Beyond_3 _ _ _
    refine wpE_seq (x := c_towpathlaw01_Beyond_4) (y := c_towpathlaw01_Beyond_6) (by kernel_rfl) ?_
    refine wpE_region (id := 1) (ops := r_towpathlaw01_Beyond_4) (by kernel_rfl) ?_
    refine reg_run [.plain] 1 [(0, [], Value.slice l_.ptr l_.len l_.cap), (3, [], Value.int .i64 0)] (by kernel_rfl) (by kernel_rfl) ?_
    refine reg_end [(0, Value.slice l_.ptr l_.len l_.cap), (3, Value.int .i64 0)] (by kernel_rfl) (by kernel_rfl) ?_
    change WpE _ _ c_towpathlaw01_Beyond_6 _ _ _
    refine wpE_seq (x := c_towpathlaw01_Beyond_7) (y := c_towpathlaw01_Beyond_35) (by kernel_rfl) ?_
    refine wpE_seq (x := c_towpathlaw01_Beyond_8) (y := c_towpathlaw01_Beyond_10) (by kernel_rfl) ?_
    refine wpE_region (id := 2) (ops := r_towpathlaw01_Beyond_8) (by kernel_rfl) ?_
    refine reg_run [.plain] 1 [(0, [], Value.slice l_.ptr l_.len l_.cap), (3, [], Value.int .i64 0), (4, [], Value.int .i64 0)] (by kernel_rfl) (by kernel_rfl) ?_
    refine reg_end [(0, Value.slice l_.ptr l_.len l_.cap), (3, Value.int .i64 0), (4, Value.int .i64 0)] (by kernel_rfl) (by kernel_rfl) ?_
    change WpE _ _ c_towpathlaw01_Beyond_10 _ _ _
    refine wpE_block (id := 0) (x := c_towpathlaw01_Beyond_11) (by kernel_rfl) ?_
    obtain ⟨I, μ, h0, hr⟩ := h
    refine wpE_loop (x := c_towpathlaw01_Beyond_12) (by kernel_rfl) (fun m l w => ∃ (n_ : Int) (i : Int), l = [(0, Value.slice l_.ptr l_.len l_.cap), (3, Value.int .i64 n_), (4, Value.int .i64 i)] ∧ I n_ i w ∧ μ n_ i w = m) (l' := [(0, Value.slice l_.ptr l_.len l_.cap), (3, Value.int .i64 0), (4, Value.int .i64 0)]) (Sub.mk (by kernel_rfl)) ⟨0, 0, rfl, h0, rfl⟩ ?_
    rintro _ _ w1 ⟨n_, i, rfl, hI, rfl⟩
    obtain ⟨again_, again__h, h⟩ : ∃ again_ : Int → Int → World → Prop, (∀ n_' i' w', again_ n_' i' w' → I n_' i' w' ∧ μ n_' i' w' < μ n_ i w1) ∧ F_towpathlaw01_Beyond_L0 l_ R again_ n_ i w1 := ⟨_, fun _ _ _ h => h, hr n_ i w1 hI⟩
    clear h0 hI
    unfold F_towpathlaw01_Beyond_L0 at h
    refine wpE_seq (x := c_towpathlaw01_Beyond_13) (y := c_towpathlaw01_Beyond_19) (by kernel_rfl) ?_
    refine wpE_seq (x := c_towpathlaw01_Beyond_14) (y := c_towpathlaw01_Beyond_16) (by kernel_rfl) ?_
    refine wpE_region (id := 3) (ops := r_towpathlaw01_Beyond_14) (by kernel_rfl) ?_
    refine reg_run [.plain, .plain, .plain, .plain] 4 [(0, [], Value.slice l_.ptr l_.len l_.cap), (3, [], Value.int .i64 n_), (4, [], Value.int .i64 i), (8, [], Value.bool (decide (i < ((l_.len : Nat) : Int))))] (by kernel_rfl) (by kernel_rfl) ?_
    refine reg_end [(0, Value.slice l_.ptr l_.len l_.cap), (3, Value.int .i64 n_), (4, Value.int .i64 i), (8, Value.bool (decide (i < ((l_.len : Nat) : Int))))] (by kernel_rfl) (by kernel_rfl) ?_
    change WpE _ _ c_towpathlaw01_Beyond_16 _ _ _
    refine wpE_cond (o := (Operand.tmp 8)) (b := (decide (i < ((l_.len : Nat) : Int)))) (x := c_towpathlaw01_Beyond_17) (y := c_towpathlaw01_Beyond_18) (by kernel_rfl) (by kernel_rfl) (fun hb => ?_) (fun hb => ?_)
    · replace h := h.1 hb
      refine wpE_skip (by kernel_rfl) ?_
      change WpE _ _ c_towpathlaw01_Beyond_19 _ _ _
      refine wpE_seq (x := c_towpathlaw01_Beyond_20) (y := c_towpathlaw01_Beyond_33) (by kernel_rfl) ?_
      refine wpE_block (id := 1) (x := c_towpathlaw01_Beyond_21) (by kernel_rfl) ?_
      refine wpE_seq (x := c_towpathlaw01_Beyond_22) (y := c_towpathlaw01_Beyond_24) (by kernel_rfl) ?_
      refine wpE_region (id := 5) (ops := r_towpathlaw01_Beyond_22) (by kernel_rfl) ?_
      refine reg_run [.plain, .plain, .plain] 3 [(0, [], Value.slice l_.ptr l_.len l_.cap), (3, [], Value.int .i64 n_), (4, [], Value.int .i64 i), (11, [], Value.int .i64 n_), (12, [], Value.slice l_.ptr l_.len l_.cap), (13, [], Value.int .i64 i)] (by kernel_rfl) (by kernel_rfl) ?_
      obtain ⟨hp_7, h⟩ := h
      refine reg_conv [(0, [], Value.slice l_.ptr l_.len l_.cap), (3, [], Value.int .i64 n_), (4, [], Value.int .i64 i), (11, [], Value.int .i64 n_), (12, [], Value.slice (some ⟨(pblk l_.ptr), (poff l_.ptr), none⟩) l_.len l_.cap), (13, [], Value.int .i64 i)] (congrArg (fun pp => ([(0, [], Value.slice l_.ptr l_.len l_.cap), (3, [], Value.int .i64 n_), (4, [], Value.int .i64 i), (11, [], Value.int .i64 n_), (12, [], Value.slice pp l_.len l_.cap), (13, [], Value.int .i64 i)] : GEnv)) hp_7) ?_
      obtain ⟨h0, h1, h⟩ := h
      refine reg_indexS1 (t := 41) (e := 3) (x := (Go.Operand.tmp 12)) (ix := (Go.Operand.tmp 13)) (b := (pblk l_.ptr)) (o := (poff l_.ptr)) (l := l_.len) (c := l_.cap) (k := .i64) (j := i) (ty := 0) (dst := some 14) (by kernel_rfl) (by kernel_rfl) (by kernel_rfl) (by kernel_rfl) (by kernel_rfl) h0 h1 ?_
      refine reg_run [] 4 [(0, [], Value.slice l_.ptr l_.len l_.cap), (3, [], Value.int .i64 n_), (4, [], Value.int .i64 i), (11, [], Value.int .i64 n_), (14, [], Value.pointer (some ⟨(pblk l_.ptr), (poff l_.ptr) + i.toNat, none⟩))] (by kernel_rfl) (by kernel_rfl) ?_
      obtain ⟨v15, hc, h⟩ := h
      refine reg_load1 (t := 3) (a := (Go.Operand.tmp 14)) (b := (pblk l_.ptr)) (o := ((poff l_.ptr) + i.toNat)) (ty := 3) (dst := some 15) (by kernel_rfl) (by kernel_rfl) (by kernel_rfl) hc ?_
      refine reg_run [.plain, .plain] 7 [(0, [], Value.slice l_.ptr l_.len l_.cap), (3, [], Value.int .i64 (IntKind.i64.wrap (n_ + v15))), (4, [], Value.int .i64 i)] (by kernel_rfl) (by kernel_rfl) ?_
      refine reg_end [(0, Value.slice l_.ptr l_.len l_.cap), (3, Value.int .i64 (IntKind.i64.wrap (n_ + v15))), (4, Value.int .i64 i)] (by kernel_rfl) (by kernel_rfl) ?_
      change WpE _ _ c_towpathlaw01_Beyond_24 _ _ _
      refine wpE_seq (x := c_towpathlaw01_Beyond_25) (y := c_towpathlaw01_Beyond_27) (by kernel_rfl) ?_
      refine wpE_region (id := 6) (ops := r_towpathlaw01_Beyond_25) (by kernel_rfl) ?_
      refine reg_run [.plain, .plain] 2 [(0, [], Value.slice l_.ptr l_.len l_.cap), (3, [], Value.int .i64 (IntKind.i64.wrap (n_ + v15))), (4, [], Value.int .i64 i), (18, [], Value.bool (decide ((IntKind.i64.wrap (n_ + v15)) > 1048576)))] (by kernel_rfl) (by kernel_rfl) ?_
      refine reg_end [(0, Value.slice l_.ptr l_.len l_.cap), (3, Value.int .i64 (IntKind.i64.wrap (n_ + v15))), (4, Value.int .i64 i), (18, Value.bool (decide ((IntKind.i64.wrap (n_ + v15)) > 1048576)))] (by kernel_rfl) (by kernel_rfl) ?_
      change WpE _ _ c_towpathlaw01_Beyond_27 _ _ _
      refine wpE_cond (o := (Operand.tmp 18)) (b := (decide ((IntKind.i64.wrap (n_ + v15)) > 1048576))) (x := c_towpathlaw01_Beyond_28) (y := c_towpathlaw01_Beyond_32) (by kernel_rfl) (by kernel_rfl) (fun hb => ?_) (fun hb => ?_)
      · replace h := h.1 hb
        refine wpE_seq (x := c_towpathlaw01_Beyond_29) (y := c_towpathlaw01_Beyond_31) (by kernel_rfl) ?_
        refine wpE_region (id := 7) (ops := r_towpathlaw01_Beyond_29) (by kernel_rfl) ?_
        refine reg_run [.plain] 1 [(2, [], Value.bool true)] (by kernel_rfl) (by kernel_rfl) ?_
        refine reg_end [(2, Value.bool true)] (by kernel_rfl) (by kernel_rfl) ?_
        change WpE _ _ c_towpathlaw01_Beyond_31 _ _ _
        refine wpE_ret (by kernel_rfl) ?_
        repeat (first | refine seqQ_ret ?_ | refine blockQ_ret ?_ | refine loopQ_ret ?_ | refine cutQ_ret ?_)
        exact retS (rs := [(Go.ResultVar.tmp 2)]) (v := Value.bool true) (by kernel_rfl) (⟨by kernel_rfl, trivial⟩) ⟨true, rfl, h⟩
      · replace h := h.2 hb
        refine wpE_skip (by kernel_rfl) ?_
        change WpE _ _ c_towpathlaw01_Beyond_33 _ _ _
        refine wpE_region (id := 4) (ops := r_towpathlaw01_Beyond_33) (by kernel_rfl) ?_
        refine reg_run [.plain, .plain, .plain] 3 [(0, [], Value.slice l_.ptr l_.len l_.cap), (3, [], Value.int .i64 (IntKind.i64.wrap (n_ + v15))), (4, [], Value.int .i64 (IntKind.i64.wrap (i + 1)))] (by kernel_rfl) (by kernel_rfl) ?_
        refine reg_end [(0, Value.slice l_.ptr l_.len l_.cap), (3, Value.int .i64 (IntKind.i64.wrap (n_ + v15))), (4, Value.int .i64 (IntKind.i64.wrap (i + 1)))] (by kernel_rfl) (by kernel_rfl) ?_
        have hb_ := again__h _ _ _ h
        exact ⟨_, hb_.2, [(0, Value.slice l_.ptr l_.len l_.cap), (3, Value.int .i64 (IntKind.i64.wrap (n_ + v15))), (4, Value.int .i64 (IntKind.i64.wrap (i + 1)))], Sub.mk (by kernel_rfl), (IntKind.i64.wrap (n_ + v15)), (IntKind.i64.wrap (i + 1)), rfl, hb_.1, rfl⟩
    · replace h := h.2 hb
      refine wpE_exit (id := 0) (by kernel_rfl) ?_
      change WpE _ _ c_towpathlaw01_Beyond_35 _ _ _
      refine wpE_seq (x := c_towpathlaw01_Beyond_36) (y := c_towpathlaw01_Beyond_38) (by kernel_rfl) ?_
      refine wpE_region (id := 8) (ops := r_towpathlaw01_Beyond_36) (by kernel_rfl) ?_
      refine reg_run [.plain] 1 [(2, [], Value.bool false)] (by kernel_rfl) (by kernel_rfl) ?_
      refine reg_end [(2, Value.bool false)] (by kernel_rfl) (by kernel_rfl) ?_
      change WpE _ _ c_towpathlaw01_Beyond_38 _ _ _
      refine wpE_ret (by kernel_rfl) ?_
      repeat (first | refine seqQ_ret ?_ | refine blockQ_ret ?_ | refine loopQ_ret ?_ | refine cutQ_ret ?_)
      exact retS (rs := [(Go.ResultVar.tmp 2)]) (v := Value.bool false) (by kernel_rfl) (⟨by kernel_rfl, trivial⟩) ⟨false, rfl, h⟩
  · rintro e w' ⟨v, rfl, r0, rfl, h⟩; exact ⟨r0, rfl, h⟩

/-! ### towpath/towpathlaw01.VersionsSize (function 9) -/
noncomputable def c_towpathlaw01_VersionsSize_0 : Code := (Try.f9.body).getD Code.skip
noncomputable def c_towpathlaw01_VersionsSize_1 : Code := Code.l c_towpathlaw01_VersionsSize_0
noncomputable def r_towpathlaw01_VersionsSize_1 : Array Oper := Code.ops c_towpathlaw01_VersionsSize_1
noncomputable def c_towpathlaw01_VersionsSize_3 : Code := Code.r c_towpathlaw01_VersionsSize_0
noncomputable def c_towpathlaw01_VersionsSize_4 : Code := Code.l c_towpathlaw01_VersionsSize_3
noncomputable def r_towpathlaw01_VersionsSize_4 : Array Oper := Code.ops c_towpathlaw01_VersionsSize_4
noncomputable def c_towpathlaw01_VersionsSize_6 : Code := Code.r c_towpathlaw01_VersionsSize_3
noncomputable def c_towpathlaw01_VersionsSize_7 : Code := Code.l c_towpathlaw01_VersionsSize_6
noncomputable def c_towpathlaw01_VersionsSize_8 : Code := Code.l c_towpathlaw01_VersionsSize_7
noncomputable def r_towpathlaw01_VersionsSize_8 : Array Oper := Code.ops c_towpathlaw01_VersionsSize_8
noncomputable def c_towpathlaw01_VersionsSize_10 : Code := Code.r c_towpathlaw01_VersionsSize_7
noncomputable def c_towpathlaw01_VersionsSize_11 : Code := Code.l c_towpathlaw01_VersionsSize_10
noncomputable def c_towpathlaw01_VersionsSize_12 : Code := Code.l c_towpathlaw01_VersionsSize_11
noncomputable def c_towpathlaw01_VersionsSize_13 : Code := Code.l c_towpathlaw01_VersionsSize_12
noncomputable def c_towpathlaw01_VersionsSize_14 : Code := Code.l c_towpathlaw01_VersionsSize_13
noncomputable def r_towpathlaw01_VersionsSize_14 : Array Oper := Code.ops c_towpathlaw01_VersionsSize_14
noncomputable def c_towpathlaw01_VersionsSize_16 : Code := Code.r c_towpathlaw01_VersionsSize_13
noncomputable def c_towpathlaw01_VersionsSize_17 : Code := Code.l c_towpathlaw01_VersionsSize_16
noncomputable def c_towpathlaw01_VersionsSize_18 : Code := Code.r c_towpathlaw01_VersionsSize_16
noncomputable def c_towpathlaw01_VersionsSize_19 : Code := Code.r c_towpathlaw01_VersionsSize_12
noncomputable def c_towpathlaw01_VersionsSize_20 : Code := Code.l c_towpathlaw01_VersionsSize_19
noncomputable def c_towpathlaw01_VersionsSize_21 : Code := Code.l c_towpathlaw01_VersionsSize_20
noncomputable def r_towpathlaw01_VersionsSize_21 : Array Oper := Code.ops c_towpathlaw01_VersionsSize_21
noncomputable def c_towpathlaw01_VersionsSize_23 : Code := Code.r c_towpathlaw01_VersionsSize_19
noncomputable def r_towpathlaw01_VersionsSize_23 : Array Oper := Code.ops c_towpathlaw01_VersionsSize_23
noncomputable def c_towpathlaw01_VersionsSize_25 : Code := Code.r c_towpathlaw01_VersionsSize_6
noncomputable def c_towpathlaw01_VersionsSize_26 : Code := Code.l c_towpathlaw01_VersionsSize_25
noncomputable def r_towpathlaw01_VersionsSize_26 : Array Oper := Code.ops c_towpathlaw01_VersionsSize_26
noncomputable def c_towpathlaw01_VersionsSize_28 : Code := Code.r c_towpathlaw01_VersionsSize_25

set_option maxRecDepth 100000 in
set_option maxHeartbeats 4000000 in
theorem S_towpathlaw01_VersionsSize {l_ : Slc} {w : World} {R : Int → World → Prop} (h : F_towpathlaw01_VersionsSize l_ R w) : C_towpathlaw01_VersionsSize l_ w R := by
  unfold F_towpathlaw01_VersionsSize at h
  unfold C_towpathlaw01_VersionsSize
  refine Calls.mono (calls_of_wpE (args := [Value.slice l_.ptr l_.len l_.cap]) (R := fun v w' => ∃ (r0 : Int), v = Value.int .i64 r0 ∧ R r0 w') Try.func9 (c := c_towpathlaw01_VersionsSize_0) (by kernel_rfl) 26 (by kernel_rfl) (by kernel_rfl) [(0, Value.slice l_.ptr l_.len l_.cap)] (by kernel_rfl) ?_) ?_
  · refine wpE_seq (x := c_towpathlaw01_VersionsSize_1) (y := c_towpathlaw01_VersionsSize_3) (by kernel_rfl) ?_
    refine wpE_region (id := 0) (ops := r_towpathlaw01_VersionsSize_1) (by kernel_rfl) ?_
    refine reg_run [.plain] 1 [(0, [], Value.slice l_.ptr l_.len l_.cap)] (by kernel_rfl) (by kernel_rfl) ?_
    refine reg_end [(0, Value.slice l_.ptr l_.len l_.cap)] (by kernel_rfl) (by kernel_rfl) ?_
    change WpE _ _ c_towpathlaw01_VersionsSize_3 _ _ _
    refine wpE_seq (x := c_towpathlaw01_VersionsSize_4) (y := c_towpathlaw01_VersionsSize_6) (by kernel_rfl) ?_
    refine wpE_region (id := 1) (ops := r_towpathlaw01_VersionsSize_4) (by kernel_rfl) ?_
    refine reg_run [.plain, .plain, .plain] 3 [(0, [], Value.slice l_.ptr l_.len l_.cap), (3, [], Value.int .i64 ((l_.len : Nat) : Int))] (by kernel_rfl) (by kernel_rfl) ?_
    refine reg_end [(0, Value.slice l_.ptr l_.len l_.cap), (3, Value.int .i64 ((l_.len : Nat) : Int))] (by kernel_rfl) (by kernel_rfl) ?_
    change WpE _ _ c_towpathlaw01_VersionsSize_6 _ _ _
    refine wpE_seq (x := c_towpathlaw01_VersionsSize_7) (y := c_towpathlaw01_VersionsSize_25) (by kernel_rfl) ?_
    refine wpE_seq (x := c_towpathlaw01_VersionsSize_8) (y := c_towpathlaw01_VersionsSize_10) (by kernel_rfl) ?_
    refine wpE_region (id := 2) (ops := r_towpathlaw01_VersionsSize_8) (by kernel_rfl) ?_
    refine reg_run [.plain] 1 [(0, [], Value.slice l_.ptr l_.len l_.cap), (3, [], Value.int .i64 ((l_.len : Nat) : Int)), (4, [], Value.int .i64 0)] (by kernel_rfl) (by kernel_rfl) ?_
    refine reg_end [(0, Value.slice l_.ptr l_.len l_.cap), (3, Value.int .i64 ((l_.len : Nat) : Int)), (4, Value.int .i64 0)] (by kernel_rfl) (by kernel_rfl) ?_
    change WpE _ _ c_towpathlaw01_VersionsSize_10 _ _ _
    refine wpE_block (id := 0) (x := c_towpathlaw01_VersionsSize_11) (by kernel_rfl) ?_
    obtain ⟨I, μ, h0, hr⟩ := h
    refine wpE_loop (x := c_towpathlaw01_VersionsSize_12) (by kernel_rfl) (fun m l w => ∃ (n_ : Int) (i : Int), l = [(0, Value.slice l_.ptr l_.len l_.cap), (3, Value.int .i64 n_), (4, Value.int .i64 i)] ∧ I n_ i w ∧ μ n_ i w = m) (l' := [(0, Value.slice l_.ptr l_.len l_.cap), (3, Value.int .i64 ((l_.len : Nat) : Int)), (4, Value.int .i64 0)]) (Sub.mk (by kernel_rfl)) ⟨((l_.len : Nat) : Int), 0, rfl, h0, rfl⟩ ?_
    rintro _ _ w1 ⟨n_, i, rfl, hI, rfl⟩
    obtain ⟨again_, again__h, h⟩ : ∃ again_ : Int → Int → World → Prop, (∀ n_' i' w', again_ n_' i' w' → I n_' i' w' ∧ μ n_' i' w' < μ n_ i w1) ∧ F_towpathlaw01_VersionsSize_L0 l_ R again_ n_ i w1 := ⟨_, fun _ _ _ h => h, hr n_ i w1 hI⟩
    clear h0 hI
    unfold F_towpathlaw01_VersionsSize_L0 at h
    refine wpE_seq (x := c_towpathlaw01_VersionsSize_13) (y := c_towpathlaw01_VersionsSize_19) (by kernel_rfl) ?_
    refine wpE_seq (x := c_towpathlaw01_VersionsSize_14) (y := c_towpathlaw01_VersionsSize_16) (by kernel_rfl) ?_
    refine wpE_region (id := 3) (ops := r_towpathlaw01_VersionsSize_14) (by kernel_rfl) ?_
    refine reg_run [.plain, .plain, .plain, .plain, .plain, .plain, .plain, .pick] 8 [(0, [], Value.slice l_.ptr l_.len l_.cap), (3, [], Value.int .i64 n_), (4, [], Value.int .i64 i), (14, [], Value.bool ((decide (i < ((l_.len : Nat) : Int))) && (decide (n_ ≤ 1048576))))] (by kernel_rfl) (by kernel_rfl) ?_
    refine reg_end [(0, Value.slice l_.ptr l_.len l_.cap), (3, Value.int .i64 n_), (4, Value.int .i64 i), (14, Value.bool ((decide (i < ((l_.len : Nat) : Int))) && (decide (n_ ≤ 1048576))))] (by kernel_rfl) (by kernel_rfl) ?_
    change WpE _ _ c_towpathlaw01_VersionsSize_16 _ _ _
    refine wpE_cond (o := (Operand.tmp 14)) (b := ((decide (i < ((l_.len : Nat) : Int))) && (decide (n_ ≤ 1048576)))) (x := c_towpathlaw01_VersionsSize_17) (y := c_towpathlaw01_VersionsSize_18) (by kernel_rfl) (by kernel_rfl) (fun hb => ?_) (fun hb => ?_)
    · replace h := h.1 hb
      refine wpE_skip (by kernel_rfl) ?_
      change WpE _ _ c_towpathlaw01_VersionsSize_19 _ _ _
      refine wpE_seq (x := c_towpathlaw01_VersionsSize_20) (y := c_towpathlaw01_VersionsSize_23) (by kernel_rfl) ?_
      refine wpE_block (id := 1) (x := c_towpathlaw01_VersionsSize_21) (by kernel_rfl) ?_
      refine wpE_region (id := 5) (ops := r_towpathlaw01_VersionsSize_21) (by kernel_rfl) ?_
      refine reg_run [.plain, .plain, .plain] 3 [(0, [], Value.slice l_.ptr l_.len l_.cap), (3, [], Value.int .i64 n_), (4, [], Value.int .i64 i), (17, [], Value.int .i64 n_), (18, [], Value.slice l_.ptr l_.len l_.cap), (19, [], Value.int .i64 i)] (by kernel_rfl) (by kernel_rfl) ?_
      obtain ⟨hp_3, h⟩ := h
      refine reg_conv [(0, [], Value.slice l_.ptr l_.len l_.cap), (3, [], Value.int .i64 n_), (4, [], Value.int .i64 i), (17, [], Value.int .i64 n_), (18, [], Value.slice (some ⟨(pblk l_.ptr), (poff l_.ptr), none⟩) l_.len l_.cap), (19, [], Value.int .i64 i)] (congrArg (fun pp => ([(0, [], Value.slice l_.ptr l_.len l_.cap), (3, [], Value.int .i64 n_), (4, [], Value.int .i64 i), (17, [], Value.int .i64 n_), (18, [], Value.slice pp l_.len l_.cap), (19, [], Value.int .i64 i)] : GEnv)) hp_3) ?_
      obtain ⟨h0, h1, h⟩ := h
      refine reg_indexS (t := 22) (e := 30) (x := (Go.Operand.tmp 18)) (ix := (Go.Operand.tmp 19)) (b := (pblk l_.ptr)) (o := (poff l_.ptr)) (l := l_.len) (c := l_.cap) (k := .i64) (j := i) (ty := 0) (dst := some 20) (sz := 3) (by kernel_rfl) (by kernel_rfl) (by kernel_rfl) (by kernel_rfl) (by kernel_rfl) h0 h1 ?_
      refine reg_run [.plain] 5 [(0, [], Value.slice l_.ptr l_.len l_.cap), (3, [], Value.int .i64 n_), (4, [], Value.int .i64 i), (17, [], Value.int .i64 n_), (21, [], Value.pointer (some ⟨(pblk l_.ptr), ((poff l_.ptr) + i.toNat * 3) + 1, none⟩))] (by kernel_rfl) (by kernel_rfl) ?_
      obtain ⟨v22, hc, h⟩ := h
      refine reg_load1 (t := 9) (a := (Go.Operand.tmp 21)) (b := (pblk l_.ptr)) (o := (((poff l_.ptr) + i.toNat * 3) + 1)) (ty := 9) (dst := some 22) (by kernel_rfl) (by kernel_rfl) (by kernel_rfl) hc ?_
      refine reg_run [.plain, .plain, .plain] 9 [(0, [], Value.slice l_.ptr l_.len l_.cap), (3, [], Value.int .i64 (IntKind.i64.wrap (n_ + ((v22.size : Nat) : Int)))), (4, [], Value.int .i64 i)] (by kernel_rfl) (by kernel_rfl) ?_
      refine reg_end [(0, Value.slice l_.ptr l_.len l_.cap), (3, Value.int .i64 (IntKind.i64.wrap (n_ + ((v22.size : Nat) : Int)))), (4, Value.int .i64 i)] (by kernel_rfl) (by kernel_rfl) ?_
      change WpE _ _ c_towpathlaw01_VersionsSize_23 _ _ _
      refine wpE_region (id := 4) (ops := r_towpathlaw01_VersionsSize_23) (by kernel_rfl) ?_
      refine reg_run [.plain, .plain, .plain] 3 [(0, [], Value.slice l_.ptr l_.len l_.cap), (3, [], Value.int .i64 (IntKind.i64.wrap (n_ + ((v22.size : Nat) : Int)))), (4, [], Value.int .i64 (IntKind.i64.wrap (i + 1)))] (by kernel_rfl) (by kernel_rfl) ?_
      refine reg_end [(0, Value.slice l_.ptr l_.len l_.cap), (3, Value.int .i64 (IntKind.i64.wrap (n_ + ((v22.size : Nat) : Int)))), (4, Value.int .i64 (IntKind.i64.wrap (i + 1)))] (by kernel_rfl) (by kernel_rfl) ?_
      have hb_ := again__h _ _ _ h
      exact ⟨_, hb_.2, [(0, Value.slice l_.ptr l_.len l_.cap), (3, Value.int .i64 (IntKind.i64.wrap (n_ + ((v22.size : Nat) : Int)))), (4, Value.int .i64 (IntKind.i64.wrap (i + 1)))], Sub.mk (by kernel_rfl), (IntKind.i64.wrap (n_ + ((v22.size : Nat) : Int))), (IntKind.i64.wrap (i + 1)), rfl, hb_.1, rfl⟩
    · replace h := h.2 hb
      refine wpE_exit (id := 0) (by kernel_rfl) ?_
      change WpE _ _ c_towpathlaw01_VersionsSize_25 _ _ _
      refine wpE_seq (x := c_towpathlaw01_VersionsSize_26) (y := c_towpathlaw01_VersionsSize_28) (by kernel_rfl) ?_
      refine wpE_region (id := 6) (ops := r_towpathlaw01_VersionsSize_26) (by kernel_rfl) ?_
      refine reg_run [.plain, .plain] 2 [(2, [], Value.int .i64 n_)] (by kernel_rfl) (by kernel_rfl) ?_
      refine reg_end [(2, Value.int .i64 n_)] (by kernel_rfl) (by kernel_rfl) ?_
      change WpE _ _ c_towpathlaw01_VersionsSize_28 _ _ _
      refine wpE_ret (by kernel_rfl) ?_
      repeat (first | refine seqQ_ret ?_ | refine blockQ_ret ?_ | refine loopQ_ret ?_ | refine cutQ_ret ?_)
      exact retS (rs := [(Go.ResultVar.tmp 2)]) (v := Value.int .i64 n_) (by kernel_rfl) (⟨by kernel_rfl, trivial⟩) ⟨n_, rfl, h⟩
  · rintro e w' ⟨v, rfl, r0, rfl, h⟩; exact ⟨r0, rfl, h⟩

/-! ### towpath/towpathlaw01.SameVersions (function 12) -/
noncomputable def c_towpathlaw01_SameVersions_0 : Code := (Try.f12.body).getD Code.skip
noncomputable def c_towpathlaw01_SameVersions_1 : Code := Code.l c_towpathlaw01_SameVersions_0
noncomputable def r_towpathlaw01_SameVersions_1 : Array Oper := Code.ops c_towpathlaw01_SameVersions_1
noncomputable def c_towpathlaw01_SameVersions_3 : Code := Code.r c_towpathlaw01_SameVersions_0
noncomputable def c_towpathlaw01_SameVersions_4 : Code := Code.l c_towpathlaw01_SameVersions_3
noncomputable def c_towpathlaw01_SameVersions_5 : Code := Code.l c_towpathlaw01_SameVersions_4
noncomputable def r_towpathlaw01_SameVersions_5 : Array Oper := Code.ops c_towpathlaw01_SameVersions_5
noncomputable def c_towpathlaw01_SameVersions_7 : Code := Code.r c_towpathlaw01_SameVersions_4
noncomputable def c_towpathlaw01_SameVersions_8 : Code := Code.l c_towpathlaw01_SameVersions_7
noncomputable def c_towpathlaw01_SameVersions_9 : Code := Code.l c_towpathlaw01_SameVersions_8
noncomputable def r_towpathlaw01_SameVersions_9 : Array Oper := Code.ops c_towpathlaw01_SameVersions_9
noncomputable def c_towpathlaw01_SameVersions_11 : Code := Code.r c_towpathlaw01_SameVersions_8
noncomputable def c_towpathlaw01_SameVersions_12 : Code := Code.r c_towpathlaw01_SameVersions_7
noncomputable def c_towpathlaw01_SameVersions_13 : Code := Code.r c_towpathlaw01_SameVersions_3
noncomputable def c_towpathlaw01_SameVersions_14 : Code := Code.l c_towpathlaw01_SameVersions_13
noncomputable def c_towpathlaw01_SameVersions_15 : Code := Code.l c_towpathlaw01_SameVersions_14
noncomputable def r_towpathlaw01_SameVersions_15 : Array Oper := Code.ops c_towpathlaw01_SameVersions_15
noncomputable def c_towpathlaw01_SameVersions_17 : Code := Code.r c_towpathlaw01_SameVersions_14
noncomputable def c_towpathlaw01_SameVersions_18 : Code := Code.l c_towpathlaw01_SameVersions_17
noncomputable def c_towpathlaw01_SameVersions_19 : Code := Code.l c_towpathlaw01_SameVersions_18
noncomputable def c_towpathlaw01_SameVersions_20 : Code := Code.l c_towpathlaw01_SameVersions_19
noncomputable def c_towpathlaw01_SameVersions_21 : Code := Code.l c_towpathlaw01_SameVersions_20
noncomputable def r_towpathlaw01_SameVersions_21 : Array Oper := Code.ops c_towpathlaw01_SameVersions_21
noncomputable def c_towpathlaw01_SameVersions_23 : Code := Code.r c_towpathlaw01_SameVersions_20
noncomputable def c_towpathlaw01_SameVersions_24 : Code := Code.l c_towpathlaw01_SameVersions_23
noncomputable def c_towpathlaw01_SameVersions_25 : Code := Code.r c_towpathlaw01_SameVersions_23
noncomputable def c_towpathlaw01_SameVersions_26 : Code := Code.r c_towpathlaw01_SameVersions_19
noncomputable def c_towpathlaw01_SameVersions_27 : Code := Code.l c_towpathlaw01_SameVersions_26
noncomputable def c_towpathlaw01_SameVersions_28 : Code := Code.l c_towpathlaw01_SameVersions_27
noncomputable def c_towpathlaw01_SameVersions_29 : Code := Code.l c_towpathlaw01_SameVersions_28
noncomputable def r_towpathlaw01_SameVersions_29 : Array Oper := Code.ops c_towpathlaw01_SameVersions_29
noncomputable def c_towpathlaw01_SameVersions_31 : Code := Code.r c_towpathlaw01_SameVersions_28
noncomputable def c_towpathlaw01_SameVersions_32 : Code := Code.l c_towpathlaw01_SameVersions_31
noncomputable def c_towpathlaw01_SameVersions_33 : Code := Code.l c_towpathlaw01_SameVersions_32
noncomputable def r_towpathlaw01_SameVersions_33 : Array Oper := Code.ops c_towpathlaw01_SameVersions_33
noncomputable def c_towpathlaw01_SameVersions_35 : Code := Code.r c_towpathlaw01_SameVersions_32
noncomputable def c_towpathlaw01_SameVersions_36 : Code := Code.r c_towpathlaw01_SameVersions_31
noncomputable def c_towpathlaw01_SameVersions_37 : Code := Code.r c_towpathlaw01_SameVersions_26
noncomputable def r_towpathlaw01_SameVersions_37 : Array Oper := Code.ops c_towpathlaw01_SameVersions_37
noncomputable def c_towpathlaw01_SameVersions_39 : Code := Code.r c_towpathlaw01_SameVersions_13
noncomputable def c_towpathlaw01_SameVersions_40 : Code := Code.l c_towpathlaw01_SameVersions_39
noncomputable def r_towpathlaw01_SameVersions_40 : Array Oper := Code.ops c_towpathlaw01_SameVersions_40
noncomputable def c_towpathlaw01_SameVersions_42 : Code := Code.r c_towpathlaw01_SameVersions_39

set_option maxRecDepth 100000 in
set_option maxHeartbeats 4000000 in
theorem S_towpathlaw01_SameVersions {a_ : Slc} {b_ : Slc} {w : World} {R : Bool → World → Prop} (h : F_towpathlaw01_SameVersions a_ b_ R w) : C_towpathlaw01_SameVersions a_ b_ w R := by
  unfold F_towpathlaw01_SameVersions at h
  unfold C_towpathlaw01_SameVersions
  refine Calls.mono (calls_of_wpE (args := [Value.slice a_.ptr a_.len a_.cap, Value.slice b_.ptr b_.len b_.cap]) (R := fun v w' => ∃ (r0 : Bool), v = Value.bool r0 ∧ R r0 w') Try.func12 (c := c_towpathlaw01_SameVersions_0) (by kernel_rfl) 26 (by kernel_rfl) (by kernel_rfl) [(0, Value.slice a_.ptr a_.len a_.cap), (1, Value.slice b_.ptr b_.len b_.cap)] (by kernel_rfl) ?_) ?_
  · refine wpE_seq (x := c_towpathlaw01_SameVersions_1) (y := c_towpathlaw01_SameVersions_3) (by kernel_rfl) ?_
    refine wpE_region (id := 0) (ops := r_towpathlaw01_SameVersions_1) (by kernel_rfl) ?_
    refine reg_run [.plain] 1 [(0, [], Value.slice a_.ptr a_.len a_.cap), (1, [], Value.slice b_.ptr b_.len b_.cap)] (by kernel_rfl) (by kernel_rfl) ?_
    refine reg_end [(0, Value.slice a_.ptr a_.len a_.cap), (1, Value.slice b_.ptr b_.len b_.cap)] (by kernel_rfl) (by kernel_rfl) ?_
    change WpE _ _ c_towpathlaw01_SameVersions_3 _ _ _
    refine wpE_seq (x := c_towpathlaw01_SameVersions_4) (y := c_towpathlaw01_SameVersions_13) (by kernel_rfl) ?_
    refine wpE_seq (x := c_towpathlaw01_SameVersions_5) (y := c_towpathlaw01_SameVersions_7) (by kernel_rfl) ?_
    refine wpE_region (id := 1) (ops := r_towpathlaw01_SameVersions_5) (by kernel_rfl) ?_
    refine reg_run [.plain, .plain, .plain, .plain, .plain] 5 [(0, [], Value.slice a_.ptr a_.len a_.cap), (1, [], Value.slice b_.ptr b_.len b_.cap), (10, [], Value.bool (((a_.len : Nat) : Int) != ((b_.len : Nat) : Int)))] (by kernel_rfl) (by kernel_rfl) ?_
    refine reg_end [(0, Value.slice a_.ptr a_.len a_.cap), (1, Value.slice b_.ptr b_.len b_.cap), (10, Value.bool (((a_.len : Nat) : Int) != ((b_.len : Nat) : Int)))] (by kernel_rfl) (by kernel_rfl) ?_
    change WpE _ _ c_towpathlaw01_SameVersions_7 _ _ _
    refine wpE_cond (o := (Operand.tmp 10)) (b := (((a_.len : Nat) : Int) != ((b_.len : Nat) : Int))) (x := c_towpathlaw01_SameVersions_8) (y := c_towpathlaw01_SameVersions_12) (by kernel_rfl) (by kernel_rfl) (fun hb => ?_) (fun hb => ?_)
    · replace h := h.1 hb
      refine wpE_seq (x := c_towpathlaw01_SameVersions_9) (y := c_towpathlaw01_SameVersions_11) (by kernel_rfl) ?_
      refine wpE_region (id := 2) (ops := r_towpathlaw01_SameVersions_9) (by kernel_rfl) ?_
      refine reg_run [.plain] 1 [(4, [], Value.bool false)] (by kernel_rfl) (by kernel_rfl) ?_
      refine reg_end [(4, Value.bool false)] (by kernel_rfl) (by kernel_rfl) ?_
      change WpE _ _ c_towpathlaw01_SameVersions_11 _ _ _
      refine wpE_ret (by kernel_rfl) ?_
      repeat (first | refine seqQ_ret ?_ | refine blockQ_ret ?_ | refine loopQ_ret ?_ | refine cutQ_ret ?_)
      exact retS (rs := [(Go.ResultVar.tmp 4)]) (v := Value.bool false) (by kernel_rfl) (⟨by kernel_rfl, trivial⟩) ⟨false, rfl, h⟩
    · replace h := h.2 hb
      refine wpE_skip (by kernel_rfl) ?_
      change WpE _ _ c_towpathlaw01_SameVersions_13 _ _ _
      refine wpE_seq (x := c_towpathlaw01_SameVersions_14) (y := c_towpathlaw01_SameVersions_39) (by kernel_rfl) ?_
      refine wpE_seq (x := c_towpathlaw01_SameVersions_15) (y := c_towpathlaw01_SameVersions_17) (by kernel_rfl) ?_
      refine wpE_region (id := 3) (ops := r_towpathlaw01_SameVersions_15) (by kernel_rfl) ?_
      refine reg_run [.plain] 1 [(0, [], Value.slice a_.ptr a_.len a_.cap), (1, [], Value.slice b_.ptr b_.len b_.cap), (5, [], Value.int .i64 0)] (by kernel_rfl) (by kernel_rfl) ?_
      refine reg_end [(0, Value.slice a_.ptr a_.len a_.cap), (1, Value.slice b_.ptr b_.len b_.cap), (5, Value.int .i64 0)] (by kernel_rfl) (by kernel_rfl) ?_
      change WpE _ _ c_towpathlaw01_SameVersions_17 _ _ _
      refine wpE_block (id := 0) (x := c_towpathlaw01_SameVersions_18) (by kernel_rfl) ?_
      obtain ⟨I, μ, h0, hr⟩ := h
      refine wpE_loop (x := c_towpathlaw01_SameVersions_19) (by kernel_rfl) (fun m l w => ∃ (i : Int), l = [(0, Value.slice a_.ptr a_.len a_.cap), (1, Value.slice b_.ptr b_.len b_.cap), (5, Value.int .i64 i)] ∧ I i w ∧ μ i w = m) (l' := [(0, Value.slice a_.ptr a_.len a_.cap), (1, Value.slice b_.ptr b_.len b_.cap), (5, Value.int .i64 0)]) (Sub.mk (by kernel_rfl)) ⟨0, rfl, h0, rfl⟩ ?_
      rintro _ _ w1 ⟨i, rfl, hI, rfl⟩
      obtain ⟨again_, again__h, h⟩ : ∃ again_ : Int → World → Prop, (∀ i' w', again_ i' w' → I i' w' ∧ μ i' w' < μ i w1) ∧ F_towpathlaw01_SameVersions_L0 a_ b_ R again_ i w1 := ⟨_, fun _ _ h => h, hr i w1 hI⟩
      clear h0 hI
      unfold F_towpathlaw01_SameVersions_L0 at h
      refine wpE_seq (x := c_towpathlaw01_SameVersions_20) (y := c_towpathlaw01_SameVersions_26) (by kernel_rfl) ?_
      refine wpE_seq (x := c_towpathlaw01_SameVersions_21) (y := c_towpathlaw01_SameVersions_23) (by kernel_rfl) ?_
      refine wpE_region (id := 4) (ops := r_towpathlaw01_SameVersions_21) (by kernel_rfl) ?_
      refine reg_run [.plain, .plain, .plain, .plain] 4 [(0, [], Value.slice a_.ptr a_.len a_.cap), (1, [], Value.slice b_.ptr b_.len b_.cap), (5, [], Value.int .i64 i), (14, [], Value.bool (decide (i < ((a_.len : Nat) : Int))))] (by kernel_rfl) (by kernel_rfl) ?_
      refine reg_end [(0, Value.slice a_.ptr a_.len a_.cap), (1, Value.slice b_.ptr b_.len b_.cap), (5, Value.int .i64 i), (14, Value.bool (decide (i < ((a_.len : Nat) : Int))))] (by kernel_rfl) (by kernel_rfl) ?_
      change WpE _ _ c_towpathlaw01_SameVersions_23 _ _ _
      refine wpE_cond (o := (Operand.tmp 14)) (b := (decide (i < ((a_.len : Nat) : Int)))) (x := c_towpathlaw01_SameVersions_24) (y := c_towpathlaw01_SameVersions_25) (by kernel_rfl) (by kernel_rfl) (fun hb => ?_) (fun hb => ?_)
      · replace h := h.1 hb
        refine wpE_skip (by kernel_rfl) ?_
        change WpE _ _ c_towpathlaw01_SameVersions_26 _ _ _
        refine wpE_seq (x := c_towpathlaw01_SameVersions_27) (y := c_towpathlaw01_SameVersions_37) (by kernel_rfl) ?_
        refine wpE_block (id := 1) (x := c_towpathlaw01_SameVersions_28) (by kernel_rfl) ?_
        refine wpE_seq (x := c_towpathlaw01_SameVersions_29) (y := c_towpathlaw01_SameVersions_31) (by kernel_rfl) ?_
        refine wpE_drawregion (id := 6) (ops := r_towpathlaw01_SameVersions_29) (by kernel_rfl) (by kernel_rfl) (by kernel_rfl) ?_
        refine qreg_run [.plain, .plain] 2 [(0, [], Value.slice a_.ptr a_.len a_.cap), (1, [], Value.slice b_.ptr b_.len b_.cap), (5, [], Value.int .i64 i), (17, [], Value.slice a_.ptr a_.len a_.cap), (18, [], Value.int .i64 i)] (by kernel_rfl) (by kernel_rfl) ?_
        obtain ⟨hp_14, h⟩ := h
        refine qreg_conv [(0, [], Value.slice a_.ptr a_.len a_.cap), (1, [], Value.slice b_.ptr b_.len b_.cap), (5, [], Value.int .i64 i), (17, [], Value.slice (some ⟨(pblk a_.ptr), (poff a_.ptr), none⟩) a_.len a_.cap), (18, [], Value.int .i64 i)] (congrArg (fun pp => ([(0, [], Value.slice a_.ptr a_.len a_.cap), (1, [], Value.slice b_.ptr b_.len b_.cap), (5, [], Value.int .i64 i), (17, [], Value.slice pp a_.len a_.cap), (18, [], Value.int .i64 i)] : GEnv)) hp_14) ?_
        obtain ⟨h0, h1, h⟩ := h
        refine qreg_indexS (t := 22) (e := 30) (x := (Go.Operand.tmp 17)) (ix := (Go.Operand.tmp 18)) (b := (pblk a_.ptr)) (o := (poff a_.ptr)) (l := a_.len) (c := a_.cap) (k := .i64) (j := i) (ty := 0) (dst := some 19) (sz := 3) (by kernel_rfl) (by kernel_rfl) (by kernel_rfl) (by kernel_rfl) (by kernel_rfl) h0 h1 ?_
        refine qreg_run [] 3 [(0, [], Value.slice a_.ptr a_.len a_.cap), (1, [], Value.slice b_.ptr b_.len b_.cap), (5, [], Value.int .i64 i), (19, [], Value.pointer (some ⟨(pblk a_.ptr), (poff a_.ptr) + i.toNat * 3, none⟩))] (by kernel_rfl) (by kernel_rfl) ?_
        obtain ⟨v20, hc, h⟩ := h
        refine qreg_loadN (t := 30) (a := (Go.Operand.tmp 19)) (b := (pblk a_.ptr)) (o := ((poff a_.ptr) + i.toNat * 3)) (ty := 30) (dst := some 20) [Value.int .i64 v20.Number, Value.string v20.Val, Value.bool v20.Drop] (by kernel_rfl) (by kernel_rfl) (by kernel_rfl) (k := 3) (by kernel_rfl) (by kernel_rfl) hc ?_
        refine qreg_run [.plain, .plain] 6 [(0, [], Value.slice a_.ptr a_.len a_.cap), (1, [], Value.slice b_.ptr b_.len b_.cap), (5, [], Value.int .i64 i), (20, [], Value.agg #[Value.int .i64 v20.Number, Value.string v20.Val, Value.bool v20.Drop]), (21, [], Value.slice b_.ptr b_.len b_.cap), (22, [], Value.int .i64 i)] (by kernel_rfl) (by kernel_rfl) ?_
        obtain ⟨hp_15, h⟩ := h
        refine qreg_conv [(0, [], Value.slice a_.ptr a_.len a_.cap), (1, [], Value.slice b_.ptr b_.len b_.cap), (5, [], Value.int .i64 i), (20, [], Value.agg #[Value.int .i64 v20.Number, Value.string v20.Val, Value.bool v20.Drop]), (21, [], Value.slice (some ⟨(pblk b_.ptr), (poff b_.ptr), none⟩) b_.len b_.cap), (22, [], Value.int .i64 i)] (congrArg (fun pp => ([(0, [], Value.slice a_.ptr a_.len a_.cap), (1, [], Value.slice b_.ptr b_.len b_.cap), (5, [], Value.int .i64 i), (20, [], Value.agg #[Value.int .i64 v20.Number, Value.string v20.Val, Value.bool v20.Drop]), (21, [], Value.slice pp b_.len b_.cap), (22, [], Value.int .i64 i)] : GEnv)) hp_15) ?_
        obtain ⟨h0, h1, h⟩ := h
        refine qreg_indexS (t := 22) (e := 30) (x := (Go.Operand.tmp 21)) (ix := (Go.Operand.tmp 22)) (b := (pblk b_.ptr)) (o := (poff b_.ptr)) (l := b_.len) (c := b_.cap) (k := .i64) (j := i) (ty := 0) (dst := some 23) (sz := 3) (by kernel_rfl) (by kernel_rfl) (by kernel_rfl) (by kernel_rfl) (by kernel_rfl) h0 h1 ?_
        refine qreg_run [] 7 [(0, [], Value.slice a_.ptr a_.len a_.cap), (1, [], Value.slice b_.ptr b_.len b_.cap), (5, [], Value.int .i64 i), (20, [], Value.agg #[Value.int .i64 v20.Number, Value.string v20.Val, Value.bool v20.Drop]), (23, [], Value.pointer (some ⟨(pblk b_.ptr), (poff b_.ptr) + i.toNat * 3, none⟩))] (by kernel_rfl) (by kernel_rfl) ?_
        obtain ⟨v24, hc, h⟩ := h
        refine qreg_loadN (t := 30) (a := (Go.Operand.tmp 23)) (b := (pblk b_.ptr)) (o := ((poff b_.ptr) + i.toNat * 3)) (ty := 30) (dst := some 24) [Value.int .i64 v24.Number, Value.string v24.Val, Value.bool v24.Drop] (by kernel_rfl) (by kernel_rfl) (by kernel_rfl) (k := 3) (by kernel_rfl) (by kernel_rfl) hc ?_
        refine qreg_run [] 8 [(0, [], Value.slice a_.ptr a_.len a_.cap), (1, [], Value.slice b_.ptr b_.len b_.cap), (5, [], Value.int .i64 i), (20, [], Value.agg #[Value.int .i64 v20.Number, Value.string v20.Val, Value.bool v20.Drop]), (24, [], Value.agg #[Value.int .i64 v24.Number, Value.string v24.Val, Value.bool v24.Drop])] (by kernel_rfl) (by kernel_rfl) ?_
        refine qreg_val (op := (Go.Op.binOp Go.BinOp.neq 30 (Go.Operand.tmp 20) (Go.Operand.tmp 24) 30)) (ty := 4) (dst := some 25) (Value.bool (!(((v20.Number == v24.Number) && (v20.Val == v24.Val)) && (v20.Drop == v24.Drop)))) (by kernel_rfl) (fun ww => run_struct_neq (xs := [Value.int .i64 v20.Number, Value.string v20.Val, Value.bool v20.Drop]) (ys := [Value.int .i64 v24.Number, Value.string v24.Val, Value.bool v24.Drop]) (by kernel_rfl) (by kernel_rfl) (by kernel_rfl) (by kernel_rfl) (by kernel_rfl) ww) ?_
        refine qreg_end [(0, Value.slice a_.ptr a_.len a_.cap), (1, Value.slice b_.ptr b_.len b_.cap), (5, Value.int .i64 i), (25, Value.bool (!(((v20.Number == v24.Number) && (v20.Val == v24.Val)) && (v20.Drop == v24.Drop))))] (by kernel_rfl) (by kernel_rfl) (fun w2 hw => ?_)
        replace h := h w2 hw
        clear hw
        change WpE _ _ c_towpathlaw01_SameVersions_31 _ _ _
        refine wpE_cond (o := (Operand.tmp 25)) (b := (!(((v20.Number == v24.Number) && (v20.Val == v24.Val)) && (v20.Drop == v24.Drop)))) (x := c_towpathlaw01_SameVersions_32) (y := c_towpathlaw01_SameVersions_36) (by kernel_rfl) (by kernel_rfl) (fun hb => ?_) (fun hb => ?_)
        · replace h := h.1 hb
          refine wpE_seq (x := c_towpathlaw01_SameVersions_33) (y := c_towpathlaw01_SameVersions_35) (by kernel_rfl) ?_
          refine wpE_region (id := 7) (ops := r_towpathlaw01_SameVersions_33) (by kernel_rfl) ?_
          refine reg_run [.plain] 1 [(4, [], Value.bool false)] (by kernel_rfl) (by kernel_rfl) ?_
          refine reg_end [(4, Value.bool false)] (by kernel_rfl) (by kernel_rfl) ?_
          change WpE _ _ c_towpathlaw01_SameVersions_35 _ _ _
          refine wpE_ret (by kernel_rfl) ?_
          repeat (first | refine seqQ_ret ?_ | refine blockQ_ret ?_ | refine loopQ_ret ?_ | refine cutQ_ret ?_)
          exact retS (rs := [(Go.ResultVar.tmp 4)]) (v := Value.bool false) (by kernel_rfl) (⟨by kernel_rfl, trivial⟩) ⟨false, rfl, h⟩
        · replace h := h.2 hb
          refine wpE_skip (by kernel_rfl) ?_
          change WpE _ _ c_towpathlaw01_SameVersions_37 _ _ _
          refine wpE_region (id := 5) (ops := r_towpathlaw01_SameVersions_37) (by kernel_rfl) ?_
          refine reg_run [.plain, .plain, .plain] 3 [(0, [], Value.slice a_.ptr a_.len a_.cap), (1, [], Value.slice b_.ptr b_.len b_.cap), (5, [], Value.int .i64 (IntKind.i64.wrap (i + 1)))] (by kernel_rfl) (by kernel_rfl) ?_
          refine reg_end [(0, Value.slice a_.ptr a_.len a_.cap), (1, Value.slice b_.ptr b_.len b_.cap), (5, Value.int .i64 (IntKind.i64.wrap (i + 1)))] (by kernel_rfl) (by kernel_rfl) ?_
          have hb_ := again__h _ _ h
          exact ⟨_, hb_.2, [(0, Value.slice a_.ptr a_.len a_.cap), (1, Value.slice b_.ptr b_.len b_.cap), (5, Value.int .i64 (IntKind.i64.wrap (i + 1)))], Sub.mk (by kernel_rfl), (IntKind.i64.wrap (i + 1)), rfl, hb_.1, rfl⟩
      · replace h := h.2 hb
        refine wpE_exit (id := 0) (by kernel_rfl) ?_
        change WpE _ _ c_towpathlaw01_SameVersions_39 _ _ _
        refine wpE_seq (x := c_towpathlaw01_SameVersions_40) (y := c_towpathlaw01_SameVersions_42) (by kernel_rfl) ?_
        refine wpE_region (id := 8) (ops := r_towpathlaw01_SameVersions_40) (by kernel_rfl) ?_
        refine reg_run [.plain] 1 [(4, [], Value.bool true)] (by kernel_rfl) (by kernel_rfl) ?_
        refine reg_end [(4, Value.bool true)] (by kernel_rfl) (by kernel_rfl) ?_
        change WpE _ _ c_towpathlaw01_SameVersions_42 _ _ _
        refine wpE_ret (by kernel_rfl) ?_
        repeat (first | refine seqQ_ret ?_ | refine blockQ_ret ?_ | refine loopQ_ret ?_ | refine cutQ_ret ?_)
        exact retS (rs := [(Go.ResultVar.tmp 4)]) (v := Value.bool true) (by kernel_rfl) (⟨by kernel_rfl, trivial⟩) ⟨true, rfl, h⟩
  · rintro e w' ⟨v, rfl, r0, rfl, h⟩; exact ⟨r0, rfl, h⟩
end Go.Proofs.Ytcgfmkpddhhmgaa
