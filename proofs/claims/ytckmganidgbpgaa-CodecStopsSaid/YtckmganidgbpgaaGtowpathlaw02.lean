/- WRITTEN BY PROGRAM (dec.py): for each Go function the clean formula F, the call's contract C, and the proof S that F gives C. -/
import Derived.Test.YtckmganidgbpgaaRows
import Derived.Test.YtckmganidgbpgaaGF
namespace Go.Proofs.Ytckmganidgbpgaa
open Go
set_option linter.unusedVariables false

/-! ### towpath/towpathlaw02.beyond (function 11) -/
noncomputable def c_towpathlaw02_beyond_0 : Code := (Try.f11.body).getD Code.skip
noncomputable def c_towpathlaw02_beyond_1 : Code := Code.l c_towpathlaw02_beyond_0
noncomputable def r_towpathlaw02_beyond_1 : Array Oper := Code.ops c_towpathlaw02_beyond_1
noncomputable def c_towpathlaw02_beyond_3 : Code := Code.r c_towpathlaw02_beyond_0
noncomputable def c_towpathlaw02_beyond_4 : Code := Code.l c_towpathlaw02_beyond_3
noncomputable def r_towpathlaw02_beyond_4 : Array Oper := Code.ops c_towpathlaw02_beyond_4
noncomputable def c_towpathlaw02_beyond_6 : Code := Code.r c_towpathlaw02_beyond_3
noncomputable def c_towpathlaw02_beyond_7 : Code := Code.l c_towpathlaw02_beyond_6
noncomputable def c_towpathlaw02_beyond_8 : Code := Code.l c_towpathlaw02_beyond_7
noncomputable def r_towpathlaw02_beyond_8 : Array Oper := Code.ops c_towpathlaw02_beyond_8
noncomputable def c_towpathlaw02_beyond_10 : Code := Code.r c_towpathlaw02_beyond_7
noncomputable def c_towpathlaw02_beyond_11 : Code := Code.l c_towpathlaw02_beyond_10
noncomputable def c_towpathlaw02_beyond_12 : Code := Code.l c_towpathlaw02_beyond_11
noncomputable def c_towpathlaw02_beyond_13 : Code := Code.l c_towpathlaw02_beyond_12
noncomputable def c_towpathlaw02_beyond_14 : Code := Code.l c_towpathlaw02_beyond_13
noncomputable def r_towpathlaw02_beyond_14 : Array Oper := Code.ops c_towpathlaw02_beyond_14
noncomputable def c_towpathlaw02_beyond_16 : Code := Code.r c_towpathlaw02_beyond_13
noncomputable def c_towpathlaw02_beyond_17 : Code := Code.l c_towpathlaw02_beyond_16
noncomputable def c_towpathlaw02_beyond_18 : Code := Code.r c_towpathlaw02_beyond_16
noncomputable def c_towpathlaw02_beyond_19 : Code := Code.r c_towpathlaw02_beyond_12
noncomputable def c_towpathlaw02_beyond_20 : Code := Code.l c_towpathlaw02_beyond_19
noncomputable def c_towpathlaw02_beyond_21 : Code := Code.l c_towpathlaw02_beyond_20
noncomputable def c_towpathlaw02_beyond_22 : Code := Code.l c_towpathlaw02_beyond_21
noncomputable def r_towpathlaw02_beyond_22 : Array Oper := Code.ops c_towpathlaw02_beyond_22
noncomputable def c_towpathlaw02_beyond_24 : Code := Code.r c_towpathlaw02_beyond_21
noncomputable def c_towpathlaw02_beyond_25 : Code := Code.l c_towpathlaw02_beyond_24
noncomputable def r_towpathlaw02_beyond_25 : Array Oper := Code.ops c_towpathlaw02_beyond_25
noncomputable def c_towpathlaw02_beyond_27 : Code := Code.r c_towpathlaw02_beyond_24
noncomputable def c_towpathlaw02_beyond_28 : Code := Code.l c_towpathlaw02_beyond_27
noncomputable def c_towpathlaw02_beyond_29 : Code := Code.l c_towpathlaw02_beyond_28
noncomputable def r_towpathlaw02_beyond_29 : Array Oper := Code.ops c_towpathlaw02_beyond_29
noncomputable def c_towpathlaw02_beyond_31 : Code := Code.r c_towpathlaw02_beyond_28
noncomputable def c_towpathlaw02_beyond_32 : Code := Code.r c_towpathlaw02_beyond_27
noncomputable def c_towpathlaw02_beyond_33 : Code := Code.r c_towpathlaw02_beyond_19
noncomputable def r_towpathlaw02_beyond_33 : Array Oper := Code.ops c_towpathlaw02_beyond_33
noncomputable def c_towpathlaw02_beyond_35 : Code := Code.r c_towpathlaw02_beyond_6
noncomputable def c_towpathlaw02_beyond_36 : Code := Code.l c_towpathlaw02_beyond_35
noncomputable def r_towpathlaw02_beyond_36 : Array Oper := Code.ops c_towpathlaw02_beyond_36
noncomputable def c_towpathlaw02_beyond_38 : Code := Code.r c_towpathlaw02_beyond_35

set_option maxRecDepth 100000 in
set_option maxHeartbeats 4000000 in
theorem S_towpathlaw02_beyond {l_ : Slc} {w : World} {R : Bool → World → Prop} (h : F_towpathlaw02_beyond l_ R w) : C_towpathlaw02_beyond l_ w R := by
  unfold F_towpathlaw02_beyond at h
  unfold C_towpathlaw02_beyond
  refine Calls.mono (calls_of_wpE (args := [Value.slice l_.ptr l_.len l_.cap]) (R := fun v w' => ∃ (r0 : Bool), v = Value.bool r0 ∧ R r0 w') Try.func11 (c := c_towpathlaw02_beyond_0) (by kernel_rfl) 22 (by kernel_rfl) (by kernel_rfl) [(0, Value.slice l_.ptr l_.len l_.cap)] (by kernel_rfl) ?_) ?_
  · refine wpE_seq (x := c_towpathlaw02_beyond_1) (y := c_towpathlaw02_beyond_3) (by kernel_rfl) ?_
    refine wpE_region (id := 0) (ops := r_towpathlaw02_beyond_1) (by kernel_rfl) ?_
    refine reg_run [.plain] 1 [(0, [], Value.slice l_.ptr l_.len l_.cap)] (by kernel_rfl) (by kernel_rfl) ?_
    refine reg_end [(0, Value.slice l_.ptr l_.len l_.cap)] (by kernel_rfl) (by kernel_rfl) ?_
    change WpE _ _ c_towpathlaw02_beyond_3 _ _ _
    refine wpE_seq (x := c_towpathlaw02_beyond_4) (y := c_towpathlaw02_beyond_6) (by kernel_rfl) ?_
    refine wpE_region (id := 1) (ops := r_towpathlaw02_beyond_4) (by kernel_rfl) ?_
    refine reg_run [.plain] 1 [(0, [], Value.slice l_.ptr l_.len l_.cap), (3, [], Value.int .i64 0)] (by kernel_rfl) (by kernel_rfl) ?_
    refine reg_end [(0, Value.slice l_.ptr l_.len l_.cap), (3, Value.int .i64 0)] (by kernel_rfl) (by kernel_rfl) ?_
    change WpE _ _ c_towpathlaw02_beyond_6 _ _ _
    refine wpE_seq (x := c_towpathlaw02_beyond_7) (y := c_towpathlaw02_beyond_35) (by kernel_rfl) ?_
    refine wpE_seq (x := c_towpathlaw02_beyond_8) (y := c_towpathlaw02_beyond_10) (by kernel_rfl) ?_
    refine wpE_region (id := 2) (ops := r_towpathlaw02_beyond_8) (by kernel_rfl) ?_
    refine reg_run [.plain] 1 [(0, [], Value.slice l_.ptr l_.len l_.cap), (3, [], Value.int .i64 0), (4, [], Value.int .i64 0)] (by kernel_rfl) (by kernel_rfl) ?_
    refine reg_end [(0, Value.slice l_.ptr l_.len l_.cap), (3, Value.int .i64 0), (4, Value.int .i64 0)] (by kernel_rfl) (by kernel_rfl) ?_
    change WpE _ _ c_towpathlaw02_beyond_10 _ _ _
    refine wpE_block (id := 0) (x := c_towpathlaw02_beyond_11) (by kernel_rfl) ?_
    obtain ⟨I, μ, h0, hr⟩ := h
    refine wpE_loop (x := c_towpathlaw02_beyond_12) (by kernel_rfl) (fun m l w => ∃ (n_ : Int) (i : Int), l = [(0, Value.slice l_.ptr l_.len l_.cap), (3, Value.int .i64 n_), (4, Value.int .i64 i)] ∧ I n_ i w ∧ μ n_ i w = m) (l' := [(0, Value.slice l_.ptr l_.len l_.cap), (3, Value.int .i64 0), (4, Value.int .i64 0)]) (Sub.mk (by kernel_rfl)) ⟨0, 0, rfl, h0, rfl⟩ ?_
    rintro _ _ w1 ⟨n_, i, rfl, hI, rfl⟩
    obtain ⟨again_, again__h, h⟩ : ∃ again_ : Int → Int → World → Prop, (∀ n_' i' w', again_ n_' i' w' → I n_' i' w' ∧ μ n_' i' w' < μ n_ i w1) ∧ F_towpathlaw02_beyond_L0 l_ R again_ n_ i w1 := ⟨_, fun _ _ _ h => h, hr n_ i w1 hI⟩
    clear h0 hI
    unfold F_towpathlaw02_beyond_L0 at h
    refine wpE_seq (x := c_towpathlaw02_beyond_13) (y := c_towpathlaw02_beyond_19) (by kernel_rfl) ?_
    refine wpE_seq (x := c_towpathlaw02_beyond_14) (y := c_towpathlaw02_beyond_16) (by kernel_rfl) ?_
    refine wpE_region (id := 3) (ops := r_towpathlaw02_beyond_14) (by kernel_rfl) ?_
    refine reg_run [.plain, .plain, .plain, .plain] 4 [(0, [], Value.slice l_.ptr l_.len l_.cap), (3, [], Value.int .i64 n_), (4, [], Value.int .i64 i), (8, [], Value.bool (decide (i < ((l_.len : Nat) : Int))))] (by kernel_rfl) (by kernel_rfl) ?_
    refine reg_end [(0, Value.slice l_.ptr l_.len l_.cap), (3, Value.int .i64 n_), (4, Value.int .i64 i), (8, Value.bool (decide (i < ((l_.len : Nat) : Int))))] (by kernel_rfl) (by kernel_rfl) ?_
    change WpE _ _ c_towpathlaw02_beyond_16 _ _ _
    refine wpE_cond (o := (Operand.tmp 8)) (b := (decide (i < ((l_.len : Nat) : Int)))) (x := c_towpathlaw02_beyond_17) (y := c_towpathlaw02_beyond_18) (by kernel_rfl) (by kernel_rfl) (fun hb => ?_) (fun hb => ?_)
    · replace h := h.1 hb
      refine wpE_skip (by kernel_rfl) ?_
      change WpE _ _ c_towpathlaw02_beyond_19 _ _ _
      refine wpE_seq (x := c_towpathlaw02_beyond_20) (y := c_towpathlaw02_beyond_33) (by kernel_rfl) ?_
      refine wpE_block (id := 1) (x := c_towpathlaw02_beyond_21) (by kernel_rfl) ?_
      refine wpE_seq (x := c_towpathlaw02_beyond_22) (y := c_towpathlaw02_beyond_24) (by kernel_rfl) ?_
      refine wpE_region (id := 5) (ops := r_towpathlaw02_beyond_22) (by kernel_rfl) ?_
      refine reg_run [.plain, .plain, .plain, .plain] 4 [(0, [], Value.slice l_.ptr l_.len l_.cap), (3, [], Value.int .i64 n_), (4, [], Value.int .i64 i), (12, [], Value.int .i64 (IntKind.i64.wrap (n_ + 10))), (13, [], Value.slice l_.ptr l_.len l_.cap), (14, [], Value.int .i64 i)] (by kernel_rfl) (by kernel_rfl) ?_
      obtain ⟨hp_7, h⟩ := h
      refine reg_conv [(0, [], Value.slice l_.ptr l_.len l_.cap), (3, [], Value.int .i64 n_), (4, [], Value.int .i64 i), (12, [], Value.int .i64 (IntKind.i64.wrap (n_ + 10))), (13, [], Value.slice (some ⟨(pblk l_.ptr), (poff l_.ptr), none⟩) l_.len l_.cap), (14, [], Value.int .i64 i)] (congrArg (fun pp => ([(0, [], Value.slice l_.ptr l_.len l_.cap), (3, [], Value.int .i64 n_), (4, [], Value.int .i64 i), (12, [], Value.int .i64 (IntKind.i64.wrap (n_ + 10))), (13, [], Value.slice pp l_.len l_.cap), (14, [], Value.int .i64 i)] : GEnv)) hp_7) ?_
      obtain ⟨h0, h1, h⟩ := h
      refine reg_indexS (t := 23) (e := 37) (x := (Go.Operand.tmp 13)) (ix := (Go.Operand.tmp 14)) (b := (pblk l_.ptr)) (o := (poff l_.ptr)) (l := l_.len) (c := l_.cap) (k := .i64) (j := i) (ty := 0) (dst := some 15) (sz := 5) (by kernel_rfl) (by kernel_rfl) (by kernel_rfl) (by kernel_rfl) (by kernel_rfl) h0 h1 ?_
      refine reg_run [.plain] 6 [(0, [], Value.slice l_.ptr l_.len l_.cap), (3, [], Value.int .i64 n_), (4, [], Value.int .i64 i), (12, [], Value.int .i64 (IntKind.i64.wrap (n_ + 10))), (16, [], Value.pointer (some ⟨(pblk l_.ptr), ((poff l_.ptr) + i.toNat * 5) + 3, none⟩))] (by kernel_rfl) (by kernel_rfl) ?_
      obtain ⟨v17, hc, h⟩ := h
      refine reg_load1 (t := 9) (a := (Go.Operand.tmp 16)) (b := (pblk l_.ptr)) (o := (((poff l_.ptr) + i.toNat * 5) + 3)) (ty := 9) (dst := some 17) (by kernel_rfl) (by kernel_rfl) (by kernel_rfl) hc ?_
      refine reg_run [.plain, .plain, .plain] 10 [(0, [], Value.slice l_.ptr l_.len l_.cap), (3, [], Value.int .i64 (IntKind.i64.wrap ((IntKind.i64.wrap (n_ + 10)) + ((v17.size : Nat) : Int)))), (4, [], Value.int .i64 i)] (by kernel_rfl) (by kernel_rfl) ?_
      refine reg_end [(0, Value.slice l_.ptr l_.len l_.cap), (3, Value.int .i64 (IntKind.i64.wrap ((IntKind.i64.wrap (n_ + 10)) + ((v17.size : Nat) : Int)))), (4, Value.int .i64 i)] (by kernel_rfl) (by kernel_rfl) ?_
      change WpE _ _ c_towpathlaw02_beyond_24 _ _ _
      refine wpE_seq (x := c_towpathlaw02_beyond_25) (y := c_towpathlaw02_beyond_27) (by kernel_rfl) ?_
      refine wpE_region (id := 6) (ops := r_towpathlaw02_beyond_25) (by kernel_rfl) ?_
      refine reg_run [.plain, .plain] 2 [(0, [], Value.slice l_.ptr l_.len l_.cap), (3, [], Value.int .i64 (IntKind.i64.wrap ((IntKind.i64.wrap (n_ + 10)) + ((v17.size : Nat) : Int)))), (4, [], Value.int .i64 i), (21, [], Value.bool (decide ((IntKind.i64.wrap ((IntKind.i64.wrap (n_ + 10)) + ((v17.size : Nat) : Int))) > 1048576)))] (by kernel_rfl) (by kernel_rfl) ?_
      refine reg_end [(0, Value.slice l_.ptr l_.len l_.cap), (3, Value.int .i64 (IntKind.i64.wrap ((IntKind.i64.wrap (n_ + 10)) + ((v17.size : Nat) : Int)))), (4, Value.int .i64 i), (21, Value.bool (decide ((IntKind.i64.wrap ((IntKind.i64.wrap (n_ + 10)) + ((v17.size : Nat) : Int))) > 1048576)))] (by kernel_rfl) (by kernel_rfl) ?_
      change WpE _ _ c_towpathlaw02_beyond_27 _ _ _
      refine wpE_cond (o := (Operand.tmp 21)) (b := (decide ((IntKind.i64.wrap ((IntKind.i64.wrap (n_ + 10)) + ((v17.size : Nat) : Int))) > 1048576))) (x := c_towpathlaw02_beyond_28) (y := c_towpathlaw02_beyond_32) (by kernel_rfl) (by kernel_rfl) (fun hb => ?_) (fun hb => ?_)
      · replace h := h.1 hb
        refine wpE_seq (x := c_towpathlaw02_beyond_29) (y := c_towpathlaw02_beyond_31) (by kernel_rfl) ?_
        refine wpE_region (id := 7) (ops := r_towpathlaw02_beyond_29) (by kernel_rfl) ?_
        refine reg_run [.plain] 1 [(2, [], Value.bool true)] (by kernel_rfl) (by kernel_rfl) ?_
        refine reg_end [(2, Value.bool true)] (by kernel_rfl) (by kernel_rfl) ?_
        change WpE _ _ c_towpathlaw02_beyond_31 _ _ _
        refine wpE_ret (by kernel_rfl) ?_
        repeat (first | refine seqQ_ret ?_ | refine blockQ_ret ?_ | refine loopQ_ret ?_ | refine cutQ_ret ?_)
        exact retS (rs := [(Go.ResultVar.tmp 2)]) (v := Value.bool true) (by kernel_rfl) (⟨by kernel_rfl, trivial⟩) ⟨true, rfl, h⟩
      · replace h := h.2 hb
        refine wpE_skip (by kernel_rfl) ?_
        change WpE _ _ c_towpathlaw02_beyond_33 _ _ _
        refine wpE_region (id := 4) (ops := r_towpathlaw02_beyond_33) (by kernel_rfl) ?_
        refine reg_run [.plain, .plain, .plain] 3 [(0, [], Value.slice l_.ptr l_.len l_.cap), (3, [], Value.int .i64 (IntKind.i64.wrap ((IntKind.i64.wrap (n_ + 10)) + ((v17.size : Nat) : Int)))), (4, [], Value.int .i64 (IntKind.i64.wrap (i + 1)))] (by kernel_rfl) (by kernel_rfl) ?_
        refine reg_end [(0, Value.slice l_.ptr l_.len l_.cap), (3, Value.int .i64 (IntKind.i64.wrap ((IntKind.i64.wrap (n_ + 10)) + ((v17.size : Nat) : Int)))), (4, Value.int .i64 (IntKind.i64.wrap (i + 1)))] (by kernel_rfl) (by kernel_rfl) ?_
        have hb_ := again__h _ _ _ h
        exact ⟨_, hb_.2, [(0, Value.slice l_.ptr l_.len l_.cap), (3, Value.int .i64 (IntKind.i64.wrap ((IntKind.i64.wrap (n_ + 10)) + ((v17.size : Nat) : Int)))), (4, Value.int .i64 (IntKind.i64.wrap (i + 1)))], Sub.mk (by kernel_rfl), (IntKind.i64.wrap ((IntKind.i64.wrap (n_ + 10)) + ((v17.size : Nat) : Int))), (IntKind.i64.wrap (i + 1)), rfl, hb_.1, rfl⟩
    · replace h := h.2 hb
      refine wpE_exit (id := 0) (by kernel_rfl) ?_
      change WpE _ _ c_towpathlaw02_beyond_35 _ _ _
      refine wpE_seq (x := c_towpathlaw02_beyond_36) (y := c_towpathlaw02_beyond_38) (by kernel_rfl) ?_
      refine wpE_region (id := 8) (ops := r_towpathlaw02_beyond_36) (by kernel_rfl) ?_
      refine reg_run [.plain] 1 [(2, [], Value.bool false)] (by kernel_rfl) (by kernel_rfl) ?_
      refine reg_end [(2, Value.bool false)] (by kernel_rfl) (by kernel_rfl) ?_
      change WpE _ _ c_towpathlaw02_beyond_38 _ _ _
      refine wpE_ret (by kernel_rfl) ?_
      repeat (first | refine seqQ_ret ?_ | refine blockQ_ret ?_ | refine loopQ_ret ?_ | refine cutQ_ret ?_)
      exact retS (rs := [(Go.ResultVar.tmp 2)]) (v := Value.bool false) (by kernel_rfl) (⟨by kernel_rfl, trivial⟩) ⟨false, rfl, h⟩
  · rintro e w' ⟨v, rfl, r0, rfl, h⟩; exact ⟨r0, rfl, h⟩

/-! ### towpath/towpathlaw02.takes (function 16) -/
noncomputable def c_towpathlaw02_takes_0 : Code := (Try.f16.body).getD Code.skip
noncomputable def c_towpathlaw02_takes_1 : Code := Code.l c_towpathlaw02_takes_0
noncomputable def r_towpathlaw02_takes_1 : Array Oper := Code.ops c_towpathlaw02_takes_1
noncomputable def c_towpathlaw02_takes_3 : Code := Code.r c_towpathlaw02_takes_0
noncomputable def c_towpathlaw02_takes_4 : Code := Code.l c_towpathlaw02_takes_3
noncomputable def c_towpathlaw02_takes_5 : Code := Code.l c_towpathlaw02_takes_4
noncomputable def r_towpathlaw02_takes_5 : Array Oper := Code.ops c_towpathlaw02_takes_5
noncomputable def c_towpathlaw02_takes_7 : Code := Code.r c_towpathlaw02_takes_4
noncomputable def c_towpathlaw02_takes_8 : Code := Code.l c_towpathlaw02_takes_7
noncomputable def c_towpathlaw02_takes_9 : Code := Code.l c_towpathlaw02_takes_8
noncomputable def r_towpathlaw02_takes_9 : Array Oper := Code.ops c_towpathlaw02_takes_9
noncomputable def c_towpathlaw02_takes_11 : Code := Code.r c_towpathlaw02_takes_8
noncomputable def c_towpathlaw02_takes_12 : Code := Code.l c_towpathlaw02_takes_11
noncomputable def c_towpathlaw02_takes_13 : Code := Code.l c_towpathlaw02_takes_12
noncomputable def r_towpathlaw02_takes_13 : Array Oper := Code.ops c_towpathlaw02_takes_13
noncomputable def c_towpathlaw02_takes_15 : Code := Code.r c_towpathlaw02_takes_12
noncomputable def c_towpathlaw02_takes_16 : Code := Code.l c_towpathlaw02_takes_15
noncomputable def r_towpathlaw02_takes_16 : Array Oper := Code.ops c_towpathlaw02_takes_16
noncomputable def c_towpathlaw02_takes_18 : Code := Code.r c_towpathlaw02_takes_15
noncomputable def c_towpathlaw02_takes_19 : Code := Code.r c_towpathlaw02_takes_11
noncomputable def c_towpathlaw02_takes_20 : Code := Code.l c_towpathlaw02_takes_19
noncomputable def r_towpathlaw02_takes_20 : Array Oper := Code.ops c_towpathlaw02_takes_20
noncomputable def c_towpathlaw02_takes_22 : Code := Code.r c_towpathlaw02_takes_19
noncomputable def c_towpathlaw02_takes_23 : Code := Code.l c_towpathlaw02_takes_22
noncomputable def c_towpathlaw02_takes_24 : Code := Code.l c_towpathlaw02_takes_23
noncomputable def r_towpathlaw02_takes_24 : Array Oper := Code.ops c_towpathlaw02_takes_24
noncomputable def c_towpathlaw02_takes_26 : Code := Code.r c_towpathlaw02_takes_23
noncomputable def c_towpathlaw02_takes_27 : Code := Code.l c_towpathlaw02_takes_26
noncomputable def r_towpathlaw02_takes_27 : Array Oper := Code.ops c_towpathlaw02_takes_27
noncomputable def c_towpathlaw02_takes_29 : Code := Code.r c_towpathlaw02_takes_26
noncomputable def c_towpathlaw02_takes_30 : Code := Code.r c_towpathlaw02_takes_22
noncomputable def c_towpathlaw02_takes_31 : Code := Code.l c_towpathlaw02_takes_30
noncomputable def r_towpathlaw02_takes_31 : Array Oper := Code.ops c_towpathlaw02_takes_31
noncomputable def c_towpathlaw02_takes_33 : Code := Code.r c_towpathlaw02_takes_30
noncomputable def c_towpathlaw02_takes_34 : Code := Code.l c_towpathlaw02_takes_33
noncomputable def c_towpathlaw02_takes_35 : Code := Code.l c_towpathlaw02_takes_34
noncomputable def r_towpathlaw02_takes_35 : Array Oper := Code.ops c_towpathlaw02_takes_35
noncomputable def c_towpathlaw02_takes_37 : Code := Code.r c_towpathlaw02_takes_34
noncomputable def c_towpathlaw02_takes_38 : Code := Code.l c_towpathlaw02_takes_37
noncomputable def r_towpathlaw02_takes_38 : Array Oper := Code.ops c_towpathlaw02_takes_38
noncomputable def c_towpathlaw02_takes_40 : Code := Code.r c_towpathlaw02_takes_37
noncomputable def c_towpathlaw02_takes_41 : Code := Code.r c_towpathlaw02_takes_33
noncomputable def c_towpathlaw02_takes_42 : Code := Code.r c_towpathlaw02_takes_3
noncomputable def c_towpathlaw02_takes_43 : Code := Code.l c_towpathlaw02_takes_42
noncomputable def r_towpathlaw02_takes_43 : Array Oper := Code.ops c_towpathlaw02_takes_43
noncomputable def c_towpathlaw02_takes_45 : Code := Code.r c_towpathlaw02_takes_42
noncomputable def c_towpathlaw02_takes_46 : Code := Code.l c_towpathlaw02_takes_45
noncomputable def r_towpathlaw02_takes_46 : Array Oper := Code.ops c_towpathlaw02_takes_46
noncomputable def c_towpathlaw02_takes_48 : Code := Code.r c_towpathlaw02_takes_45
def o_towpathlaw02_takes_16 : List Nat := [0, 1, 2, 3, 5, 4, 6, 7, 8]
def o_towpathlaw02_takes_27 : List Nat := [0, 1, 3, 2, 4, 5, 6]
def o_towpathlaw02_takes_38 : List Nat := [0, 1, 2, 3, 5, 4, 6, 7, 8]
def o_towpathlaw02_takes_46 : List Nat := [0, 1, 3, 2, 4, 5, 6]

set_option maxRecDepth 100000 in
set_option maxHeartbeats 4000000 in
theorem S_towpathlaw02_takes {r : Option Addr} {x : T_towpathref02_Reader} {o_ : T_towpathlaw02_Op} {w : World} {R : T_towpathref02_Reader → Bool → World → Prop} (h : F_towpathlaw02_takes r x o_ R w) : C_towpathlaw02_takes r x o_ w R := by
  unfold F_towpathlaw02_takes at h
  unfold C_towpathlaw02_takes
  refine Calls.mono (calls_of_wpE (args := [Value.pointer r, Value.agg #[Value.bool x.Gone, Value.slice x.B.ptr x.B.len x.B.cap, Value.int .i64 x.At, Value.int .i64 x.Code], Value.agg #[Value.int .u8 o_.Kind, Value.int .u64 o_.N, Value.int .i64 o_.Width, Value.string o_.Text, Value.int .i64 o_.Most]]) (R := fun v w' => ∃ (r0 : T_towpathref02_Reader) (r1 : Bool), v = Value.tuple #[Value.agg #[Value.bool r0.Gone, Value.slice r0.B.ptr r0.B.len r0.B.cap, Value.int .i64 r0.At, Value.int .i64 r0.Code], Value.bool r1] ∧ R r0 r1 w') Try.func16 (c := c_towpathlaw02_takes_0) (by kernel_rfl) 72 (by kernel_rfl) (by kernel_rfl) [(0, Value.pointer r), (1, Value.agg #[Value.bool x.Gone, Value.slice x.B.ptr x.B.len x.B.cap, Value.int .i64 x.At, Value.int .i64 x.Code]), (2, Value.agg #[Value.int .u8 o_.Kind, Value.int .u64 o_.N, Value.int .i64 o_.Width, Value.string o_.Text, Value.int .i64 o_.Most])] (by kernel_rfl) ?_) ?_
  · refine wpE_seq (x := c_towpathlaw02_takes_1) (y := c_towpathlaw02_takes_3) (by kernel_rfl) ?_
    refine wpE_region (id := 0) (ops := r_towpathlaw02_takes_1) (by kernel_rfl) ?_
    refine reg_run [] 0 [(0, [], Value.pointer r), (1, [], Value.agg #[Value.bool x.Gone, Value.slice x.B.ptr x.B.len x.B.cap, Value.int .i64 x.At, Value.int .i64 x.Code]), (2, [], Value.agg #[Value.int .u8 o_.Kind, Value.int .u64 o_.N, Value.int .i64 o_.Width, Value.string o_.Text, Value.int .i64 o_.Most])] (by kernel_rfl) (by kernel_rfl) ?_
    refine reg_new (op := (Go.Op.box 32 (Go.Operand.tmp 1))) (ty := 0) (dst := some 4) (fun bb => Value.pointer (some ⟨bb, 0, none⟩)) (Obj.cells ([Value.bool x.Gone, Value.slice x.B.ptr x.B.len x.B.cap, Value.int .i64 x.At, Value.int .i64 x.Code]).toArray ty_towpathref02_Reader (0, 0)) (by kernel_rfl) (by kernel_rfl) (fun b_ w1 hb hw => ?_)
    replace h := h b_ w1 hb hw
    clear hb hw
    refine reg_run [] 1 [(0, [], Value.pointer r), (2, [], Value.agg #[Value.int .u8 o_.Kind, Value.int .u64 o_.N, Value.int .i64 o_.Width, Value.string o_.Text, Value.int .i64 o_.Most]), (4, [], Value.pointer (some ⟨b_, 0, none⟩))] (by kernel_rfl) (by kernel_rfl) ?_
    refine reg_new (op := (Go.Op.box 37 (Go.Operand.tmp 2))) (ty := 0) (dst := some 5) (fun bb => Value.pointer (some ⟨bb, 0, none⟩)) (Obj.cells ([Value.int .u8 o_.Kind, Value.int .u64 o_.N, Value.int .i64 o_.Width, Value.string o_.Text, Value.int .i64 o_.Most]).toArray ty_towpathlaw02_Op (0, 0)) (by kernel_rfl) (by kernel_rfl) (fun b_1 w2 hb hw => ?_)
    replace h := h b_1 w2 hb hw
    clear hb hw
    refine reg_run [] 2 [(0, [], Value.pointer r), (4, [], Value.pointer (some ⟨b_, 0, none⟩)), (5, [], Value.pointer (some ⟨b_1, 0, none⟩))] (by kernel_rfl) (by kernel_rfl) ?_
    refine reg_new (op := (Go.Op.alloc 32)) (ty := 0) (dst := some 6) (fun bb => Value.pointer (some ⟨bb, 0, none⟩)) (Obj.cells ([Value.bool false, Value.slice none 0 0, Value.int .i64 0, Value.int .i64 0]).toArray ty_towpathref02_Reader (0, 0)) (by kernel_rfl) (by kernel_rfl) (fun b_2 w3 hb hw => ?_)
    replace h := h b_2 w3 hb hw
    clear hb hw
    refine reg_run [.plain] 4 [(0, [], Value.pointer r), (4, [], Value.pointer (some ⟨b_, 0, none⟩)), (5, [], Value.pointer (some ⟨b_1, 0, none⟩)), (6, [], Value.pointer (some ⟨b_2, 0, none⟩))] (by kernel_rfl) (by kernel_rfl) ?_
    refine reg_end [(0, Value.pointer r), (4, Value.pointer (some ⟨b_, 0, none⟩)), (5, Value.pointer (some ⟨b_1, 0, none⟩)), (6, Value.pointer (some ⟨b_2, 0, none⟩))] (by kernel_rfl) (by kernel_rfl) ?_
    change WpE _ _ c_towpathlaw02_takes_3 _ _ _
    refine wpE_seq (x := c_towpathlaw02_takes_4) (y := c_towpathlaw02_takes_42) (by kernel_rfl) ?_
    refine wpE_seq (x := c_towpathlaw02_takes_5) (y := c_towpathlaw02_takes_7) (by kernel_rfl) ?_
    refine wpE_region (id := 1) (ops := r_towpathlaw02_takes_5) (by kernel_rfl) ?_
    refine reg_run [.plain] 1 [(0, [], Value.pointer r), (4, [], Value.pointer (some ⟨b_, 0, none⟩)), (5, [], Value.pointer (some ⟨b_1, 0, none⟩)), (6, [], Value.pointer (some ⟨b_2, 0, none⟩)), (16, [], Value.pointer (some ⟨b_1, 0, none⟩))] (by kernel_rfl) (by kernel_rfl) ?_
    obtain ⟨v17, hc, h⟩ := h
    refine reg_load1 (t := 5) (a := (Go.Operand.tmp 16)) (b := b_1) (o := 0) (ty := 5) (dst := some 17) (by kernel_rfl) (by kernel_rfl) (by kernel_rfl) hc ?_
    refine reg_end [(0, Value.pointer r), (4, Value.pointer (some ⟨b_, 0, none⟩)), (5, Value.pointer (some ⟨b_1, 0, none⟩)), (6, Value.pointer (some ⟨b_2, 0, none⟩)), (17, Value.int .u8 v17)] (by kernel_rfl) (by kernel_rfl) ?_
    change WpE _ _ c_towpathlaw02_takes_7 _ _ _
    refine wpE_block (id := 0) (x := c_towpathlaw02_takes_8) (by kernel_rfl) ?_
    refine wpE_seq (x := c_towpathlaw02_takes_9) (y := c_towpathlaw02_takes_11) (by kernel_rfl) ?_
    refine wpE_region (id := 2) (ops := r_towpathlaw02_takes_9) (by kernel_rfl) ?_
    refine reg_run [.plain, .plain] 2 [(0, [], Value.pointer r), (4, [], Value.pointer (some ⟨b_, 0, none⟩)), (5, [], Value.pointer (some ⟨b_1, 0, none⟩)), (6, [], Value.pointer (some ⟨b_2, 0, none⟩)), (17, [], Value.int .u8 v17), (18, [], Value.bool (v17 == 1))] (by kernel_rfl) (by kernel_rfl) ?_
    refine reg_end [(0, Value.pointer r), (4, Value.pointer (some ⟨b_, 0, none⟩)), (5, Value.pointer (some ⟨b_1, 0, none⟩)), (6, Value.pointer (some ⟨b_2, 0, none⟩)), (17, Value.int .u8 v17), (18, Value.bool (v17 == 1))] (by kernel_rfl) (by kernel_rfl) ?_
    change WpE _ _ c_towpathlaw02_takes_11 _ _ _
    refine wpE_cond (o := (Operand.tmp 18)) (b := (v17 == 1)) (x := c_towpathlaw02_takes_12) (y := c_towpathlaw02_takes_19) (by kernel_rfl) (by kernel_rfl) (fun hb => ?_) (fun hb => ?_)
    · replace h := h.1 hb
      refine wpE_seq (x := c_towpathlaw02_takes_13) (y := c_towpathlaw02_takes_15) (by kernel_rfl) ?_
      refine wpE_region (id := 3) (ops := r_towpathlaw02_takes_13) (by kernel_rfl) ?_
      refine reg_run [] 0 [(0, [], Value.pointer r), (4, [], Value.pointer (some ⟨b_, 0, none⟩)), (5, [], Value.pointer (some ⟨b_1, 0, none⟩)), (6, [], Value.pointer (some ⟨b_2, 0, none⟩))] (by kernel_rfl) (by kernel_rfl) ?_
      obtain ⟨v21, hc, h⟩ := h
      refine reg_loadN (t := 32) (a := (Go.Operand.tmp 4)) (b := b_) (o := 0) (ty := 32) (dst := some 21) [Value.bool v21.Gone, Value.slice v21.B.ptr v21.B.len v21.B.cap, Value.int .i64 v21.At, Value.int .i64 v21.Code] (by kernel_rfl) (by kernel_rfl) (by kernel_rfl) (k := 4) (by kernel_rfl) (by kernel_rfl) hc ?_
      refine reg_run [.plain] 2 [(0, [], Value.pointer r), (5, [], Value.pointer (some ⟨b_1, 0, none⟩)), (6, [], Value.pointer (some ⟨b_2, 0, none⟩)), (21, [], Value.agg #[Value.bool v21.Gone, Value.slice v21.B.ptr v21.B.len v21.B.cap, Value.int .i64 v21.At, Value.int .i64 v21.Code]), (22, [], Value.pointer (some ⟨b_1, 2, none⟩))] (by kernel_rfl) (by kernel_rfl) ?_
      obtain ⟨v23, hc, h⟩ := h
      refine reg_load1 (t := 3) (a := (Go.Operand.tmp 22)) (b := b_1) (o := 2) (ty := 3) (dst := some 23) (by kernel_rfl) (by kernel_rfl) (by kernel_rfl) hc ?_
      refine reg_run [] 3 [(0, [], Value.pointer r), (5, [], Value.pointer (some ⟨b_1, 0, none⟩)), (6, [], Value.pointer (some ⟨b_2, 0, none⟩)), (21, [], Value.agg #[Value.bool v21.Gone, Value.slice v21.B.ptr v21.B.len v21.B.cap, Value.int .i64 v21.At, Value.int .i64 v21.Code]), (23, [], Value.int .i64 v23)] (by kernel_rfl) (by kernel_rfl) ?_
      refine reg_enter (op := (Go.Op.call (Go.Call.mk (Go.Callee.value (Go.Operand.func 45)) #[(Go.Operand.tmp 21), (Go.Operand.tmp 23)] #[32, 3]))) (ty := 79) (dst := some 24) 45 #[Value.agg #[Value.bool v21.Gone, Value.slice v21.B.ptr v21.B.len v21.B.cap, Value.int .i64 v21.At, Value.int .i64 v21.Code], Value.int .i64 v23] (by kernel_rfl) (fun ww => by kernel_rfl) (Calls.mono h ?_)
      rintro _ w4 ⟨v24, n_, rfl, h⟩
      refine ⟨_, rfl, ?_⟩
      refine reg_run [.plain, .plain, .plain] 7 [(0, [], Value.pointer r), (5, [], Value.pointer (some ⟨b_1, 0, none⟩)), (6, [], Value.pointer (some ⟨b_2, 0, none⟩)), (25, [], Value.agg #[Value.bool v24.Gone, Value.slice v24.B.ptr v24.B.len v24.B.cap, Value.int .i64 v24.At, Value.int .i64 v24.Code]), (26, [], Value.int .u64 n_)] (by kernel_rfl) (by kernel_rfl) ?_
      refine reg_new (op := (Go.Op.alloc 32)) (ty := 0) (dst := some 8) (fun bb => Value.pointer (some ⟨bb, 0, none⟩)) (Obj.cells ([Value.bool false, Value.slice none 0 0, Value.int .i64 0, Value.int .i64 0]).toArray ty_towpathref02_Reader (0, 0)) (by kernel_rfl) (by kernel_rfl) (fun b_3 w5 hb hw => ?_)
      replace h := h b_3 w5 hb hw
      clear hb hw
      refine reg_run [] 8 [(0, [], Value.pointer r), (5, [], Value.pointer (some ⟨b_1, 0, none⟩)), (6, [], Value.pointer (some ⟨b_2, 0, none⟩)), (8, [], Value.pointer (some ⟨b_3, 0, none⟩)), (25, [], Value.agg #[Value.bool v24.Gone, Value.slice v24.B.ptr v24.B.len v24.B.cap, Value.int .i64 v24.At, Value.int .i64 v24.Code]), (26, [], Value.int .u64 n_)] (by kernel_rfl) (by kernel_rfl) ?_
      obtain ⟨hc, h⟩ := h
      refine reg_store (t := 32) (a := (Go.Operand.tmp 8)) (x := (Go.Operand.tmp 25)) (b := b_3) (o := 0) (ty := 0) (dst := none) [Value.bool v24.Gone, Value.slice v24.B.ptr v24.B.len v24.B.cap, Value.int .i64 v24.At, Value.int .i64 v24.Code] (by kernel_rfl) (by kernel_rfl) (by kernel_rfl) (k := 4) (by kernel_rfl) (by kernel_rfl) (by kernel_rfl) hc (fun w6 hw => ?_)
      replace h := h w6 hw
      clear hw
      refine reg_run [.plain] 10 [(0, [], Value.pointer r), (5, [], Value.pointer (some ⟨b_1, 0, none⟩)), (6, [], Value.pointer (some ⟨b_2, 0, none⟩)), (8, [], Value.pointer (some ⟨b_3, 0, none⟩)), (9, [], Value.int .u64 n_)] (by kernel_rfl) (by kernel_rfl) ?_
      refine reg_end [(0, Value.pointer r), (5, Value.pointer (some ⟨b_1, 0, none⟩)), (6, Value.pointer (some ⟨b_2, 0, none⟩)), (8, Value.pointer (some ⟨b_3, 0, none⟩)), (9, Value.int .u64 n_)] (by kernel_rfl) (by kernel_rfl) ?_
      change WpE _ _ c_towpathlaw02_takes_15 _ _ _
      refine wpE_seq (x := c_towpathlaw02_takes_16) (y := c_towpathlaw02_takes_18) (by kernel_rfl) ?_
      refine wpE_mixregion (id := 4) (ops := r_towpathlaw02_takes_16) o_towpathlaw02_takes_16 (by kernel_rfl) (by kernel_rfl) (by kernel_rfl) (by kernel_rfl) (fun w7 hw => ?_)
      replace h := h w7 hw
      clear hw
      refine mreg_run [] 0 [(0, [], Value.pointer r), (5, [], Value.pointer (some ⟨b_1, 0, none⟩)), (6, [], Value.pointer (some ⟨b_2, 0, none⟩)), (8, [], Value.pointer (some ⟨b_3, 0, none⟩)), (9, [], Value.int .u64 n_)] (by kernel_rfl) (by kernel_rfl) ?_
      obtain ⟨v27, hc, h⟩ := h
      refine mreg_loadN (i := 0) (by kernel_rfl) (t := 32) (a := (Go.Operand.tmp 8)) (b := b_3) (o := 0) (ty := 32) (dst := some 27) [Value.bool v27.Gone, Value.slice v27.B.ptr v27.B.len v27.B.cap, Value.int .i64 v27.At, Value.int .i64 v27.Code] (by kernel_rfl) (by kernel_rfl) (by kernel_rfl) (k := 4) (by kernel_rfl) (by kernel_rfl) hc ?_
      refine mreg_run [.plain, .plain] 3 [(6, [], Value.pointer (some ⟨b_2, 0, none⟩)), (9, [], Value.int .u64 n_), (27, [], Value.agg #[Value.bool v27.Gone, Value.slice v27.B.ptr v27.B.len v27.B.cap, Value.int .i64 v27.At, Value.int .i64 v27.Code]), (28, [], Value.pointer r), (29, [], Value.pointer (some ⟨b_1, 2, none⟩))] (by kernel_rfl) (by kernel_rfl) ?_
      obtain ⟨v30, hc, h⟩ := h
      refine mreg_load1 (i := 3) (by kernel_rfl) (t := 3) (a := (Go.Operand.tmp 29)) (b := b_1) (o := 2) (ty := 3) (dst := some 30) (by kernel_rfl) (by kernel_rfl) (by kernel_rfl) hc ?_
      refine mreg_run [.plain] 5 [(6, [], Value.pointer (some ⟨b_2, 0, none⟩)), (27, [], Value.agg #[Value.bool v27.Gone, Value.slice v27.B.ptr v27.B.len v27.B.cap, Value.int .i64 v27.At, Value.int .i64 v27.Code]), (28, [], Value.pointer r), (30, [], Value.int .i64 v30), (32, [], Value.int .u64 n_)] (by kernel_rfl) (by kernel_rfl) ?_
      refine mreg_enter (op := (Go.Op.call (Go.Call.mk (Go.Callee.value (Go.Operand.func 43)) #[(Go.Operand.tmp 28), (Go.Operand.tmp 30)] #[27, 3]))) (ty := 35) (dst := some 31) 4 [1, 3, 2] [(0, fun w' => CellsAt w' b_3 0 [Value.bool v27.Gone, Value.slice v27.B.ptr v27.B.len v27.B.cap, Value.int .i64 v27.At, Value.int .i64 v27.Code])] 43 #[Value.pointer r, Value.int .i64 v30] (by kernel_rfl) (by kernel_rfl) (by kernel_rfl) (by kernel_rfl) (by kernel_rfl) (fun ww => by kernel_rfl) (Calls.mono h ?_)
      rintro _ w8 ⟨v31, rfl, h⟩
      obtain ⟨hk0, h⟩ := h
      refine ⟨_, rfl, ⟨hk0, trivial⟩, ?_⟩
      refine mreg_run [.plain] 7 [(6, [], Value.pointer (some ⟨b_2, 0, none⟩)), (27, [], Value.agg #[Value.bool v27.Gone, Value.slice v27.B.ptr v27.B.len v27.B.cap, Value.int .i64 v27.At, Value.int .i64 v27.Code]), (33, [], Value.bool (v31 == n_))] (by kernel_rfl) (by kernel_rfl) ?_
      obtain ⟨hc, h⟩ := h
      refine mreg_store (t := 32) (a := (Go.Operand.tmp 6)) (x := (Go.Operand.tmp 27)) (b := b_2) (o := 0) (k := 4) (ty := 0) (dst := none) 7 [0, 4, 1, 3, 2] [] [Value.bool v27.Gone, Value.slice v27.B.ptr v27.B.len v27.B.cap, Value.int .i64 v27.At, Value.int .i64 v27.Code] (by kernel_rfl) (by kernel_rfl) (by kernel_rfl) (by kernel_rfl) (by kernel_rfl) (by kernel_rfl) (by kernel_rfl) (by kernel_rfl) (by kernel_rfl) (by kernel_rfl) hc (fun w9 hw => ?_)
      replace h := h w9 hw
      clear hw
      refine ⟨trivial, ?_⟩
      refine mreg_run [.plain] 9 [(6, [], Value.pointer (some ⟨b_2, 0, none⟩)), (7, [], Value.bool (v31 == n_))] (by kernel_rfl) (by kernel_rfl) ?_
      refine mreg_end [(6, Value.pointer (some ⟨b_2, 0, none⟩)), (7, Value.bool (v31 == n_))] (by kernel_rfl) (by kernel_rfl) (by kernel_rfl) ?_
      change WpE _ _ c_towpathlaw02_takes_18 _ _ _
      refine wpE_ret (by kernel_rfl) ?_
      obtain ⟨res, hc_res, h⟩ := h
      repeat (first | refine seqQ_ret ?_ | refine blockQ_ret ?_ | refine loopQ_ret ?_ | refine cutQ_ret ?_)
      exact retT (rs := [(Go.ResultVar.cell 6 32), (Go.ResultVar.tmp 7)]) (vs := [Value.agg #[Value.bool res.Gone, Value.slice res.B.ptr res.B.len res.B.cap, Value.int .i64 res.At, Value.int .i64 res.Code], Value.bool (v31 == n_)]) (by kernel_rfl) (⟨b_2, 0, [Value.bool res.Gone, Value.slice res.B.ptr res.B.len res.B.cap, Value.int .i64 res.At, Value.int .i64 res.Code], by kernel_rfl, hc_res, (sizeP_of (k := 4) (by kernel_rfl) (by kernel_rfl)), .inl ⟨by kernel_rfl, rfl⟩, ⟨by kernel_rfl, trivial⟩⟩) (by kernel_rfl) ⟨res, (v31 == n_), rfl, h⟩
    · replace h := h.2 hb
      refine wpE_seq (x := c_towpathlaw02_takes_20) (y := c_towpathlaw02_takes_22) (by kernel_rfl) ?_
      refine wpE_region (id := 5) (ops := r_towpathlaw02_takes_20) (by kernel_rfl) ?_
      refine reg_run [.plain, .plain] 2 [(0, [], Value.pointer r), (4, [], Value.pointer (some ⟨b_, 0, none⟩)), (5, [], Value.pointer (some ⟨b_1, 0, none⟩)), (6, [], Value.pointer (some ⟨b_2, 0, none⟩)), (17, [], Value.int .u8 v17), (34, [], Value.bool (v17 == 3))] (by kernel_rfl) (by kernel_rfl) ?_
      refine reg_end [(0, Value.pointer r), (4, Value.pointer (some ⟨b_, 0, none⟩)), (5, Value.pointer (some ⟨b_1, 0, none⟩)), (6, Value.pointer (some ⟨b_2, 0, none⟩)), (17, Value.int .u8 v17), (34, Value.bool (v17 == 3))] (by kernel_rfl) (by kernel_rfl) ?_
      change WpE _ _ c_towpathlaw02_takes_22 _ _ _
      refine wpE_cond (o := (Operand.tmp 34)) (b := (v17 == 3)) (x := c_towpathlaw02_takes_23) (y := c_towpathlaw02_takes_30) (by kernel_rfl) (by kernel_rfl) (fun hb => ?_) (fun hb => ?_)
      · replace h := h.1 hb
        refine wpE_seq (x := c_towpathlaw02_takes_24) (y := c_towpathlaw02_takes_26) (by kernel_rfl) ?_
        refine wpE_region (id := 6) (ops := r_towpathlaw02_takes_24) (by kernel_rfl) ?_
        refine reg_run [] 0 [(0, [], Value.pointer r), (4, [], Value.pointer (some ⟨b_, 0, none⟩)), (6, [], Value.pointer (some ⟨b_2, 0, none⟩))] (by kernel_rfl) (by kernel_rfl) ?_
        obtain ⟨v37, hc, h⟩ := h
        refine reg_loadN (t := 32) (a := (Go.Operand.tmp 4)) (b := b_) (o := 0) (ty := 32) (dst := some 37) [Value.bool v37.Gone, Value.slice v37.B.ptr v37.B.len v37.B.cap, Value.int .i64 v37.At, Value.int .i64 v37.Code] (by kernel_rfl) (by kernel_rfl) (by kernel_rfl) (k := 4) (by kernel_rfl) (by kernel_rfl) hc ?_
        refine reg_run [] 1 [(0, [], Value.pointer r), (6, [], Value.pointer (some ⟨b_2, 0, none⟩)), (37, [], Value.agg #[Value.bool v37.Gone, Value.slice v37.B.ptr v37.B.len v37.B.cap, Value.int .i64 v37.At, Value.int .i64 v37.Code])] (by kernel_rfl) (by kernel_rfl) ?_
        refine reg_enter (op := (Go.Op.call (Go.Call.mk (Go.Callee.value (Go.Operand.func 46)) #[(Go.Operand.tmp 37)] #[32]))) (ty := 81) (dst := some 38) 46 #[Value.agg #[Value.bool v37.Gone, Value.slice v37.B.ptr v37.B.len v37.B.cap, Value.int .i64 v37.At, Value.int .i64 v37.Code]] (by kernel_rfl) (fun ww => by kernel_rfl) (Calls.mono h ?_)
        rintro _ w10 ⟨v38, n_1, rfl, h⟩
        refine ⟨_, rfl, ?_⟩
        refine reg_run [.plain, .plain, .plain] 5 [(0, [], Value.pointer r), (6, [], Value.pointer (some ⟨b_2, 0, none⟩)), (39, [], Value.agg #[Value.bool v38.Gone, Value.slice v38.B.ptr v38.B.len v38.B.cap, Value.int .i64 v38.At, Value.int .i64 v38.Code]), (40, [], Value.int .i64 n_1)] (by kernel_rfl) (by kernel_rfl) ?_
        refine reg_new (op := (Go.Op.alloc 32)) (ty := 0) (dst := some 10) (fun bb => Value.pointer (some ⟨bb, 0, none⟩)) (Obj.cells ([Value.bool false, Value.slice none 0 0, Value.int .i64 0, Value.int .i64 0]).toArray ty_towpathref02_Reader (0, 0)) (by kernel_rfl) (by kernel_rfl) (fun b_4 w11 hb hw => ?_)
        replace h := h b_4 w11 hb hw
        clear hb hw
        refine reg_run [] 6 [(0, [], Value.pointer r), (6, [], Value.pointer (some ⟨b_2, 0, none⟩)), (10, [], Value.pointer (some ⟨b_4, 0, none⟩)), (39, [], Value.agg #[Value.bool v38.Gone, Value.slice v38.B.ptr v38.B.len v38.B.cap, Value.int .i64 v38.At, Value.int .i64 v38.Code]), (40, [], Value.int .i64 n_1)] (by kernel_rfl) (by kernel_rfl) ?_
        obtain ⟨hc, h⟩ := h
        refine reg_store (t := 32) (a := (Go.Operand.tmp 10)) (x := (Go.Operand.tmp 39)) (b := b_4) (o := 0) (ty := 0) (dst := none) [Value.bool v38.Gone, Value.slice v38.B.ptr v38.B.len v38.B.cap, Value.int .i64 v38.At, Value.int .i64 v38.Code] (by kernel_rfl) (by kernel_rfl) (by kernel_rfl) (k := 4) (by kernel_rfl) (by kernel_rfl) (by kernel_rfl) hc (fun w12 hw => ?_)
        replace h := h w12 hw
        clear hw
        refine reg_run [.plain] 8 [(0, [], Value.pointer r), (6, [], Value.pointer (some ⟨b_2, 0, none⟩)), (10, [], Value.pointer (some ⟨b_4, 0, none⟩)), (11, [], Value.int .i64 n_1)] (by kernel_rfl) (by kernel_rfl) ?_
        refine reg_end [(0, Value.pointer r), (6, Value.pointer (some ⟨b_2, 0, none⟩)), (10, Value.pointer (some ⟨b_4, 0, none⟩)), (11, Value.int .i64 n_1)] (by kernel_rfl) (by kernel_rfl) ?_
        change WpE _ _ c_towpathlaw02_takes_26 _ _ _
        refine wpE_seq (x := c_towpathlaw02_takes_27) (y := c_towpathlaw02_takes_29) (by kernel_rfl) ?_
        refine wpE_mixregion (id := 7) (ops := r_towpathlaw02_takes_27) o_towpathlaw02_takes_27 (by kernel_rfl) (by kernel_rfl) (by kernel_rfl) (by kernel_rfl) (fun w13 hw => ?_)
        replace h := h w13 hw
        clear hw
        refine mreg_run [] 0 [(0, [], Value.pointer r), (6, [], Value.pointer (some ⟨b_2, 0, none⟩)), (10, [], Value.pointer (some ⟨b_4, 0, none⟩)), (11, [], Value.int .i64 n_1)] (by kernel_rfl) (by kernel_rfl) ?_
        obtain ⟨v41, hc, h⟩ := h
        refine mreg_loadN (i := 0) (by kernel_rfl) (t := 32) (a := (Go.Operand.tmp 10)) (b := b_4) (o := 0) (ty := 32) (dst := some 41) [Value.bool v41.Gone, Value.slice v41.B.ptr v41.B.len v41.B.cap, Value.int .i64 v41.At, Value.int .i64 v41.Code] (by kernel_rfl) (by kernel_rfl) (by kernel_rfl) (k := 4) (by kernel_rfl) (by kernel_rfl) hc ?_
        refine mreg_run [.plain, .plain] 3 [(6, [], Value.pointer (some ⟨b_2, 0, none⟩)), (41, [], Value.agg #[Value.bool v41.Gone, Value.slice v41.B.ptr v41.B.len v41.B.cap, Value.int .i64 v41.At, Value.int .i64 v41.Code]), (42, [], Value.pointer r), (44, [], Value.int .i64 n_1)] (by kernel_rfl) (by kernel_rfl) ?_
        refine mreg_enter (op := (Go.Op.call (Go.Call.mk (Go.Callee.value (Go.Operand.func 39)) #[(Go.Operand.tmp 42)] #[27]))) (ty := 2) (dst := some 43) 2 [1] [(0, fun w' => CellsAt w' b_4 0 [Value.bool v41.Gone, Value.slice v41.B.ptr v41.B.len v41.B.cap, Value.int .i64 v41.At, Value.int .i64 v41.Code])] 39 #[Value.pointer r] (by kernel_rfl) (by kernel_rfl) (by kernel_rfl) (by kernel_rfl) (by kernel_rfl) (fun ww => by kernel_rfl) (Calls.mono h ?_)
        rintro _ w14 ⟨v43, rfl, h⟩
        obtain ⟨hk0, h⟩ := h
        refine ⟨_, rfl, ⟨hk0, trivial⟩, ?_⟩
        refine mreg_run [.plain] 5 [(6, [], Value.pointer (some ⟨b_2, 0, none⟩)), (41, [], Value.agg #[Value.bool v41.Gone, Value.slice v41.B.ptr v41.B.len v41.B.cap, Value.int .i64 v41.At, Value.int .i64 v41.Code]), (45, [], Value.bool (v43 == n_1))] (by kernel_rfl) (by kernel_rfl) ?_
        obtain ⟨hc, h⟩ := h
        refine mreg_store (t := 32) (a := (Go.Operand.tmp 6)) (x := (Go.Operand.tmp 41)) (b := b_2) (o := 0) (k := 4) (ty := 0) (dst := none) 5 [0, 2, 1] [] [Value.bool v41.Gone, Value.slice v41.B.ptr v41.B.len v41.B.cap, Value.int .i64 v41.At, Value.int .i64 v41.Code] (by kernel_rfl) (by kernel_rfl) (by kernel_rfl) (by kernel_rfl) (by kernel_rfl) (by kernel_rfl) (by kernel_rfl) (by kernel_rfl) (by kernel_rfl) (by kernel_rfl) hc (fun w15 hw => ?_)
        replace h := h w15 hw
        clear hw
        refine ⟨trivial, ?_⟩
        refine mreg_run [.plain] 7 [(6, [], Value.pointer (some ⟨b_2, 0, none⟩)), (7, [], Value.bool (v43 == n_1))] (by kernel_rfl) (by kernel_rfl) ?_
        refine mreg_end [(6, Value.pointer (some ⟨b_2, 0, none⟩)), (7, Value.bool (v43 == n_1))] (by kernel_rfl) (by kernel_rfl) (by kernel_rfl) ?_
        change WpE _ _ c_towpathlaw02_takes_29 _ _ _
        refine wpE_ret (by kernel_rfl) ?_
        obtain ⟨res1, hc_res1, h⟩ := h
        repeat (first | refine seqQ_ret ?_ | refine blockQ_ret ?_ | refine loopQ_ret ?_ | refine cutQ_ret ?_)
        exact retT (rs := [(Go.ResultVar.cell 6 32), (Go.ResultVar.tmp 7)]) (vs := [Value.agg #[Value.bool res1.Gone, Value.slice res1.B.ptr res1.B.len res1.B.cap, Value.int .i64 res1.At, Value.int .i64 res1.Code], Value.bool (v43 == n_1)]) (by kernel_rfl) (⟨b_2, 0, [Value.bool res1.Gone, Value.slice res1.B.ptr res1.B.len res1.B.cap, Value.int .i64 res1.At, Value.int .i64 res1.Code], by kernel_rfl, hc_res1, (sizeP_of (k := 4) (by kernel_rfl) (by kernel_rfl)), .inl ⟨by kernel_rfl, rfl⟩, ⟨by kernel_rfl, trivial⟩⟩) (by kernel_rfl) ⟨res1, (v43 == n_1), rfl, h⟩
      · replace h := h.2 hb
        refine wpE_seq (x := c_towpathlaw02_takes_31) (y := c_towpathlaw02_takes_33) (by kernel_rfl) ?_
        refine wpE_region (id := 8) (ops := r_towpathlaw02_takes_31) (by kernel_rfl) ?_
        refine reg_run [.plain, .plain] 2 [(0, [], Value.pointer r), (4, [], Value.pointer (some ⟨b_, 0, none⟩)), (5, [], Value.pointer (some ⟨b_1, 0, none⟩)), (6, [], Value.pointer (some ⟨b_2, 0, none⟩)), (46, [], Value.bool (v17 == 4))] (by kernel_rfl) (by kernel_rfl) ?_
        refine reg_end [(0, Value.pointer r), (4, Value.pointer (some ⟨b_, 0, none⟩)), (5, Value.pointer (some ⟨b_1, 0, none⟩)), (6, Value.pointer (some ⟨b_2, 0, none⟩)), (46, Value.bool (v17 == 4))] (by kernel_rfl) (by kernel_rfl) ?_
        change WpE _ _ c_towpathlaw02_takes_33 _ _ _
        refine wpE_cond (o := (Operand.tmp 46)) (b := (v17 == 4)) (x := c_towpathlaw02_takes_34) (y := c_towpathlaw02_takes_41) (by kernel_rfl) (by kernel_rfl) (fun hb => ?_) (fun hb => ?_)
        · replace h := h.1 hb
          refine wpE_seq (x := c_towpathlaw02_takes_35) (y := c_towpathlaw02_takes_37) (by kernel_rfl) ?_
          refine wpE_region (id := 9) (ops := r_towpathlaw02_takes_35) (by kernel_rfl) ?_
          refine reg_run [] 0 [(0, [], Value.pointer r), (4, [], Value.pointer (some ⟨b_, 0, none⟩)), (5, [], Value.pointer (some ⟨b_1, 0, none⟩)), (6, [], Value.pointer (some ⟨b_2, 0, none⟩))] (by kernel_rfl) (by kernel_rfl) ?_
          obtain ⟨v49, hc, h⟩ := h
          refine reg_loadN (t := 32) (a := (Go.Operand.tmp 4)) (b := b_) (o := 0) (ty := 32) (dst := some 49) [Value.bool v49.Gone, Value.slice v49.B.ptr v49.B.len v49.B.cap, Value.int .i64 v49.At, Value.int .i64 v49.Code] (by kernel_rfl) (by kernel_rfl) (by kernel_rfl) (k := 4) (by kernel_rfl) (by kernel_rfl) hc ?_
          refine reg_run [.plain] 2 [(0, [], Value.pointer r), (5, [], Value.pointer (some ⟨b_1, 0, none⟩)), (6, [], Value.pointer (some ⟨b_2, 0, none⟩)), (49, [], Value.agg #[Value.bool v49.Gone, Value.slice v49.B.ptr v49.B.len v49.B.cap, Value.int .i64 v49.At, Value.int .i64 v49.Code]), (50, [], Value.pointer (some ⟨b_1, 4, none⟩))] (by kernel_rfl) (by kernel_rfl) ?_
          obtain ⟨v51, hc, h⟩ := h
          refine reg_load1 (t := 3) (a := (Go.Operand.tmp 50)) (b := b_1) (o := 4) (ty := 3) (dst := some 51) (by kernel_rfl) (by kernel_rfl) (by kernel_rfl) hc ?_
          refine reg_run [] 3 [(0, [], Value.pointer r), (5, [], Value.pointer (some ⟨b_1, 0, none⟩)), (6, [], Value.pointer (some ⟨b_2, 0, none⟩)), (49, [], Value.agg #[Value.bool v49.Gone, Value.slice v49.B.ptr v49.B.len v49.B.cap, Value.int .i64 v49.At, Value.int .i64 v49.Code]), (51, [], Value.int .i64 v51)] (by kernel_rfl) (by kernel_rfl) ?_
          refine reg_enter (op := (Go.Op.call (Go.Call.mk (Go.Callee.value (Go.Operand.func 47)) #[(Go.Operand.tmp 49), (Go.Operand.tmp 51)] #[32, 3]))) (ty := 83) (dst := some 52) 47 #[Value.agg #[Value.bool v49.Gone, Value.slice v49.B.ptr v49.B.len v49.B.cap, Value.int .i64 v49.At, Value.int .i64 v49.Code], Value.int .i64 v51] (by kernel_rfl) (fun ww => by kernel_rfl) (Calls.mono h ?_)
          rintro _ w16 ⟨v52, s, rfl, h⟩
          refine ⟨_, rfl, ?_⟩
          refine reg_run [.plain, .plain, .plain] 7 [(0, [], Value.pointer r), (5, [], Value.pointer (some ⟨b_1, 0, none⟩)), (6, [], Value.pointer (some ⟨b_2, 0, none⟩)), (53, [], Value.agg #[Value.bool v52.Gone, Value.slice v52.B.ptr v52.B.len v52.B.cap, Value.int .i64 v52.At, Value.int .i64 v52.Code]), (54, [], Value.string s)] (by kernel_rfl) (by kernel_rfl) ?_
          refine reg_new (op := (Go.Op.alloc 32)) (ty := 0) (dst := some 12) (fun bb => Value.pointer (some ⟨bb, 0, none⟩)) (Obj.cells ([Value.bool false, Value.slice none 0 0, Value.int .i64 0, Value.int .i64 0]).toArray ty_towpathref02_Reader (0, 0)) (by kernel_rfl) (by kernel_rfl) (fun b_5 w17 hb hw => ?_)
          replace h := h b_5 w17 hb hw
          clear hb hw
          refine reg_run [] 8 [(0, [], Value.pointer r), (5, [], Value.pointer (some ⟨b_1, 0, none⟩)), (6, [], Value.pointer (some ⟨b_2, 0, none⟩)), (12, [], Value.pointer (some ⟨b_5, 0, none⟩)), (53, [], Value.agg #[Value.bool v52.Gone, Value.slice v52.B.ptr v52.B.len v52.B.cap, Value.int .i64 v52.At, Value.int .i64 v52.Code]), (54, [], Value.string s)] (by kernel_rfl) (by kernel_rfl) ?_
          obtain ⟨hc, h⟩ := h
          refine reg_store (t := 32) (a := (Go.Operand.tmp 12)) (x := (Go.Operand.tmp 53)) (b := b_5) (o := 0) (ty := 0) (dst := none) [Value.bool v52.Gone, Value.slice v52.B.ptr v52.B.len v52.B.cap, Value.int .i64 v52.At, Value.int .i64 v52.Code] (by kernel_rfl) (by kernel_rfl) (by kernel_rfl) (k := 4) (by kernel_rfl) (by kernel_rfl) (by kernel_rfl) hc (fun w18 hw => ?_)
          replace h := h w18 hw
          clear hw
          refine reg_run [.plain] 10 [(0, [], Value.pointer r), (5, [], Value.pointer (some ⟨b_1, 0, none⟩)), (6, [], Value.pointer (some ⟨b_2, 0, none⟩)), (12, [], Value.pointer (some ⟨b_5, 0, none⟩)), (13, [], Value.string s)] (by kernel_rfl) (by kernel_rfl) ?_
          refine reg_end [(0, Value.pointer r), (5, Value.pointer (some ⟨b_1, 0, none⟩)), (6, Value.pointer (some ⟨b_2, 0, none⟩)), (12, Value.pointer (some ⟨b_5, 0, none⟩)), (13, Value.string s)] (by kernel_rfl) (by kernel_rfl) ?_
          change WpE _ _ c_towpathlaw02_takes_37 _ _ _
          refine wpE_seq (x := c_towpathlaw02_takes_38) (y := c_towpathlaw02_takes_40) (by kernel_rfl) ?_
          refine wpE_mixregion (id := 10) (ops := r_towpathlaw02_takes_38) o_towpathlaw02_takes_38 (by kernel_rfl) (by kernel_rfl) (by kernel_rfl) (by kernel_rfl) (fun w19 hw => ?_)
          replace h := h w19 hw
          clear hw
          refine mreg_run [] 0 [(0, [], Value.pointer r), (5, [], Value.pointer (some ⟨b_1, 0, none⟩)), (6, [], Value.pointer (some ⟨b_2, 0, none⟩)), (12, [], Value.pointer (some ⟨b_5, 0, none⟩)), (13, [], Value.string s)] (by kernel_rfl) (by kernel_rfl) ?_
          obtain ⟨v55, hc, h⟩ := h
          refine mreg_loadN (i := 0) (by kernel_rfl) (t := 32) (a := (Go.Operand.tmp 12)) (b := b_5) (o := 0) (ty := 32) (dst := some 55) [Value.bool v55.Gone, Value.slice v55.B.ptr v55.B.len v55.B.cap, Value.int .i64 v55.At, Value.int .i64 v55.Code] (by kernel_rfl) (by kernel_rfl) (by kernel_rfl) (k := 4) (by kernel_rfl) (by kernel_rfl) hc ?_
          refine mreg_run [.plain, .plain] 3 [(6, [], Value.pointer (some ⟨b_2, 0, none⟩)), (13, [], Value.string s), (55, [], Value.agg #[Value.bool v55.Gone, Value.slice v55.B.ptr v55.B.len v55.B.cap, Value.int .i64 v55.At, Value.int .i64 v55.Code]), (56, [], Value.pointer r), (57, [], Value.pointer (some ⟨b_1, 4, none⟩))] (by kernel_rfl) (by kernel_rfl) ?_
          obtain ⟨v58, hc, h⟩ := h
          refine mreg_load1 (i := 3) (by kernel_rfl) (t := 3) (a := (Go.Operand.tmp 57)) (b := b_1) (o := 4) (ty := 3) (dst := some 58) (by kernel_rfl) (by kernel_rfl) (by kernel_rfl) hc ?_
          refine mreg_run [.plain] 5 [(6, [], Value.pointer (some ⟨b_2, 0, none⟩)), (55, [], Value.agg #[Value.bool v55.Gone, Value.slice v55.B.ptr v55.B.len v55.B.cap, Value.int .i64 v55.At, Value.int .i64 v55.Code]), (56, [], Value.pointer r), (58, [], Value.int .i64 v58), (60, [], Value.string s)] (by kernel_rfl) (by kernel_rfl) ?_
          refine mreg_enter (op := (Go.Op.call (Go.Call.mk (Go.Callee.value (Go.Operand.func 41)) #[(Go.Operand.tmp 56), (Go.Operand.tmp 58)] #[27, 3]))) (ty := 9) (dst := some 59) 4 [1, 3, 2] [(0, fun w' => CellsAt w' b_5 0 [Value.bool v55.Gone, Value.slice v55.B.ptr v55.B.len v55.B.cap, Value.int .i64 v55.At, Value.int .i64 v55.Code])] 41 #[Value.pointer r, Value.int .i64 v58] (by kernel_rfl) (by kernel_rfl) (by kernel_rfl) (by kernel_rfl) (by kernel_rfl) (fun ww => by kernel_rfl) (Calls.mono h ?_)
          rintro _ w20 ⟨v59, rfl, h⟩
          obtain ⟨hk0, h⟩ := h
          refine ⟨_, rfl, ⟨hk0, trivial⟩, ?_⟩
          refine mreg_run [.plain] 7 [(6, [], Value.pointer (some ⟨b_2, 0, none⟩)), (55, [], Value.agg #[Value.bool v55.Gone, Value.slice v55.B.ptr v55.B.len v55.B.cap, Value.int .i64 v55.At, Value.int .i64 v55.Code]), (61, [], Value.bool (v59.toList == s.toList))] (by kernel_rfl) (by kernel_rfl) ?_
          obtain ⟨hc, h⟩ := h
          refine mreg_store (t := 32) (a := (Go.Operand.tmp 6)) (x := (Go.Operand.tmp 55)) (b := b_2) (o := 0) (k := 4) (ty := 0) (dst := none) 7 [0, 4, 1, 3, 2] [] [Value.bool v55.Gone, Value.slice v55.B.ptr v55.B.len v55.B.cap, Value.int .i64 v55.At, Value.int .i64 v55.Code] (by kernel_rfl) (by kernel_rfl) (by kernel_rfl) (by kernel_rfl) (by kernel_rfl) (by kernel_rfl) (by kernel_rfl) (by kernel_rfl) (by kernel_rfl) (by kernel_rfl) hc (fun w21 hw => ?_)
          replace h := h w21 hw
          clear hw
          refine ⟨trivial, ?_⟩
          refine mreg_run [.plain] 9 [(6, [], Value.pointer (some ⟨b_2, 0, none⟩)), (7, [], Value.bool (v59.toList == s.toList))] (by kernel_rfl) (by kernel_rfl) ?_
          refine mreg_end [(6, Value.pointer (some ⟨b_2, 0, none⟩)), (7, Value.bool (v59.toList == s.toList))] (by kernel_rfl) (by kernel_rfl) (by kernel_rfl) ?_
          change WpE _ _ c_towpathlaw02_takes_40 _ _ _
          refine wpE_ret (by kernel_rfl) ?_
          obtain ⟨res2, hc_res2, h⟩ := h
          repeat (first | refine seqQ_ret ?_ | refine blockQ_ret ?_ | refine loopQ_ret ?_ | refine cutQ_ret ?_)
          exact retT (rs := [(Go.ResultVar.cell 6 32), (Go.ResultVar.tmp 7)]) (vs := [Value.agg #[Value.bool res2.Gone, Value.slice res2.B.ptr res2.B.len res2.B.cap, Value.int .i64 res2.At, Value.int .i64 res2.Code], Value.bool (v59.toList == s.toList)]) (by kernel_rfl) (⟨b_2, 0, [Value.bool res2.Gone, Value.slice res2.B.ptr res2.B.len res2.B.cap, Value.int .i64 res2.At, Value.int .i64 res2.Code], by kernel_rfl, hc_res2, (sizeP_of (k := 4) (by kernel_rfl) (by kernel_rfl)), .inl ⟨by kernel_rfl, rfl⟩, ⟨by kernel_rfl, trivial⟩⟩) (by kernel_rfl) ⟨res2, (v59.toList == s.toList), rfl, h⟩
        · replace h := h.2 hb
          refine wpE_skip (by kernel_rfl) ?_
          change WpE _ _ c_towpathlaw02_takes_42 _ _ _
          refine wpE_seq (x := c_towpathlaw02_takes_43) (y := c_towpathlaw02_takes_45) (by kernel_rfl) ?_
          refine wpE_region (id := 11) (ops := r_towpathlaw02_takes_43) (by kernel_rfl) ?_
          refine reg_run [] 0 [(0, [], Value.pointer r), (4, [], Value.pointer (some ⟨b_, 0, none⟩)), (6, [], Value.pointer (some ⟨b_2, 0, none⟩))] (by kernel_rfl) (by kernel_rfl) ?_
          obtain ⟨v63, hc, h⟩ := h
          refine reg_loadN (t := 32) (a := (Go.Operand.tmp 4)) (b := b_) (o := 0) (ty := 32) (dst := some 63) [Value.bool v63.Gone, Value.slice v63.B.ptr v63.B.len v63.B.cap, Value.int .i64 v63.At, Value.int .i64 v63.Code] (by kernel_rfl) (by kernel_rfl) (by kernel_rfl) (k := 4) (by kernel_rfl) (by kernel_rfl) hc ?_
          refine reg_run [] 1 [(0, [], Value.pointer r), (6, [], Value.pointer (some ⟨b_2, 0, none⟩)), (63, [], Value.agg #[Value.bool v63.Gone, Value.slice v63.B.ptr v63.B.len v63.B.cap, Value.int .i64 v63.At, Value.int .i64 v63.Code])] (by kernel_rfl) (by kernel_rfl) ?_
          refine reg_enter (op := (Go.Op.call (Go.Call.mk (Go.Callee.value (Go.Operand.func 48)) #[(Go.Operand.tmp 63)] #[32]))) (ty := 79) (dst := some 64) 48 #[Value.agg #[Value.bool v63.Gone, Value.slice v63.B.ptr v63.B.len v63.B.cap, Value.int .i64 v63.At, Value.int .i64 v63.Code]] (by kernel_rfl) (fun ww => by kernel_rfl) (Calls.mono h ?_)
          rintro _ w22 ⟨v64, n_2, rfl, h⟩
          refine ⟨_, rfl, ?_⟩
          refine reg_run [.plain, .plain, .plain] 5 [(0, [], Value.pointer r), (6, [], Value.pointer (some ⟨b_2, 0, none⟩)), (65, [], Value.agg #[Value.bool v64.Gone, Value.slice v64.B.ptr v64.B.len v64.B.cap, Value.int .i64 v64.At, Value.int .i64 v64.Code]), (66, [], Value.int .u64 n_2)] (by kernel_rfl) (by kernel_rfl) ?_
          refine reg_new (op := (Go.Op.alloc 32)) (ty := 0) (dst := some 14) (fun bb => Value.pointer (some ⟨bb, 0, none⟩)) (Obj.cells ([Value.bool false, Value.slice none 0 0, Value.int .i64 0, Value.int .i64 0]).toArray ty_towpathref02_Reader (0, 0)) (by kernel_rfl) (by kernel_rfl) (fun b_6 w23 hb hw => ?_)
          replace h := h b_6 w23 hb hw
          clear hb hw
          refine reg_run [] 6 [(0, [], Value.pointer r), (6, [], Value.pointer (some ⟨b_2, 0, none⟩)), (14, [], Value.pointer (some ⟨b_6, 0, none⟩)), (65, [], Value.agg #[Value.bool v64.Gone, Value.slice v64.B.ptr v64.B.len v64.B.cap, Value.int .i64 v64.At, Value.int .i64 v64.Code]), (66, [], Value.int .u64 n_2)] (by kernel_rfl) (by kernel_rfl) ?_
          obtain ⟨hc, h⟩ := h
          refine reg_store (t := 32) (a := (Go.Operand.tmp 14)) (x := (Go.Operand.tmp 65)) (b := b_6) (o := 0) (ty := 0) (dst := none) [Value.bool v64.Gone, Value.slice v64.B.ptr v64.B.len v64.B.cap, Value.int .i64 v64.At, Value.int .i64 v64.Code] (by kernel_rfl) (by kernel_rfl) (by kernel_rfl) (k := 4) (by kernel_rfl) (by kernel_rfl) (by kernel_rfl) hc (fun w24 hw => ?_)
          replace h := h w24 hw
          clear hw
          refine reg_run [.plain] 8 [(0, [], Value.pointer r), (6, [], Value.pointer (some ⟨b_2, 0, none⟩)), (14, [], Value.pointer (some ⟨b_6, 0, none⟩)), (15, [], Value.int .u64 n_2)] (by kernel_rfl) (by kernel_rfl) ?_
          refine reg_end [(0, Value.pointer r), (6, Value.pointer (some ⟨b_2, 0, none⟩)), (14, Value.pointer (some ⟨b_6, 0, none⟩)), (15, Value.int .u64 n_2)] (by kernel_rfl) (by kernel_rfl) ?_
          change WpE _ _ c_towpathlaw02_takes_45 _ _ _
          refine wpE_seq (x := c_towpathlaw02_takes_46) (y := c_towpathlaw02_takes_48) (by kernel_rfl) ?_
          refine wpE_mixregion (id := 12) (ops := r_towpathlaw02_takes_46) o_towpathlaw02_takes_46 (by kernel_rfl) (by kernel_rfl) (by kernel_rfl) (by kernel_rfl) (fun w25 hw => ?_)
          replace h := h w25 hw
          clear hw
          refine mreg_run [] 0 [(0, [], Value.pointer r), (6, [], Value.pointer (some ⟨b_2, 0, none⟩)), (14, [], Value.pointer (some ⟨b_6, 0, none⟩)), (15, [], Value.int .u64 n_2)] (by kernel_rfl) (by kernel_rfl) ?_
          obtain ⟨v67, hc, h⟩ := h
          refine mreg_loadN (i := 0) (by kernel_rfl) (t := 32) (a := (Go.Operand.tmp 14)) (b := b_6) (o := 0) (ty := 32) (dst := some 67) [Value.bool v67.Gone, Value.slice v67.B.ptr v67.B.len v67.B.cap, Value.int .i64 v67.At, Value.int .i64 v67.Code] (by kernel_rfl) (by kernel_rfl) (by kernel_rfl) (k := 4) (by kernel_rfl) (by kernel_rfl) hc ?_
          refine mreg_run [.plain, .plain] 3 [(6, [], Value.pointer (some ⟨b_2, 0, none⟩)), (67, [], Value.agg #[Value.bool v67.Gone, Value.slice v67.B.ptr v67.B.len v67.B.cap, Value.int .i64 v67.At, Value.int .i64 v67.Code]), (68, [], Value.pointer r), (70, [], Value.int .u64 n_2)] (by kernel_rfl) (by kernel_rfl) ?_
          refine mreg_enter (op := (Go.Op.call (Go.Call.mk (Go.Callee.value (Go.Operand.func 37)) #[(Go.Operand.tmp 68)] #[27]))) (ty := 35) (dst := some 69) 2 [1] [(0, fun w' => CellsAt w' b_6 0 [Value.bool v67.Gone, Value.slice v67.B.ptr v67.B.len v67.B.cap, Value.int .i64 v67.At, Value.int .i64 v67.Code])] 37 #[Value.pointer r] (by kernel_rfl) (by kernel_rfl) (by kernel_rfl) (by kernel_rfl) (by kernel_rfl) (fun ww => by kernel_rfl) (Calls.mono h ?_)
          rintro _ w26 ⟨v69, rfl, h⟩
          obtain ⟨hk0, h⟩ := h
          refine ⟨_, rfl, ⟨hk0, trivial⟩, ?_⟩
          refine mreg_run [.plain] 5 [(6, [], Value.pointer (some ⟨b_2, 0, none⟩)), (67, [], Value.agg #[Value.bool v67.Gone, Value.slice v67.B.ptr v67.B.len v67.B.cap, Value.int .i64 v67.At, Value.int .i64 v67.Code]), (71, [], Value.bool (v69 == n_2))] (by kernel_rfl) (by kernel_rfl) ?_
          obtain ⟨hc, h⟩ := h
          refine mreg_store (t := 32) (a := (Go.Operand.tmp 6)) (x := (Go.Operand.tmp 67)) (b := b_2) (o := 0) (k := 4) (ty := 0) (dst := none) 5 [0, 2, 1] [] [Value.bool v67.Gone, Value.slice v67.B.ptr v67.B.len v67.B.cap, Value.int .i64 v67.At, Value.int .i64 v67.Code] (by kernel_rfl) (by kernel_rfl) (by kernel_rfl) (by kernel_rfl) (by kernel_rfl) (by kernel_rfl) (by kernel_rfl) (by kernel_rfl) (by kernel_rfl) (by kernel_rfl) hc (fun w27 hw => ?_)
          replace h := h w27 hw
          clear hw
          refine ⟨trivial, ?_⟩
          refine mreg_run [.plain] 7 [(6, [], Value.pointer (some ⟨b_2, 0, none⟩)), (7, [], Value.bool (v69 == n_2))] (by kernel_rfl) (by kernel_rfl) ?_
          refine mreg_end [(6, Value.pointer (some ⟨b_2, 0, none⟩)), (7, Value.bool (v69 == n_2))] (by kernel_rfl) (by kernel_rfl) (by kernel_rfl) ?_
          change WpE _ _ c_towpathlaw02_takes_48 _ _ _
          refine wpE_ret (by kernel_rfl) ?_
          obtain ⟨res3, hc_res3, h⟩ := h
          repeat (first | refine seqQ_ret ?_ | refine blockQ_ret ?_ | refine loopQ_ret ?_ | refine cutQ_ret ?_)
          exact retT (rs := [(Go.ResultVar.cell 6 32), (Go.ResultVar.tmp 7)]) (vs := [Value.agg #[Value.bool res3.Gone, Value.slice res3.B.ptr res3.B.len res3.B.cap, Value.int .i64 res3.At, Value.int .i64 res3.Code], Value.bool (v69 == n_2)]) (by kernel_rfl) (⟨b_2, 0, [Value.bool res3.Gone, Value.slice res3.B.ptr res3.B.len res3.B.cap, Value.int .i64 res3.At, Value.int .i64 res3.Code], by kernel_rfl, hc_res3, (sizeP_of (k := 4) (by kernel_rfl) (by kernel_rfl)), .inl ⟨by kernel_rfl, rfl⟩, ⟨by kernel_rfl, trivial⟩⟩) (by kernel_rfl) ⟨res3, (v69 == n_2), rfl, h⟩
  · rintro e w' ⟨v, rfl, r0, r1, rfl, h⟩; exact ⟨r0, r1, rfl, h⟩

/-! ### towpath/towpathlaw02.alive (function 36) -/
noncomputable def c_towpathlaw02_alive_0 : Code := (Try.f36.body).getD Code.skip
noncomputable def c_towpathlaw02_alive_1 : Code := Code.l c_towpathlaw02_alive_0
noncomputable def r_towpathlaw02_alive_1 : Array Oper := Code.ops c_towpathlaw02_alive_1
noncomputable def c_towpathlaw02_alive_3 : Code := Code.r c_towpathlaw02_alive_0
noncomputable def c_towpathlaw02_alive_4 : Code := Code.l c_towpathlaw02_alive_3
noncomputable def r_towpathlaw02_alive_4 : Array Oper := Code.ops c_towpathlaw02_alive_4
noncomputable def c_towpathlaw02_alive_6 : Code := Code.r c_towpathlaw02_alive_3
noncomputable def c_towpathlaw02_alive_7 : Code := Code.l c_towpathlaw02_alive_6
noncomputable def r_towpathlaw02_alive_7 : Array Oper := Code.ops c_towpathlaw02_alive_7
noncomputable def c_towpathlaw02_alive_9 : Code := Code.r c_towpathlaw02_alive_6
noncomputable def c_towpathlaw02_alive_10 : Code := Code.l c_towpathlaw02_alive_9
noncomputable def r_towpathlaw02_alive_10 : Array Oper := Code.ops c_towpathlaw02_alive_10
noncomputable def c_towpathlaw02_alive_12 : Code := Code.r c_towpathlaw02_alive_9
noncomputable def c_towpathlaw02_alive_13 : Code := Code.l c_towpathlaw02_alive_12
noncomputable def r_towpathlaw02_alive_13 : Array Oper := Code.ops c_towpathlaw02_alive_13
noncomputable def c_towpathlaw02_alive_15 : Code := Code.r c_towpathlaw02_alive_12
noncomputable def c_towpathlaw02_alive_16 : Code := Code.l c_towpathlaw02_alive_15
noncomputable def c_towpathlaw02_alive_17 : Code := Code.l c_towpathlaw02_alive_16
noncomputable def r_towpathlaw02_alive_17 : Array Oper := Code.ops c_towpathlaw02_alive_17
noncomputable def c_towpathlaw02_alive_19 : Code := Code.r c_towpathlaw02_alive_16
noncomputable def c_towpathlaw02_alive_20 : Code := Code.l c_towpathlaw02_alive_19
noncomputable def c_towpathlaw02_alive_21 : Code := Code.l c_towpathlaw02_alive_20
noncomputable def r_towpathlaw02_alive_21 : Array Oper := Code.ops c_towpathlaw02_alive_21
noncomputable def c_towpathlaw02_alive_23 : Code := Code.r c_towpathlaw02_alive_20
noncomputable def c_towpathlaw02_alive_24 : Code := Code.r c_towpathlaw02_alive_19
noncomputable def c_towpathlaw02_alive_25 : Code := Code.r c_towpathlaw02_alive_15
noncomputable def c_towpathlaw02_alive_26 : Code := Code.l c_towpathlaw02_alive_25
noncomputable def r_towpathlaw02_alive_26 : Array Oper := Code.ops c_towpathlaw02_alive_26
noncomputable def c_towpathlaw02_alive_28 : Code := Code.r c_towpathlaw02_alive_25
noncomputable def c_towpathlaw02_alive_29 : Code := Code.l c_towpathlaw02_alive_28
noncomputable def r_towpathlaw02_alive_29 : Array Oper := Code.ops c_towpathlaw02_alive_29
noncomputable def c_towpathlaw02_alive_31 : Code := Code.r c_towpathlaw02_alive_28

set_option maxRecDepth 100000 in
set_option maxHeartbeats 4000000 in
theorem S_towpathlaw02_alive {w : World} {R : Bool → World → Prop} (h : F_towpathlaw02_alive R w) : C_towpathlaw02_alive w R := by
  unfold F_towpathlaw02_alive at h
  unfold C_towpathlaw02_alive
  refine Calls.mono (calls_of_wpE (args := []) (R := fun v w' => ∃ (r0 : Bool), v = Value.bool r0 ∧ R r0 w') Try.func36 (c := c_towpathlaw02_alive_0) (by kernel_rfl) 39 (by kernel_rfl) (by kernel_rfl) [] (by kernel_rfl) ?_) ?_
  · refine wpE_seq (x := c_towpathlaw02_alive_1) (y := c_towpathlaw02_alive_3) (by kernel_rfl) ?_
    refine wpE_region (id := 0) (ops := r_towpathlaw02_alive_1) (by kernel_rfl) ?_
    refine reg_run [.plain] 1 [] (by kernel_rfl) (by kernel_rfl) ?_
    refine reg_end [] (by kernel_rfl) (by kernel_rfl) ?_
    change WpE _ _ c_towpathlaw02_alive_3 _ _ _
    refine wpE_seq (x := c_towpathlaw02_alive_4) (y := c_towpathlaw02_alive_6) (by kernel_rfl) ?_
    refine wpE_region (id := 1) (ops := r_towpathlaw02_alive_4) (by kernel_rfl) ?_
    refine reg_run [] 0 [] (by kernel_rfl) (by kernel_rfl) ?_
    refine reg_enter (op := (Go.Op.call (Go.Call.mk (Go.Callee.value (Go.Operand.func 33)) #[] #[]))) (ty := 65) (dst := some 3) 33 #[] (by kernel_rfl) (fun ww => by kernel_rfl) (Calls.mono h ?_)
    rintro _ w1 ⟨v3, rfl, h⟩
    refine ⟨_, rfl, ?_⟩
    refine reg_run [.plain] 2 [(1, [], Value.pointer v3)] (by kernel_rfl) (by kernel_rfl) ?_
    refine reg_end [(1, Value.pointer v3)] (by kernel_rfl) (by kernel_rfl) ?_
    change WpE _ _ c_towpathlaw02_alive_6 _ _ _
    refine wpE_seq (x := c_towpathlaw02_alive_7) (y := c_towpathlaw02_alive_9) (by kernel_rfl) ?_
    refine wpE_region (id := 2) (ops := r_towpathlaw02_alive_7) (by kernel_rfl) ?_
    refine reg_run [.plain] 1 [(1, [], Value.pointer v3), (4, [], Value.pointer v3)] (by kernel_rfl) (by kernel_rfl) ?_
    refine reg_enter (op := (Go.Op.call (Go.Call.mk (Go.Callee.value (Go.Operand.func 34)) #[(Go.Operand.tmp 4), (Go.Operand.const (Go.Value.int Go.IntKind.u64 300))] #[65, 35]))) (ty := 0) (dst := some 5) 34 #[Value.pointer v3, Value.int .u64 300] (by kernel_rfl) (fun ww => by kernel_rfl) (Calls.mono h ?_)
    rintro _ w2 ⟨rfl, h⟩
    refine ⟨_, rfl, ?_⟩
    refine reg_end [(1, Value.pointer v3)] (by kernel_rfl) (by kernel_rfl) ?_
    change WpE _ _ c_towpathlaw02_alive_9 _ _ _
    refine wpE_seq (x := c_towpathlaw02_alive_10) (y := c_towpathlaw02_alive_12) (by kernel_rfl) ?_
    refine wpE_region (id := 3) (ops := r_towpathlaw02_alive_10) (by kernel_rfl) ?_
    refine reg_run [.plain] 1 [(1, [], Value.pointer v3), (6, [], Value.pointer v3)] (by kernel_rfl) (by kernel_rfl) ?_
    refine reg_enter (op := (Go.Op.call (Go.Call.mk (Go.Callee.value (Go.Operand.func 38)) #[(Go.Operand.tmp 6), (Go.Operand.const (Go.Value.int Go.IntKind.i64 (-1)))] #[65, 2]))) (ty := 0) (dst := some 7) 38 #[Value.pointer v3, Value.int .i64 (-1)] (by kernel_rfl) (fun ww => by kernel_rfl) (Calls.mono h ?_)
    rintro _ w3 ⟨rfl, h⟩
    refine ⟨_, rfl, ?_⟩
    refine reg_end [(1, Value.pointer v3)] (by kernel_rfl) (by kernel_rfl) ?_
    change WpE _ _ c_towpathlaw02_alive_12 _ _ _
    refine wpE_seq (x := c_towpathlaw02_alive_13) (y := c_towpathlaw02_alive_15) (by kernel_rfl) ?_
    refine wpE_region (id := 4) (ops := r_towpathlaw02_alive_13) (by kernel_rfl) ?_
    refine reg_run [.plain] 1 [(1, [], Value.pointer v3), (8, [], Value.pointer v3)] (by kernel_rfl) (by kernel_rfl) ?_
    refine reg_enter (op := (Go.Op.call (Go.Call.mk (Go.Callee.value (Go.Operand.func 40)) #[(Go.Operand.tmp 8), (Go.Operand.const (Go.Value.string (ByteArray.mk #[97, 98])))] #[65, 9]))) (ty := 0) (dst := some 9) 40 #[Value.pointer v3, Value.string (ByteArray.mk #[97, 98])] (by kernel_rfl) (fun ww => by kernel_rfl) (Calls.mono h ?_)
    rintro _ w4 ⟨rfl, h⟩
    refine ⟨_, rfl, ?_⟩
    refine reg_end [(1, Value.pointer v3)] (by kernel_rfl) (by kernel_rfl) ?_
    change WpE _ _ c_towpathlaw02_alive_15 _ _ _
    refine wpE_seq (x := c_towpathlaw02_alive_16) (y := c_towpathlaw02_alive_25) (by kernel_rfl) ?_
    refine wpE_seq_cut (x := c_towpathlaw02_alive_17) (y := c_towpathlaw02_alive_19) (by kernel_rfl) (fun l w => ∃ (t17 : Bool), l = [(1, Value.pointer v3), (17, Value.bool t17)] ∧ F_towpathlaw02_alive_k0 R v3 t17 w) ?_ ?_
    · refine wpE_region (id := 5) (ops := r_towpathlaw02_alive_17) (by kernel_rfl) ?_
      refine reg_run [.plain] 1 [(1, [], Value.pointer v3), (10, [], Value.pointer v3)] (by kernel_rfl) (by kernel_rfl) ?_
      refine reg_enter (op := (Go.Op.call (Go.Call.mk (Go.Callee.value (Go.Operand.func 42)) #[(Go.Operand.tmp 10), (Go.Operand.const (Go.Value.int Go.IntKind.u64 4660)), (Go.Operand.const (Go.Value.int Go.IntKind.i64 2))] #[65, 35, 3]))) (ty := 30) (dst := some 11) 42 #[Value.pointer v3, Value.int .u64 4660, Value.int .i64 2] (by kernel_rfl) (fun ww => by kernel_rfl) (Calls.mono h ?_)
      rintro _ w14 ⟨v11, rfl, h⟩
      refine ⟨_, rfl, ?_⟩
      refine reg_run [.plain, .plain, .plain] 5 [(1, [], Value.pointer v3), (13, [], Value.bool (v11 != 0)), (14, [(13, false)], Value.pointer v3)] (by kernel_rfl) (by kernel_rfl) ?_
      refine reg_split 13 (v11 != 0) (by kernel_rfl) (fun hb => ?_) (fun hb => ?_)
      · replace h := h.1 hb
        refine reg_run [] 5 [(1, [], Value.pointer v3), (13, [], Value.bool true), (14, [], undef)] (by kernel_rfl) (by kernel_rfl) ?_
        refine reg_run [.skip, .skip, .plain] 8 [(1, [], Value.pointer v3), (17, [], Value.bool true)] (by kernel_rfl) (by kernel_rfl) ?_
        refine reg_end [(1, Value.pointer v3), (17, Value.bool true)] (by kernel_rfl) (by kernel_rfl) ?_
        exact ⟨[(1, Value.pointer v3), (17, Value.bool true)], Sub.mk (by kernel_rfl), true, rfl, h⟩
      · replace h := h.2 hb
        refine reg_run [] 5 [(1, [], Value.pointer v3), (13, [], Value.bool false), (14, [], Value.pointer v3)] (by kernel_rfl) (by kernel_rfl) ?_
        refine reg_run [] 5 [(1, [], Value.pointer v3), (13, [], Value.bool false), (14, [], Value.pointer v3)] (by kernel_rfl) (by kernel_rfl) ?_
        refine reg_enter (op := (Go.Op.call (Go.Call.mk (Go.Callee.value (Go.Operand.func 42)) #[(Go.Operand.tmp 14), (Go.Operand.const (Go.Value.int Go.IntKind.u64 256)), (Go.Operand.const (Go.Value.int Go.IntKind.i64 1))] #[65, 35, 3]))) (ty := 30) (dst := some 15) 42 #[Value.pointer v3, Value.int .u64 256, Value.int .i64 1] (by kernel_rfl) (fun ww => by kernel_rfl) (Calls.mono h ?_)
        rintro _ w15 ⟨v15, rfl, h⟩
        refine ⟨_, rfl, ?_⟩
        refine reg_run [.sure, .plain] 8 [(1, [], Value.pointer v3), (17, [], Value.bool (v15 != 3))] (by kernel_rfl) (by kernel_rfl) ?_
        refine reg_end [(1, Value.pointer v3), (17, Value.bool (v15 != 3))] (by kernel_rfl) (by kernel_rfl) ?_
        exact ⟨[(1, Value.pointer v3), (17, Value.bool (v15 != 3))], Sub.mk (by kernel_rfl), (v15 != 3), rfl, h⟩
    · rintro _ w5 ⟨t17, rfl, h⟩
      unfold F_towpathlaw02_alive_k0 at h
      refine wpE_cond (o := (Operand.tmp 17)) (b := t17) (x := c_towpathlaw02_alive_20) (y := c_towpathlaw02_alive_24) (by kernel_rfl) (by kernel_rfl) (fun hb => ?_) (fun hb => ?_)
      · replace h := h.1 hb
        refine wpE_seq (x := c_towpathlaw02_alive_21) (y := c_towpathlaw02_alive_23) (by kernel_rfl) ?_
        refine wpE_region (id := 6) (ops := r_towpathlaw02_alive_21) (by kernel_rfl) ?_
        refine reg_run [.plain] 1 [(0, [], Value.bool false)] (by kernel_rfl) (by kernel_rfl) ?_
        refine reg_end [(0, Value.bool false)] (by kernel_rfl) (by kernel_rfl) ?_
        change WpE _ _ c_towpathlaw02_alive_23 _ _ _
        refine wpE_ret (by kernel_rfl) ?_
        repeat (first | refine seqQ_ret ?_ | refine blockQ_ret ?_ | refine loopQ_ret ?_ | refine cutQ_ret ?_)
        exact retS (rs := [(Go.ResultVar.tmp 0)]) (v := Value.bool false) (by kernel_rfl) (⟨by kernel_rfl, trivial⟩) ⟨false, rfl, h⟩
      · replace h := h.2 hb
        refine wpE_skip (by kernel_rfl) ?_
        change WpE _ _ c_towpathlaw02_alive_25 _ _ _
        refine wpE_seq (x := c_towpathlaw02_alive_26) (y := c_towpathlaw02_alive_28) (by kernel_rfl) ?_
        refine wpE_region (id := 7) (ops := r_towpathlaw02_alive_26) (by kernel_rfl) ?_
        refine reg_run [] 0 [(1, [], Value.pointer v3)] (by kernel_rfl) (by kernel_rfl) ?_
        refine reg_new (op := (Go.Op.buildSlice 22 2 #[(0, (Go.Operand.const (Go.Value.int Go.IntKind.u8 128))), (1, (Go.Operand.const (Go.Value.int Go.IntKind.u8 0)))])) (ty := 22) (dst := some 18) (fun bb => Value.slice (some ⟨bb, 0, none⟩) 2 2) (Obj.cells ([Value.int .u8 128, Value.int .u8 0]).toArray ty_uint8 (0, 0)) (by kernel_rfl) (by kernel_rfl) (fun b_ w6 hb hw => ?_)
        replace h := h b_ w6 hb hw
        clear hb hw
        refine reg_run [] 1 [(1, [], Value.pointer v3), (18, [], Value.slice (some ⟨b_, 0, none⟩) 2 2)] (by kernel_rfl) (by kernel_rfl) ?_
        refine reg_enter (op := (Go.Op.call (Go.Call.mk (Go.Callee.value (Go.Operand.func 14)) #[(Go.Operand.tmp 18)] #[22]))) (ty := 27) (dst := some 19) 14 #[Value.slice (some ⟨b_, 0, none⟩) 2 2] (by kernel_rfl) (fun ww => by kernel_rfl) (Calls.mono h ?_)
        rintro _ w7 ⟨v19, rfl, h⟩
        refine ⟨_, rfl, ?_⟩
        refine reg_run [.plain] 3 [(1, [], Value.pointer v3), (2, [], Value.pointer v19)] (by kernel_rfl) (by kernel_rfl) ?_
        refine reg_end [(1, Value.pointer v3), (2, Value.pointer v19)] (by kernel_rfl) (by kernel_rfl) ?_
        change WpE _ _ c_towpathlaw02_alive_28 _ _ _
        refine wpE_seq (x := c_towpathlaw02_alive_29) (y := c_towpathlaw02_alive_31) (by kernel_rfl) ?_
        refine wpE_region (id := 8) (ops := r_towpathlaw02_alive_29) (by kernel_rfl) ?_
        refine reg_run [.plain] 1 [(2, [], Value.pointer v19), (20, [], Value.pointer v3)] (by kernel_rfl) (by kernel_rfl) ?_
        refine reg_enter (op := (Go.Op.call (Go.Call.mk (Go.Callee.value (Go.Operand.func 35)) #[(Go.Operand.tmp 20)] #[65]))) (ty := 22) (dst := some 21) 35 #[Value.pointer v3] (by kernel_rfl) (fun ww => by kernel_rfl) (Calls.mono h ?_)
        rintro _ w8 ⟨v21, rfl, h⟩
        refine ⟨_, rfl, ?_⟩
        refine reg_run [] 2 [(2, [], Value.pointer v19), (21, [], Value.slice v21.ptr v21.len v21.cap)] (by kernel_rfl) (by kernel_rfl) ?_
        refine reg_new (op := (Go.Op.buildSlice 22 8 #[(0, (Go.Operand.const (Go.Value.int Go.IntKind.u8 172))), (1, (Go.Operand.const (Go.Value.int Go.IntKind.u8 2))), (2, (Go.Operand.const (Go.Value.int Go.IntKind.u8 1))), (3, (Go.Operand.const (Go.Value.int Go.IntKind.u8 2))), (4, (Go.Operand.const (Go.Value.int Go.IntKind.u8 97))), (5, (Go.Operand.const (Go.Value.int Go.IntKind.u8 98))), (6, (Go.Operand.const (Go.Value.int Go.IntKind.u8 52))), (7, (Go.Operand.const (Go.Value.int Go.IntKind.u8 18)))])) (ty := 22) (dst := some 22) (fun bb => Value.slice (some ⟨bb, 0, none⟩) 8 8) (Obj.cells ([Value.int .u8 172, Value.int .u8 2, Value.int .u8 1, Value.int .u8 2, Value.int .u8 97, Value.int .u8 98, Value.int .u8 52, Value.int .u8 18]).toArray ty_uint8 (0, 0)) (by kernel_rfl) (by kernel_rfl) (fun b_1 w9 hb hw => ?_)
        replace h := h b_1 w9 hb hw
        clear hb hw
        refine reg_run [] 3 [(2, [], Value.pointer v19), (21, [], Value.slice v21.ptr v21.len v21.cap), (22, [], Value.slice (some ⟨b_1, 0, none⟩) 8 8)] (by kernel_rfl) (by kernel_rfl) ?_
        refine reg_enter (op := (Go.Op.call (Go.Call.mk (Go.Callee.value (Go.Operand.func 30)) #[(Go.Operand.tmp 21), (Go.Operand.tmp 22)] #[22, 22]))) (ty := 4) (dst := some 23) 30 #[Value.slice v21.ptr v21.len v21.cap, Value.slice (some ⟨b_1, 0, none⟩) 8 8] (by kernel_rfl) (fun ww => by kernel_rfl) (Calls.mono h ?_)
        rintro _ w10 ⟨v23, rfl, h⟩
        refine ⟨_, rfl, ?_⟩
        refine reg_run [.plain, .plain] 6 [(2, [], Value.pointer v19), (24, [], Value.bool v23), (25, [(24, true)], Value.pointer v19)] (by kernel_rfl) (by kernel_rfl) ?_
        refine reg_split 24 v23 (by kernel_rfl) (fun hb => ?_) (fun hb => ?_)
        · replace h := h.1 hb
          refine reg_run [] 6 [(2, [], Value.pointer v19), (24, [], Value.bool true), (25, [], Value.pointer v19)] (by kernel_rfl) (by kernel_rfl) ?_
          refine reg_run [] 6 [(2, [], Value.pointer v19), (24, [], Value.bool true), (25, [], Value.pointer v19)] (by kernel_rfl) (by kernel_rfl) ?_
          refine reg_enter (op := (Go.Op.call (Go.Call.mk (Go.Callee.value (Go.Operand.func 37)) #[(Go.Operand.tmp 25)] #[27]))) (ty := 35) (dst := some 26) 37 #[Value.pointer v19] (by kernel_rfl) (fun ww => by kernel_rfl) (Calls.mono h ?_)
          rintro _ w11 ⟨v26, rfl, h⟩
          refine ⟨_, rfl, ?_⟩
          refine reg_run [.sure, .plain, .plain, .plain] 11 [(2, [], Value.pointer v19), (29, [], Value.bool (v26 == 0)), (30, [(29, true)], Value.pointer v19)] (by kernel_rfl) (by kernel_rfl) ?_
          refine reg_split 29 (v26 == 0) (by kernel_rfl) (fun hb => ?_) (fun hb => ?_)
          · replace h := h.1 hb
            refine reg_run [] 11 [(2, [], Value.pointer v19), (29, [], Value.bool true), (30, [], Value.pointer v19)] (by kernel_rfl) (by kernel_rfl) ?_
            refine reg_run [] 11 [(2, [], Value.pointer v19), (29, [], Value.bool true), (30, [], Value.pointer v19)] (by kernel_rfl) (by kernel_rfl) ?_
            refine reg_enter (op := (Go.Op.call (Go.Call.mk (Go.Callee.value (Go.Operand.func 19)) #[(Go.Operand.tmp 30)] #[27]))) (ty := 30) (dst := some 31) 19 #[Value.pointer v19] (by kernel_rfl) (fun ww => by kernel_rfl) (Calls.mono h ?_)
            rintro _ w12 ⟨v31, rfl, h⟩
            refine ⟨_, rfl, ?_⟩
            refine reg_run [.sure, .plain, .plain, .plain] 16 [(34, [], Value.bool (v31 == 4)), (35, [(34, true)], Value.pointer v19)] (by kernel_rfl) (by kernel_rfl) ?_
            refine reg_split 34 (v31 == 4) (by kernel_rfl) (fun hb => ?_) (fun hb => ?_)
            · replace h := h.1 hb
              refine reg_run [] 16 [(34, [], Value.bool true), (35, [], Value.pointer v19)] (by kernel_rfl) (by kernel_rfl) ?_
              refine reg_run [] 16 [(34, [], Value.bool true), (35, [], Value.pointer v19)] (by kernel_rfl) (by kernel_rfl) ?_
              refine reg_enter (op := (Go.Op.call (Go.Call.mk (Go.Callee.value (Go.Operand.func 17)) #[(Go.Operand.tmp 35)] #[27]))) (ty := 3) (dst := some 36) 17 #[Value.pointer v19] (by kernel_rfl) (fun ww => by kernel_rfl) (Calls.mono h ?_)
              rintro _ w13 ⟨v36, rfl, h⟩
              refine ⟨_, rfl, ?_⟩
              refine reg_run [.sure, .plain, .plain] 20 [(0, [], Value.bool (v36 == 2))] (by kernel_rfl) (by kernel_rfl) ?_
              refine reg_end [(0, Value.bool (v36 == 2))] (by kernel_rfl) (by kernel_rfl) ?_
              change WpE _ _ c_towpathlaw02_alive_31 _ _ _
              refine wpE_ret (by kernel_rfl) ?_
              repeat (first | refine seqQ_ret ?_ | refine blockQ_ret ?_ | refine loopQ_ret ?_ | refine cutQ_ret ?_)
              exact retS (rs := [(Go.ResultVar.tmp 0)]) (v := Value.bool (v36 == 2)) (by kernel_rfl) (⟨by kernel_rfl, trivial⟩) ⟨(v36 == 2), rfl, h⟩
            · replace h := h.2 hb
              refine reg_run [] 16 [(34, [], Value.bool false), (35, [], undef)] (by kernel_rfl) (by kernel_rfl) ?_
              refine reg_run [.skip, .skip, .plain, .plain] 20 [(0, [], Value.bool false)] (by kernel_rfl) (by kernel_rfl) ?_
              refine reg_end [(0, Value.bool false)] (by kernel_rfl) (by kernel_rfl) ?_
              change WpE _ _ c_towpathlaw02_alive_31 _ _ _
              refine wpE_ret (by kernel_rfl) ?_
              repeat (first | refine seqQ_ret ?_ | refine blockQ_ret ?_ | refine loopQ_ret ?_ | refine cutQ_ret ?_)
              exact retS (rs := [(Go.ResultVar.tmp 0)]) (v := Value.bool false) (by kernel_rfl) (⟨by kernel_rfl, trivial⟩) ⟨false, rfl, h⟩
          · replace h := h.2 hb
            refine reg_run [] 11 [(2, [], Value.pointer v19), (29, [], Value.bool false), (30, [], undef)] (by kernel_rfl) (by kernel_rfl) ?_
            refine reg_run [.skip, .skip, .plain, .plain, .skip, .skip, .skip, .plain, .plain] 20 [(0, [], Value.bool false)] (by kernel_rfl) (by kernel_rfl) ?_
            refine reg_end [(0, Value.bool false)] (by kernel_rfl) (by kernel_rfl) ?_
            change WpE _ _ c_towpathlaw02_alive_31 _ _ _
            refine wpE_ret (by kernel_rfl) ?_
            repeat (first | refine seqQ_ret ?_ | refine blockQ_ret ?_ | refine loopQ_ret ?_ | refine cutQ_ret ?_)
            exact retS (rs := [(Go.ResultVar.tmp 0)]) (v := Value.bool false) (by kernel_rfl) (⟨by kernel_rfl, trivial⟩) ⟨false, rfl, h⟩
        · replace h := h.2 hb
          refine reg_run [] 6 [(2, [], Value.pointer v19), (24, [], Value.bool false), (25, [], undef)] (by kernel_rfl) (by kernel_rfl) ?_
          refine reg_run [.skip, .skip, .plain, .plain, .skip, .skip, .skip, .plain, .plain, .skip, .skip, .skip, .plain, .plain] 20 [(0, [], Value.bool false)] (by kernel_rfl) (by kernel_rfl) ?_
          refine reg_end [(0, Value.bool false)] (by kernel_rfl) (by kernel_rfl) ?_
          change WpE _ _ c_towpathlaw02_alive_31 _ _ _
          refine wpE_ret (by kernel_rfl) ?_
          repeat (first | refine seqQ_ret ?_ | refine blockQ_ret ?_ | refine loopQ_ret ?_ | refine cutQ_ret ?_)
          exact retS (rs := [(Go.ResultVar.tmp 0)]) (v := Value.bool false) (by kernel_rfl) (⟨by kernel_rfl, trivial⟩) ⟨false, rfl, h⟩
  · rintro e w' ⟨v, rfl, r0, rfl, h⟩; exact ⟨r0, rfl, h⟩
end Go.Proofs.Ytckmganidgbpgaa
