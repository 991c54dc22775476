/- WRITTEN BY PROGRAM (dec.py): for each Go function the clean formula F, the call's contract C, and the proof S that F gives C. -/
import Derived.Test.YtcgfmkpddhhmgaaDoorRows
import Derived.Test.YtcgfmkpddhhmgaaDoorGF
namespace Go.Proofs.YtcgfmkpddhhmgaaDoor
open Go
set_option linter.unusedVariables false

/-! ### (*towpath/towpathlaw01.Book).fillInt (function 31) -/
noncomputable def c_towpathlaw01_Book_fillInt_0 : Code := (Tryd.f31.body).getD Code.skip
noncomputable def c_towpathlaw01_Book_fillInt_1 : Code := Code.l c_towpathlaw01_Book_fillInt_0
noncomputable def r_towpathlaw01_Book_fillInt_1 : Array Oper := Code.ops c_towpathlaw01_Book_fillInt_1
noncomputable def c_towpathlaw01_Book_fillInt_3 : Code := Code.r c_towpathlaw01_Book_fillInt_0
noncomputable def c_towpathlaw01_Book_fillInt_4 : Code := Code.l c_towpathlaw01_Book_fillInt_3
noncomputable def c_towpathlaw01_Book_fillInt_5 : Code := Code.l c_towpathlaw01_Book_fillInt_4
noncomputable def c_towpathlaw01_Book_fillInt_6 : Code := Code.l c_towpathlaw01_Book_fillInt_5
noncomputable def c_towpathlaw01_Book_fillInt_7 : Code := Code.l c_towpathlaw01_Book_fillInt_6
noncomputable def r_towpathlaw01_Book_fillInt_7 : Array Oper := Code.ops c_towpathlaw01_Book_fillInt_7
noncomputable def c_towpathlaw01_Book_fillInt_9 : Code := Code.r c_towpathlaw01_Book_fillInt_6
noncomputable def c_towpathlaw01_Book_fillInt_10 : Code := Code.l c_towpathlaw01_Book_fillInt_9
noncomputable def c_towpathlaw01_Book_fillInt_11 : Code := Code.r c_towpathlaw01_Book_fillInt_9
noncomputable def c_towpathlaw01_Book_fillInt_12 : Code := Code.r c_towpathlaw01_Book_fillInt_5
noncomputable def c_towpathlaw01_Book_fillInt_13 : Code := Code.l c_towpathlaw01_Book_fillInt_12
noncomputable def c_towpathlaw01_Book_fillInt_14 : Code := Code.l c_towpathlaw01_Book_fillInt_13
noncomputable def c_towpathlaw01_Book_fillInt_15 : Code := Code.l c_towpathlaw01_Book_fillInt_14
noncomputable def r_towpathlaw01_Book_fillInt_15 : Array Oper := Code.ops c_towpathlaw01_Book_fillInt_15
noncomputable def c_towpathlaw01_Book_fillInt_17 : Code := Code.r c_towpathlaw01_Book_fillInt_14
noncomputable def c_towpathlaw01_Book_fillInt_18 : Code := Code.l c_towpathlaw01_Book_fillInt_17
noncomputable def r_towpathlaw01_Book_fillInt_18 : Array Oper := Code.ops c_towpathlaw01_Book_fillInt_18
noncomputable def c_towpathlaw01_Book_fillInt_20 : Code := Code.r c_towpathlaw01_Book_fillInt_17
noncomputable def c_towpathlaw01_Book_fillInt_21 : Code := Code.l c_towpathlaw01_Book_fillInt_20
noncomputable def c_towpathlaw01_Book_fillInt_22 : Code := Code.l c_towpathlaw01_Book_fillInt_21
noncomputable def c_towpathlaw01_Book_fillInt_23 : Code := Code.l c_towpathlaw01_Book_fillInt_22
noncomputable def c_towpathlaw01_Book_fillInt_24 : Code := Code.l c_towpathlaw01_Book_fillInt_23
noncomputable def r_towpathlaw01_Book_fillInt_24 : Array Oper := Code.ops c_towpathlaw01_Book_fillInt_24
noncomputable def c_towpathlaw01_Book_fillInt_26 : Code := Code.r c_towpathlaw01_Book_fillInt_23
noncomputable def c_towpathlaw01_Book_fillInt_27 : Code := Code.l c_towpathlaw01_Book_fillInt_26
noncomputable def c_towpathlaw01_Book_fillInt_28 : Code := Code.r c_towpathlaw01_Book_fillInt_26
noncomputable def c_towpathlaw01_Book_fillInt_29 : Code := Code.r c_towpathlaw01_Book_fillInt_22
noncomputable def c_towpathlaw01_Book_fillInt_30 : Code := Code.l c_towpathlaw01_Book_fillInt_29
noncomputable def c_towpathlaw01_Book_fillInt_31 : Code := Code.l c_towpathlaw01_Book_fillInt_30
noncomputable def r_towpathlaw01_Book_fillInt_31 : Array Oper := Code.ops c_towpathlaw01_Book_fillInt_31
noncomputable def c_towpathlaw01_Book_fillInt_33 : Code := Code.r c_towpathlaw01_Book_fillInt_29
noncomputable def r_towpathlaw01_Book_fillInt_33 : Array Oper := Code.ops c_towpathlaw01_Book_fillInt_33
noncomputable def c_towpathlaw01_Book_fillInt_35 : Code := Code.r c_towpathlaw01_Book_fillInt_12
noncomputable def r_towpathlaw01_Book_fillInt_35 : Array Oper := Code.ops c_towpathlaw01_Book_fillInt_35

set_option maxRecDepth 100000 in
set_option maxHeartbeats 4000000 in
theorem S_towpathlaw01_Book_fillInt {b_ : Option Addr} {w : World} {R : World → Prop} (h : F_towpathlaw01_Book_fillInt b_ R w) : C_towpathlaw01_Book_fillInt b_ w R := by
  unfold F_towpathlaw01_Book_fillInt at h
  unfold C_towpathlaw01_Book_fillInt
  refine Calls.mono (calls_of_wpE (args := [Value.pointer b_]) (R := fun v w' => v = Value.tuple #[] ∧ R w') Tryd.func31 (c := c_towpathlaw01_Book_fillInt_0) (by kernel_rfl) 35 (by kernel_rfl) (by kernel_rfl) [(0, Value.pointer b_)] (by kernel_rfl) ?_) ?_
  · refine wpE_seq (x := c_towpathlaw01_Book_fillInt_1) (y := c_towpathlaw01_Book_fillInt_3) (by kernel_rfl) ?_
    refine wpE_region (id := 0) (ops := r_towpathlaw01_Book_fillInt_1) (by kernel_rfl) ?_
    refine reg_run [.plain] 1 [(0, [], Value.pointer b_), (2, [], Value.int .i64 0)] (by kernel_rfl) (by kernel_rfl) ?_
    refine reg_end [(0, Value.pointer b_), (2, Value.int .i64 0)] (by kernel_rfl) (by kernel_rfl) ?_
    change WpE _ _ c_towpathlaw01_Book_fillInt_3 _ _ _
    refine wpE_block (id := 0) (x := c_towpathlaw01_Book_fillInt_4) (by kernel_rfl) ?_
    obtain ⟨I, μ, h0, hr⟩ := h
    refine wpE_loop (x := c_towpathlaw01_Book_fillInt_5) (by kernel_rfl) (fun m l w => ∃ (i : Int), l = [(0, Value.pointer b_), (2, Value.int .i64 i)] ∧ I i w ∧ μ i w = m) (l' := [(0, Value.pointer b_), (2, Value.int .i64 0)]) (Sub.mk (by kernel_rfl)) ⟨0, rfl, h0, rfl⟩ ?_
    rintro _ _ w1 ⟨i, rfl, hI, rfl⟩
    obtain ⟨again_, again__h, h⟩ : ∃ again_ : Int → World → Prop, (∀ i' w', again_ i' w' → I i' w' ∧ μ i' w' < μ i w1) ∧ F_towpathlaw01_Book_fillInt_L0 b_ R again_ i w1 := ⟨_, fun _ _ h => h, hr i w1 hI⟩
    clear h0 hI
    unfold F_towpathlaw01_Book_fillInt_L0 at h
    refine wpE_seq (x := c_towpathlaw01_Book_fillInt_6) (y := c_towpathlaw01_Book_fillInt_12) (by kernel_rfl) ?_
    refine wpE_seq (x := c_towpathlaw01_Book_fillInt_7) (y := c_towpathlaw01_Book_fillInt_9) (by kernel_rfl) ?_
    refine wpE_region (id := 1) (ops := r_towpathlaw01_Book_fillInt_7) (by kernel_rfl) ?_
    refine reg_run [.plain, .plain] 2 [(0, [], Value.pointer b_), (2, [], Value.int .i64 i), (5, [], Value.int .i64 i), (6, [], Value.pointer b_)] (by kernel_rfl) (by kernel_rfl) ?_
    obtain ⟨hp_3, h⟩ := h
    refine reg_conv [(0, [], Value.pointer b_), (2, [], Value.int .i64 i), (5, [], Value.int .i64 i), (6, [], Value.pointer (some ⟨(pblk b_), (poff b_), none⟩))] (congrArg (fun pp => ([(0, [], Value.pointer b_), (2, [], Value.int .i64 i), (5, [], Value.int .i64 i), (6, [], Value.pointer pp)] : GEnv)) hp_3) ?_
    refine reg_run [.plain] 3 [(0, [], Value.pointer b_), (2, [], Value.int .i64 i), (5, [], Value.int .i64 i), (6, [], Value.pointer (some ⟨(pblk b_), (poff b_), none⟩)), (7, [], Value.pointer (some ⟨(pblk b_), (poff b_), none⟩))] (by kernel_rfl) (by kernel_rfl) ?_
    refine reg_run [.plain] 4 [(0, [], Value.pointer b_), (2, [], Value.int .i64 i), (5, [], Value.int .i64 i), (8, [], Value.pointer (some ⟨(pblk b_), (poff b_) + 2, none⟩))] (by kernel_rfl) (by kernel_rfl) ?_
    obtain ⟨v9, hc, h⟩ := h
    refine reg_load1 (t := 35) (a := (Go.Operand.tmp 8)) (b := (pblk b_)) (o := ((poff b_) + 2)) (ty := 35) (dst := some 9) (by kernel_rfl) (by kernel_rfl) (by kernel_rfl) hc ?_
    refine reg_run [.plain, .plain] 7 [(0, [], Value.pointer b_), (2, [], Value.int .i64 i), (11, [], Value.bool (decide (i < ((v9.len : Nat) : Int))))] (by kernel_rfl) (by kernel_rfl) ?_
    refine reg_end [(0, Value.pointer b_), (2, Value.int .i64 i), (11, Value.bool (decide (i < ((v9.len : Nat) : Int))))] (by kernel_rfl) (by kernel_rfl) ?_
    change WpE _ _ c_towpathlaw01_Book_fillInt_9 _ _ _
    refine wpE_cond (o := (Operand.tmp 11)) (b := (decide (i < ((v9.len : Nat) : Int)))) (x := c_towpathlaw01_Book_fillInt_10) (y := c_towpathlaw01_Book_fillInt_11) (by kernel_rfl) (by kernel_rfl) (fun hb => ?_) (fun hb => ?_)
    · replace h := h.1 hb
      exact h.elim
    · replace h := h.2 hb
      refine wpE_exit (id := 0) (by kernel_rfl) ?_
      repeat (first | refine seqQ_exit ?_ | refine loopQ_exit ?_ | refine cutQ_exit ?_ | refine blockQ_hit ?_ | refine blockQ_miss (by kernel_rfl) ?_)
      refine retQ_normal ?_
      repeat (first | refine seqQ_ret ?_ | refine blockQ_ret ?_ | refine loopQ_ret ?_ | refine cutQ_ret ?_)
      exact retT (rs := []) (vs := []) (by kernel_rfl) (trivial) (by kernel_rfl) ⟨rfl, h⟩
  · rintro e w' ⟨v, rfl, rfl, h⟩; exact ⟨rfl, h⟩

/-! ### (*towpath/towpathlaw01.Book).fillText (function 32) -/
noncomputable def c_towpathlaw01_Book_fillText_0 : Code := (Tryd.f32.body).getD Code.skip
noncomputable def c_towpathlaw01_Book_fillText_1 : Code := Code.l c_towpathlaw01_Book_fillText_0
noncomputable def r_towpathlaw01_Book_fillText_1 : Array Oper := Code.ops c_towpathlaw01_Book_fillText_1
noncomputable def c_towpathlaw01_Book_fillText_3 : Code := Code.r c_towpathlaw01_Book_fillText_0
noncomputable def c_towpathlaw01_Book_fillText_4 : Code := Code.l c_towpathlaw01_Book_fillText_3
noncomputable def c_towpathlaw01_Book_fillText_5 : Code := Code.l c_towpathlaw01_Book_fillText_4
noncomputable def c_towpathlaw01_Book_fillText_6 : Code := Code.l c_towpathlaw01_Book_fillText_5
noncomputable def c_towpathlaw01_Book_fillText_7 : Code := Code.l c_towpathlaw01_Book_fillText_6
noncomputable def r_towpathlaw01_Book_fillText_7 : Array Oper := Code.ops c_towpathlaw01_Book_fillText_7
noncomputable def c_towpathlaw01_Book_fillText_9 : Code := Code.r c_towpathlaw01_Book_fillText_6
noncomputable def c_towpathlaw01_Book_fillText_10 : Code := Code.l c_towpathlaw01_Book_fillText_9
noncomputable def c_towpathlaw01_Book_fillText_11 : Code := Code.r c_towpathlaw01_Book_fillText_9
noncomputable def c_towpathlaw01_Book_fillText_12 : Code := Code.r c_towpathlaw01_Book_fillText_5
noncomputable def c_towpathlaw01_Book_fillText_13 : Code := Code.l c_towpathlaw01_Book_fillText_12
noncomputable def c_towpathlaw01_Book_fillText_14 : Code := Code.l c_towpathlaw01_Book_fillText_13
noncomputable def c_towpathlaw01_Book_fillText_15 : Code := Code.l c_towpathlaw01_Book_fillText_14
noncomputable def r_towpathlaw01_Book_fillText_15 : Array Oper := Code.ops c_towpathlaw01_Book_fillText_15
noncomputable def c_towpathlaw01_Book_fillText_17 : Code := Code.r c_towpathlaw01_Book_fillText_14
noncomputable def c_towpathlaw01_Book_fillText_18 : Code := Code.l c_towpathlaw01_Book_fillText_17
noncomputable def r_towpathlaw01_Book_fillText_18 : Array Oper := Code.ops c_towpathlaw01_Book_fillText_18
noncomputable def c_towpathlaw01_Book_fillText_20 : Code := Code.r c_towpathlaw01_Book_fillText_17
noncomputable def c_towpathlaw01_Book_fillText_21 : Code := Code.l c_towpathlaw01_Book_fillText_20
noncomputable def c_towpathlaw01_Book_fillText_22 : Code := Code.l c_towpathlaw01_Book_fillText_21
noncomputable def c_towpathlaw01_Book_fillText_23 : Code := Code.l c_towpathlaw01_Book_fillText_22
noncomputable def c_towpathlaw01_Book_fillText_24 : Code := Code.l c_towpathlaw01_Book_fillText_23
noncomputable def r_towpathlaw01_Book_fillText_24 : Array Oper := Code.ops c_towpathlaw01_Book_fillText_24
noncomputable def c_towpathlaw01_Book_fillText_26 : Code := Code.r c_towpathlaw01_Book_fillText_23
noncomputable def c_towpathlaw01_Book_fillText_27 : Code := Code.l c_towpathlaw01_Book_fillText_26
noncomputable def c_towpathlaw01_Book_fillText_28 : Code := Code.r c_towpathlaw01_Book_fillText_26
noncomputable def c_towpathlaw01_Book_fillText_29 : Code := Code.r c_towpathlaw01_Book_fillText_22
noncomputable def c_towpathlaw01_Book_fillText_30 : Code := Code.l c_towpathlaw01_Book_fillText_29
noncomputable def c_towpathlaw01_Book_fillText_31 : Code := Code.l c_towpathlaw01_Book_fillText_30
noncomputable def r_towpathlaw01_Book_fillText_31 : Array Oper := Code.ops c_towpathlaw01_Book_fillText_31
noncomputable def c_towpathlaw01_Book_fillText_33 : Code := Code.r c_towpathlaw01_Book_fillText_29
noncomputable def r_towpathlaw01_Book_fillText_33 : Array Oper := Code.ops c_towpathlaw01_Book_fillText_33
noncomputable def c_towpathlaw01_Book_fillText_35 : Code := Code.r c_towpathlaw01_Book_fillText_12
noncomputable def r_towpathlaw01_Book_fillText_35 : Array Oper := Code.ops c_towpathlaw01_Book_fillText_35

set_option maxRecDepth 100000 in
set_option maxHeartbeats 4000000 in
theorem S_towpathlaw01_Book_fillText {b_ : Option Addr} {w : World} {R : World → Prop} (h : F_towpathlaw01_Book_fillText b_ R w) : C_towpathlaw01_Book_fillText b_ w R := by
  unfold F_towpathlaw01_Book_fillText at h
  unfold C_towpathlaw01_Book_fillText
  refine Calls.mono (calls_of_wpE (args := [Value.pointer b_]) (R := fun v w' => v = Value.tuple #[] ∧ R w') Tryd.func32 (c := c_towpathlaw01_Book_fillText_0) (by kernel_rfl) 35 (by kernel_rfl) (by kernel_rfl) [(0, Value.pointer b_)] (by kernel_rfl) ?_) ?_
  · refine wpE_seq (x := c_towpathlaw01_Book_fillText_1) (y := c_towpathlaw01_Book_fillText_3) (by kernel_rfl) ?_
    refine wpE_region (id := 0) (ops := r_towpathlaw01_Book_fillText_1) (by kernel_rfl) ?_
    refine reg_run [.plain] 1 [(0, [], Value.pointer b_), (2, [], Value.int .i64 0)] (by kernel_rfl) (by kernel_rfl) ?_
    refine reg_end [(0, Value.pointer b_), (2, Value.int .i64 0)] (by kernel_rfl) (by kernel_rfl) ?_
    change WpE _ _ c_towpathlaw01_Book_fillText_3 _ _ _
    refine wpE_block (id := 0) (x := c_towpathlaw01_Book_fillText_4) (by kernel_rfl) ?_
    obtain ⟨I, μ, h0, hr⟩ := h
    refine wpE_loop (x := c_towpathlaw01_Book_fillText_5) (by kernel_rfl) (fun m l w => ∃ (i : Int), l = [(0, Value.pointer b_), (2, Value.int .i64 i)] ∧ I i w ∧ μ i w = m) (l' := [(0, Value.pointer b_), (2, Value.int .i64 0)]) (Sub.mk (by kernel_rfl)) ⟨0, rfl, h0, rfl⟩ ?_
    rintro _ _ w1 ⟨i, rfl, hI, rfl⟩
    obtain ⟨again_, again__h, h⟩ : ∃ again_ : Int → World → Prop, (∀ i' w', again_ i' w' → I i' w' ∧ μ i' w' < μ i w1) ∧ F_towpathlaw01_Book_fillText_L0 b_ R again_ i w1 := ⟨_, fun _ _ h => h, hr i w1 hI⟩
    clear h0 hI
    unfold F_towpathlaw01_Book_fillText_L0 at h
    refine wpE_seq (x := c_towpathlaw01_Book_fillText_6) (y := c_towpathlaw01_Book_fillText_12) (by kernel_rfl) ?_
    refine wpE_seq (x := c_towpathlaw01_Book_fillText_7) (y := c_towpathlaw01_Book_fillText_9) (by kernel_rfl) ?_
    refine wpE_region (id := 1) (ops := r_towpathlaw01_Book_fillText_7) (by kernel_rfl) ?_
    refine reg_run [.plain, .plain] 2 [(0, [], Value.pointer b_), (2, [], Value.int .i64 i), (5, [], Value.int .i64 i), (6, [], Value.pointer b_)] (by kernel_rfl) (by kernel_rfl) ?_
    obtain ⟨hp_3, h⟩ := h
    refine reg_conv [(0, [], Value.pointer b_), (2, [], Value.int .i64 i), (5, [], Value.int .i64 i), (6, [], Value.pointer (some ⟨(pblk b_), (poff b_), none⟩))] (congrArg (fun pp => ([(0, [], Value.pointer b_), (2, [], Value.int .i64 i), (5, [], Value.int .i64 i), (6, [], Value.pointer pp)] : GEnv)) hp_3) ?_
    refine reg_run [.plain] 3 [(0, [], Value.pointer b_), (2, [], Value.int .i64 i), (5, [], Value.int .i64 i), (6, [], Value.pointer (some ⟨(pblk b_), (poff b_), none⟩)), (7, [], Value.pointer (some ⟨(pblk b_), (poff b_), none⟩))] (by kernel_rfl) (by kernel_rfl) ?_
    refine reg_run [.plain] 4 [(0, [], Value.pointer b_), (2, [], Value.int .i64 i), (5, [], Value.int .i64 i), (8, [], Value.pointer (some ⟨(pblk b_), (poff b_) + 3, none⟩))] (by kernel_rfl) (by kernel_rfl) ?_
    obtain ⟨v9, hc, h⟩ := h
    refine reg_load1 (t := 36) (a := (Go.Operand.tmp 8)) (b := (pblk b_)) (o := ((poff b_) + 3)) (ty := 36) (dst := some 9) (by kernel_rfl) (by kernel_rfl) (by kernel_rfl) hc ?_
    refine reg_run [.plain, .plain] 7 [(0, [], Value.pointer b_), (2, [], Value.int .i64 i), (11, [], Value.bool (decide (i < ((v9.len : Nat) : Int))))] (by kernel_rfl) (by kernel_rfl) ?_
    refine reg_end [(0, Value.pointer b_), (2, Value.int .i64 i), (11, Value.bool (decide (i < ((v9.len : Nat) : Int))))] (by kernel_rfl) (by kernel_rfl) ?_
    change WpE _ _ c_towpathlaw01_Book_fillText_9 _ _ _
    refine wpE_cond (o := (Operand.tmp 11)) (b := (decide (i < ((v9.len : Nat) : Int)))) (x := c_towpathlaw01_Book_fillText_10) (y := c_towpathlaw01_Book_fillText_11) (by kernel_rfl) (by kernel_rfl) (fun hb => ?_) (fun hb => ?_)
    · replace h := h.1 hb
      exact h.elim
    · replace h := h.2 hb
      refine wpE_exit (id := 0) (by kernel_rfl) ?_
      repeat (first | refine seqQ_exit ?_ | refine loopQ_exit ?_ | refine cutQ_exit ?_ | refine blockQ_hit ?_ | refine blockQ_miss (by kernel_rfl) ?_)
      refine retQ_normal ?_
      repeat (first | refine seqQ_ret ?_ | refine blockQ_ret ?_ | refine loopQ_ret ?_ | refine cutQ_ret ?_)
      exact retT (rs := []) (vs := []) (by kernel_rfl) (trivial) (by kernel_rfl) ⟨rfl, h⟩
  · rintro e w' ⟨v, rfl, rfl, h⟩; exact ⟨rfl, h⟩

/-! ### (*towpath/towpathlaw01.Book).fillWrite (function 33) -/
noncomputable def c_towpathlaw01_Book_fillWrite_0 : Code := (Tryd.f33.body).getD Code.skip
noncomputable def c_towpathlaw01_Book_fillWrite_1 : Code := Code.l c_towpathlaw01_Book_fillWrite_0
noncomputable def r_towpathlaw01_Book_fillWrite_1 : Array Oper := Code.ops c_towpathlaw01_Book_fillWrite_1
noncomputable def c_towpathlaw01_Book_fillWrite_3 : Code := Code.r c_towpathlaw01_Book_fillWrite_0
noncomputable def c_towpathlaw01_Book_fillWrite_4 : Code := Code.l c_towpathlaw01_Book_fillWrite_3
noncomputable def c_towpathlaw01_Book_fillWrite_5 : Code := Code.l c_towpathlaw01_Book_fillWrite_4
noncomputable def c_towpathlaw01_Book_fillWrite_6 : Code := Code.l c_towpathlaw01_Book_fillWrite_5
noncomputable def c_towpathlaw01_Book_fillWrite_7 : Code := Code.l c_towpathlaw01_Book_fillWrite_6
noncomputable def r_towpathlaw01_Book_fillWrite_7 : Array Oper := Code.ops c_towpathlaw01_Book_fillWrite_7
noncomputable def c_towpathlaw01_Book_fillWrite_9 : Code := Code.r c_towpathlaw01_Book_fillWrite_6
noncomputable def c_towpathlaw01_Book_fillWrite_10 : Code := Code.l c_towpathlaw01_Book_fillWrite_9
noncomputable def c_towpathlaw01_Book_fillWrite_11 : Code := Code.r c_towpathlaw01_Book_fillWrite_9
noncomputable def c_towpathlaw01_Book_fillWrite_12 : Code := Code.r c_towpathlaw01_Book_fillWrite_5
noncomputable def c_towpathlaw01_Book_fillWrite_13 : Code := Code.l c_towpathlaw01_Book_fillWrite_12
noncomputable def c_towpathlaw01_Book_fillWrite_14 : Code := Code.l c_towpathlaw01_Book_fillWrite_13
noncomputable def c_towpathlaw01_Book_fillWrite_15 : Code := Code.l c_towpathlaw01_Book_fillWrite_14
noncomputable def r_towpathlaw01_Book_fillWrite_15 : Array Oper := Code.ops c_towpathlaw01_Book_fillWrite_15
noncomputable def c_towpathlaw01_Book_fillWrite_17 : Code := Code.r c_towpathlaw01_Book_fillWrite_14
noncomputable def c_towpathlaw01_Book_fillWrite_18 : Code := Code.l c_towpathlaw01_Book_fillWrite_17
noncomputable def r_towpathlaw01_Book_fillWrite_18 : Array Oper := Code.ops c_towpathlaw01_Book_fillWrite_18
noncomputable def c_towpathlaw01_Book_fillWrite_20 : Code := Code.r c_towpathlaw01_Book_fillWrite_17
noncomputable def c_towpathlaw01_Book_fillWrite_21 : Code := Code.l c_towpathlaw01_Book_fillWrite_20
noncomputable def c_towpathlaw01_Book_fillWrite_22 : Code := Code.l c_towpathlaw01_Book_fillWrite_21
noncomputable def c_towpathlaw01_Book_fillWrite_23 : Code := Code.l c_towpathlaw01_Book_fillWrite_22
noncomputable def c_towpathlaw01_Book_fillWrite_24 : Code := Code.l c_towpathlaw01_Book_fillWrite_23
noncomputable def r_towpathlaw01_Book_fillWrite_24 : Array Oper := Code.ops c_towpathlaw01_Book_fillWrite_24
noncomputable def c_towpathlaw01_Book_fillWrite_26 : Code := Code.r c_towpathlaw01_Book_fillWrite_23
noncomputable def c_towpathlaw01_Book_fillWrite_27 : Code := Code.l c_towpathlaw01_Book_fillWrite_26
noncomputable def c_towpathlaw01_Book_fillWrite_28 : Code := Code.r c_towpathlaw01_Book_fillWrite_26
noncomputable def c_towpathlaw01_Book_fillWrite_29 : Code := Code.r c_towpathlaw01_Book_fillWrite_22
noncomputable def c_towpathlaw01_Book_fillWrite_30 : Code := Code.l c_towpathlaw01_Book_fillWrite_29
noncomputable def c_towpathlaw01_Book_fillWrite_31 : Code := Code.l c_towpathlaw01_Book_fillWrite_30
noncomputable def r_towpathlaw01_Book_fillWrite_31 : Array Oper := Code.ops c_towpathlaw01_Book_fillWrite_31
noncomputable def c_towpathlaw01_Book_fillWrite_33 : Code := Code.r c_towpathlaw01_Book_fillWrite_29
noncomputable def r_towpathlaw01_Book_fillWrite_33 : Array Oper := Code.ops c_towpathlaw01_Book_fillWrite_33
noncomputable def c_towpathlaw01_Book_fillWrite_35 : Code := Code.r c_towpathlaw01_Book_fillWrite_12
noncomputable def r_towpathlaw01_Book_fillWrite_35 : Array Oper := Code.ops c_towpathlaw01_Book_fillWrite_35

set_option maxRecDepth 100000 in
set_option maxHeartbeats 4000000 in
theorem S_towpathlaw01_Book_fillWrite {b_ : Option Addr} {w : World} {R : World → Prop} (h : F_towpathlaw01_Book_fillWrite b_ R w) : C_towpathlaw01_Book_fillWrite b_ w R := by
  unfold F_towpathlaw01_Book_fillWrite at h
  unfold C_towpathlaw01_Book_fillWrite
  refine Calls.mono (calls_of_wpE (args := [Value.pointer b_]) (R := fun v w' => v = Value.tuple #[] ∧ R w') Tryd.func33 (c := c_towpathlaw01_Book_fillWrite_0) (by kernel_rfl) 35 (by kernel_rfl) (by kernel_rfl) [(0, Value.pointer b_)] (by kernel_rfl) ?_) ?_
  · refine wpE_seq (x := c_towpathlaw01_Book_fillWrite_1) (y := c_towpathlaw01_Book_fillWrite_3) (by kernel_rfl) ?_
    refine wpE_region (id := 0) (ops := r_towpathlaw01_Book_fillWrite_1) (by kernel_rfl) ?_
    refine reg_run [.plain] 1 [(0, [], Value.pointer b_), (2, [], Value.int .i64 0)] (by kernel_rfl) (by kernel_rfl) ?_
    refine reg_end [(0, Value.pointer b_), (2, Value.int .i64 0)] (by kernel_rfl) (by kernel_rfl) ?_
    change WpE _ _ c_towpathlaw01_Book_fillWrite_3 _ _ _
    refine wpE_block (id := 0) (x := c_towpathlaw01_Book_fillWrite_4) (by kernel_rfl) ?_
    obtain ⟨I, μ, h0, hr⟩ := h
    refine wpE_loop (x := c_towpathlaw01_Book_fillWrite_5) (by kernel_rfl) (fun m l w => ∃ (i : Int), l = [(0, Value.pointer b_), (2, Value.int .i64 i)] ∧ I i w ∧ μ i w = m) (l' := [(0, Value.pointer b_), (2, Value.int .i64 0)]) (Sub.mk (by kernel_rfl)) ⟨0, rfl, h0, rfl⟩ ?_
    rintro _ _ w1 ⟨i, rfl, hI, rfl⟩
    obtain ⟨again_, again__h, h⟩ : ∃ again_ : Int → World → Prop, (∀ i' w', again_ i' w' → I i' w' ∧ μ i' w' < μ i w1) ∧ F_towpathlaw01_Book_fillWrite_L0 b_ R again_ i w1 := ⟨_, fun _ _ h => h, hr i w1 hI⟩
    clear h0 hI
    unfold F_towpathlaw01_Book_fillWrite_L0 at h
    refine wpE_seq (x := c_towpathlaw01_Book_fillWrite_6) (y := c_towpathlaw01_Book_fillWrite_12) (by kernel_rfl) ?_
    refine wpE_seq (x := c_towpathlaw01_Book_fillWrite_7) (y := c_towpathlaw01_Book_fillWrite_9) (by kernel_rfl) ?_
    refine wpE_region (id := 1) (ops := r_towpathlaw01_Book_fillWrite_7) (by kernel_rfl) ?_
    refine reg_run [.plain, .plain] 2 [(0, [], Value.pointer b_), (2, [], Value.int .i64 i), (5, [], Value.int .i64 i), (6, [], Value.pointer b_)] (by kernel_rfl) (by kernel_rfl) ?_
    obtain ⟨hp_3, h⟩ := h
    refine reg_conv [(0, [], Value.pointer b_), (2, [], Value.int .i64 i), (5, [], Value.int .i64 i), (6, [], Value.pointer (some ⟨(pblk b_), (poff b_), none⟩))] (congrArg (fun pp => ([(0, [], Value.pointer b_), (2, [], Value.int .i64 i), (5, [], Value.int .i64 i), (6, [], Value.pointer pp)] : GEnv)) hp_3) ?_
    refine reg_run [.plain] 3 [(0, [], Value.pointer b_), (2, [], Value.int .i64 i), (5, [], Value.int .i64 i), (6, [], Value.pointer (some ⟨(pblk b_), (poff b_), none⟩)), (7, [], Value.pointer (some ⟨(pblk b_), (poff b_), none⟩))] (by kernel_rfl) (by kernel_rfl) ?_
    refine reg_run [.plain] 4 [(0, [], Value.pointer b_), (2, [], Value.int .i64 i), (5, [], Value.int .i64 i), (8, [], Value.pointer (some ⟨(pblk b_), (poff b_) + 4, none⟩))] (by kernel_rfl) (by kernel_rfl) ?_
    obtain ⟨v9, hc, h⟩ := h
    refine reg_load1 (t := 37) (a := (Go.Operand.tmp 8)) (b := (pblk b_)) (o := ((poff b_) + 4)) (ty := 37) (dst := some 9) (by kernel_rfl) (by kernel_rfl) (by kernel_rfl) hc ?_
    refine reg_run [.plain, .plain] 7 [(0, [], Value.pointer b_), (2, [], Value.int .i64 i), (11, [], Value.bool (decide (i < ((v9.len : Nat) : Int))))] (by kernel_rfl) (by kernel_rfl) ?_
    refine reg_end [(0, Value.pointer b_), (2, Value.int .i64 i), (11, Value.bool (decide (i < ((v9.len : Nat) : Int))))] (by kernel_rfl) (by kernel_rfl) ?_
    change WpE _ _ c_towpathlaw01_Book_fillWrite_9 _ _ _
    refine wpE_cond (o := (Operand.tmp 11)) (b := (decide (i < ((v9.len : Nat) : Int)))) (x := c_towpathlaw01_Book_fillWrite_10) (y := c_towpathlaw01_Book_fillWrite_11) (by kernel_rfl) (by kernel_rfl) (fun hb => ?_) (fun hb => ?_)
    · replace h := h.1 hb
      exact h.elim
    · replace h := h.2 hb
      refine wpE_exit (id := 0) (by kernel_rfl) ?_
      repeat (first | refine seqQ_exit ?_ | refine loopQ_exit ?_ | refine cutQ_exit ?_ | refine blockQ_hit ?_ | refine blockQ_miss (by kernel_rfl) ?_)
      refine retQ_normal ?_
      repeat (first | refine seqQ_ret ?_ | refine blockQ_ret ?_ | refine loopQ_ret ?_ | refine cutQ_ret ?_)
      exact retT (rs := []) (vs := []) (by kernel_rfl) (trivial) (by kernel_rfl) ⟨rfl, h⟩
  · rintro e w' ⟨v, rfl, rfl, h⟩; exact ⟨rfl, h⟩

/-! ### (*towpath/towpathlaw01.Book).fillEntry (function 34) -/
noncomputable def c_towpathlaw01_Book_fillEntry_0 : Code := (Tryd.f34.body).getD Code.skip
noncomputable def c_towpathlaw01_Book_fillEntry_1 : Code := Code.l c_towpathlaw01_Book_fillEntry_0
noncomputable def r_towpathlaw01_Book_fillEntry_1 : Array Oper := Code.ops c_towpathlaw01_Book_fillEntry_1
noncomputable def c_towpathlaw01_Book_fillEntry_3 : Code := Code.r c_towpathlaw01_Book_fillEntry_0
noncomputable def c_towpathlaw01_Book_fillEntry_4 : Code := Code.l c_towpathlaw01_Book_fillEntry_3
noncomputable def c_towpathlaw01_Book_fillEntry_5 : Code := Code.l c_towpathlaw01_Book_fillEntry_4
noncomputable def c_towpathlaw01_Book_fillEntry_6 : Code := Code.l c_towpathlaw01_Book_fillEntry_5
noncomputable def c_towpathlaw01_Book_fillEntry_7 : Code := Code.l c_towpathlaw01_Book_fillEntry_6
noncomputable def r_towpathlaw01_Book_fillEntry_7 : Array Oper := Code.ops c_towpathlaw01_Book_fillEntry_7
noncomputable def c_towpathlaw01_Book_fillEntry_9 : Code := Code.r c_towpathlaw01_Book_fillEntry_6
noncomputable def c_towpathlaw01_Book_fillEntry_10 : Code := Code.l c_towpathlaw01_Book_fillEntry_9
noncomputable def c_towpathlaw01_Book_fillEntry_11 : Code := Code.r c_towpathlaw01_Book_fillEntry_9
noncomputable def c_towpathlaw01_Book_fillEntry_12 : Code := Code.r c_towpathlaw01_Book_fillEntry_5
noncomputable def c_towpathlaw01_Book_fillEntry_13 : Code := Code.l c_towpathlaw01_Book_fillEntry_12
noncomputable def c_towpathlaw01_Book_fillEntry_14 : Code := Code.l c_towpathlaw01_Book_fillEntry_13
noncomputable def c_towpathlaw01_Book_fillEntry_15 : Code := Code.l c_towpathlaw01_Book_fillEntry_14
noncomputable def r_towpathlaw01_Book_fillEntry_15 : Array Oper := Code.ops c_towpathlaw01_Book_fillEntry_15
noncomputable def c_towpathlaw01_Book_fillEntry_17 : Code := Code.r c_towpathlaw01_Book_fillEntry_14
noncomputable def c_towpathlaw01_Book_fillEntry_18 : Code := Code.l c_towpathlaw01_Book_fillEntry_17
noncomputable def r_towpathlaw01_Book_fillEntry_18 : Array Oper := Code.ops c_towpathlaw01_Book_fillEntry_18
noncomputable def c_towpathlaw01_Book_fillEntry_20 : Code := Code.r c_towpathlaw01_Book_fillEntry_17
noncomputable def c_towpathlaw01_Book_fillEntry_21 : Code := Code.l c_towpathlaw01_Book_fillEntry_20
noncomputable def c_towpathlaw01_Book_fillEntry_22 : Code := Code.l c_towpathlaw01_Book_fillEntry_21
noncomputable def c_towpathlaw01_Book_fillEntry_23 : Code := Code.l c_towpathlaw01_Book_fillEntry_22
noncomputable def c_towpathlaw01_Book_fillEntry_24 : Code := Code.l c_towpathlaw01_Book_fillEntry_23
noncomputable def r_towpathlaw01_Book_fillEntry_24 : Array Oper := Code.ops c_towpathlaw01_Book_fillEntry_24
noncomputable def c_towpathlaw01_Book_fillEntry_26 : Code := Code.r c_towpathlaw01_Book_fillEntry_23
noncomputable def c_towpathlaw01_Book_fillEntry_27 : Code := Code.l c_towpathlaw01_Book_fillEntry_26
noncomputable def c_towpathlaw01_Book_fillEntry_28 : Code := Code.r c_towpathlaw01_Book_fillEntry_26
noncomputable def c_towpathlaw01_Book_fillEntry_29 : Code := Code.r c_towpathlaw01_Book_fillEntry_22
noncomputable def c_towpathlaw01_Book_fillEntry_30 : Code := Code.l c_towpathlaw01_Book_fillEntry_29
noncomputable def c_towpathlaw01_Book_fillEntry_31 : Code := Code.l c_towpathlaw01_Book_fillEntry_30
noncomputable def r_towpathlaw01_Book_fillEntry_31 : Array Oper := Code.ops c_towpathlaw01_Book_fillEntry_31
noncomputable def c_towpathlaw01_Book_fillEntry_33 : Code := Code.r c_towpathlaw01_Book_fillEntry_29
noncomputable def r_towpathlaw01_Book_fillEntry_33 : Array Oper := Code.ops c_towpathlaw01_Book_fillEntry_33
noncomputable def c_towpathlaw01_Book_fillEntry_35 : Code := Code.r c_towpathlaw01_Book_fillEntry_12
noncomputable def r_towpathlaw01_Book_fillEntry_35 : Array Oper := Code.ops c_towpathlaw01_Book_fillEntry_35

set_option maxRecDepth 100000 in
set_option maxHeartbeats 4000000 in
theorem S_towpathlaw01_Book_fillEntry {b_ : Option Addr} {w : World} {R : World → Prop} (h : F_towpathlaw01_Book_fillEntry b_ R w) : C_towpathlaw01_Book_fillEntry b_ w R := by
  unfold F_towpathlaw01_Book_fillEntry at h
  unfold C_towpathlaw01_Book_fillEntry
  refine Calls.mono (calls_of_wpE (args := [Value.pointer b_]) (R := fun v w' => v = Value.tuple #[] ∧ R w') Tryd.func34 (c := c_towpathlaw01_Book_fillEntry_0) (by kernel_rfl) 35 (by kernel_rfl) (by kernel_rfl) [(0, Value.pointer b_)] (by kernel_rfl) ?_) ?_
  · refine wpE_seq (x := c_towpathlaw01_Book_fillEntry_1) (y := c_towpathlaw01_Book_fillEntry_3) (by kernel_rfl) ?_
    refine wpE_region (id := 0) (ops := r_towpathlaw01_Book_fillEntry_1) (by kernel_rfl) ?_
    refine reg_run [.plain] 1 [(0, [], Value.pointer b_), (2, [], Value.int .i64 0)] (by kernel_rfl) (by kernel_rfl) ?_
    refine reg_end [(0, Value.pointer b_), (2, Value.int .i64 0)] (by kernel_rfl) (by kernel_rfl) ?_
    change WpE _ _ c_towpathlaw01_Book_fillEntry_3 _ _ _
    refine wpE_block (id := 0) (x := c_towpathlaw01_Book_fillEntry_4) (by kernel_rfl) ?_
    obtain ⟨I, μ, h0, hr⟩ := h
    refine wpE_loop (x := c_towpathlaw01_Book_fillEntry_5) (by kernel_rfl) (fun m l w => ∃ (i : Int), l = [(0, Value.pointer b_), (2, Value.int .i64 i)] ∧ I i w ∧ μ i w = m) (l' := [(0, Value.pointer b_), (2, Value.int .i64 0)]) (Sub.mk (by kernel_rfl)) ⟨0, rfl, h0, rfl⟩ ?_
    rintro _ _ w1 ⟨i, rfl, hI, rfl⟩
    obtain ⟨again_, again__h, h⟩ : ∃ again_ : Int → World → Prop, (∀ i' w', again_ i' w' → I i' w' ∧ μ i' w' < μ i w1) ∧ F_towpathlaw01_Book_fillEntry_L0 b_ R again_ i w1 := ⟨_, fun _ _ h => h, hr i w1 hI⟩
    clear h0 hI
    unfold F_towpathlaw01_Book_fillEntry_L0 at h
    refine wpE_seq (x := c_towpathlaw01_Book_fillEntry_6) (y := c_towpathlaw01_Book_fillEntry_12) (by kernel_rfl) ?_
    refine wpE_seq (x := c_towpathlaw01_Book_fillEntry_7) (y := c_towpathlaw01_Book_fillEntry_9) (by kernel_rfl) ?_
    refine wpE_region (id := 1) (ops := r_towpathlaw01_Book_fillEntry_7) (by kernel_rfl) ?_
    refine reg_run [.plain, .plain] 2 [(0, [], Value.pointer b_), (2, [], Value.int .i64 i), (5, [], Value.int .i64 i), (6, [], Value.pointer b_)] (by kernel_rfl) (by kernel_rfl) ?_
    obtain ⟨hp_3, h⟩ := h
    refine reg_conv [(0, [], Value.pointer b_), (2, [], Value.int .i64 i), (5, [], Value.int .i64 i), (6, [], Value.pointer (some ⟨(pblk b_), (poff b_), none⟩))] (congrArg (fun pp => ([(0, [], Value.pointer b_), (2, [], Value.int .i64 i), (5, [], Value.int .i64 i), (6, [], Value.pointer pp)] : GEnv)) hp_3) ?_
    refine reg_run [.plain] 3 [(0, [], Value.pointer b_), (2, [], Value.int .i64 i), (5, [], Value.int .i64 i), (6, [], Value.pointer (some ⟨(pblk b_), (poff b_), none⟩)), (7, [], Value.pointer (some ⟨(pblk b_), (poff b_), none⟩))] (by kernel_rfl) (by kernel_rfl) ?_
    refine reg_run [.plain] 4 [(0, [], Value.pointer b_), (2, [], Value.int .i64 i), (5, [], Value.int .i64 i), (8, [], Value.pointer (some ⟨(pblk b_), (poff b_) + 5, none⟩))] (by kernel_rfl) (by kernel_rfl) ?_
    obtain ⟨v9, hc, h⟩ := h
    refine reg_load1 (t := 38) (a := (Go.Operand.tmp 8)) (b := (pblk b_)) (o := ((poff b_) + 5)) (ty := 38) (dst := some 9) (by kernel_rfl) (by kernel_rfl) (by kernel_rfl) hc ?_
    refine reg_run [.plain, .plain] 7 [(0, [], Value.pointer b_), (2, [], Value.int .i64 i), (11, [], Value.bool (decide (i < ((v9.len : Nat) : Int))))] (by kernel_rfl) (by kernel_rfl) ?_
    refine reg_end [(0, Value.pointer b_), (2, Value.int .i64 i), (11, Value.bool (decide (i < ((v9.len : Nat) : Int))))] (by kernel_rfl) (by kernel_rfl) ?_
    change WpE _ _ c_towpathlaw01_Book_fillEntry_9 _ _ _
    refine wpE_cond (o := (Operand.tmp 11)) (b := (decide (i < ((v9.len : Nat) : Int)))) (x := c_towpathlaw01_Book_fillEntry_10) (y := c_towpathlaw01_Book_fillEntry_11) (by kernel_rfl) (by kernel_rfl) (fun hb => ?_) (fun hb => ?_)
    · replace h := h.1 hb
      exact h.elim
    · replace h := h.2 hb
      refine wpE_exit (id := 0) (by kernel_rfl) ?_
      repeat (first | refine seqQ_exit ?_ | refine loopQ_exit ?_ | refine cutQ_exit ?_ | refine blockQ_hit ?_ | refine blockQ_miss (by kernel_rfl) ?_)
      refine retQ_normal ?_
      repeat (first | refine seqQ_ret ?_ | refine blockQ_ret ?_ | refine loopQ_ret ?_ | refine cutQ_ret ?_)
      exact retT (rs := []) (vs := []) (by kernel_rfl) (trivial) (by kernel_rfl) ⟨rfl, h⟩
  · rintro e w' ⟨v, rfl, rfl, h⟩; exact ⟨rfl, h⟩

/-! ### (*towpath/towpathlaw01.Book).fillVersion (function 35) -/
noncomputable def c_towpathlaw01_Book_fillVersion_0 : Code := (Tryd.f35.body).getD Code.skip
noncomputable def c_towpathlaw01_Book_fillVersion_1 : Code := Code.l c_towpathlaw01_Book_fillVersion_0
noncomputable def r_towpathlaw01_Book_fillVersion_1 : Array Oper := Code.ops c_towpathlaw01_Book_fillVersion_1
noncomputable def c_towpathlaw01_Book_fillVersion_3 : Code := Code.r c_towpathlaw01_Book_fillVersion_0
noncomputable def c_towpathlaw01_Book_fillVersion_4 : Code := Code.l c_towpathlaw01_Book_fillVersion_3
noncomputable def c_towpathlaw01_Book_fillVersion_5 : Code := Code.l c_towpathlaw01_Book_fillVersion_4
noncomputable def c_towpathlaw01_Book_fillVersion_6 : Code := Code.l c_towpathlaw01_Book_fillVersion_5
noncomputable def c_towpathlaw01_Book_fillVersion_7 : Code := Code.l c_towpathlaw01_Book_fillVersion_6
noncomputable def r_towpathlaw01_Book_fillVersion_7 : Array Oper := Code.ops c_towpathlaw01_Book_fillVersion_7
noncomputable def c_towpathlaw01_Book_fillVersion_9 : Code := Code.r c_towpathlaw01_Book_fillVersion_6
noncomputable def c_towpathlaw01_Book_fillVersion_10 : Code := Code.l c_towpathlaw01_Book_fillVersion_9
noncomputable def c_towpathlaw01_Book_fillVersion_11 : Code := Code.r c_towpathlaw01_Book_fillVersion_9
noncomputable def c_towpathlaw01_Book_fillVersion_12 : Code := Code.r c_towpathlaw01_Book_fillVersion_5
noncomputable def c_towpathlaw01_Book_fillVersion_13 : Code := Code.l c_towpathlaw01_Book_fillVersion_12
noncomputable def c_towpathlaw01_Book_fillVersion_14 : Code := Code.l c_towpathlaw01_Book_fillVersion_13
noncomputable def c_towpathlaw01_Book_fillVersion_15 : Code := Code.l c_towpathlaw01_Book_fillVersion_14
noncomputable def r_towpathlaw01_Book_fillVersion_15 : Array Oper := Code.ops c_towpathlaw01_Book_fillVersion_15
noncomputable def c_towpathlaw01_Book_fillVersion_17 : Code := Code.r c_towpathlaw01_Book_fillVersion_14
noncomputable def c_towpathlaw01_Book_fillVersion_18 : Code := Code.l c_towpathlaw01_Book_fillVersion_17
noncomputable def r_towpathlaw01_Book_fillVersion_18 : Array Oper := Code.ops c_towpathlaw01_Book_fillVersion_18
noncomputable def c_towpathlaw01_Book_fillVersion_20 : Code := Code.r c_towpathlaw01_Book_fillVersion_17
noncomputable def c_towpathlaw01_Book_fillVersion_21 : Code := Code.l c_towpathlaw01_Book_fillVersion_20
noncomputable def c_towpathlaw01_Book_fillVersion_22 : Code := Code.l c_towpathlaw01_Book_fillVersion_21
noncomputable def c_towpathlaw01_Book_fillVersion_23 : Code := Code.l c_towpathlaw01_Book_fillVersion_22
noncomputable def c_towpathlaw01_Book_fillVersion_24 : Code := Code.l c_towpathlaw01_Book_fillVersion_23
noncomputable def r_towpathlaw01_Book_fillVersion_24 : Array Oper := Code.ops c_towpathlaw01_Book_fillVersion_24
noncomputable def c_towpathlaw01_Book_fillVersion_26 : Code := Code.r c_towpathlaw01_Book_fillVersion_23
noncomputable def c_towpathlaw01_Book_fillVersion_27 : Code := Code.l c_towpathlaw01_Book_fillVersion_26
noncomputable def c_towpathlaw01_Book_fillVersion_28 : Code := Code.r c_towpathlaw01_Book_fillVersion_26
noncomputable def c_towpathlaw01_Book_fillVersion_29 : Code := Code.r c_towpathlaw01_Book_fillVersion_22
noncomputable def c_towpathlaw01_Book_fillVersion_30 : Code := Code.l c_towpathlaw01_Book_fillVersion_29
noncomputable def c_towpathlaw01_Book_fillVersion_31 : Code := Code.l c_towpathlaw01_Book_fillVersion_30
noncomputable def r_towpathlaw01_Book_fillVersion_31 : Array Oper := Code.ops c_towpathlaw01_Book_fillVersion_31
noncomputable def c_towpathlaw01_Book_fillVersion_33 : Code := Code.r c_towpathlaw01_Book_fillVersion_29
noncomputable def r_towpathlaw01_Book_fillVersion_33 : Array Oper := Code.ops c_towpathlaw01_Book_fillVersion_33
noncomputable def c_towpathlaw01_Book_fillVersion_35 : Code := Code.r c_towpathlaw01_Book_fillVersion_12
noncomputable def r_towpathlaw01_Book_fillVersion_35 : Array Oper := Code.ops c_towpathlaw01_Book_fillVersion_35
def o_towpathlaw01_Book_fillVersion_31 : List Nat := [0, 1, 2, 3, 4, 5, 6, 7]

set_option maxRecDepth 100000 in
set_option maxHeartbeats 4000000 in
theorem S_towpathlaw01_Book_fillVersion {b_ : Option Addr} {w : World} {R : World → Prop} (h : F_towpathlaw01_Book_fillVersion b_ R w) : C_towpathlaw01_Book_fillVersion b_ w R := by
  unfold F_towpathlaw01_Book_fillVersion at h
  unfold C_towpathlaw01_Book_fillVersion
  refine Calls.mono (calls_of_wpE (args := [Value.pointer b_]) (R := fun v w' => v = Value.tuple #[] ∧ R w') Tryd.func35 (c := c_towpathlaw01_Book_fillVersion_0) (by kernel_rfl) 35 (by kernel_rfl) (by kernel_rfl) [(0, Value.pointer b_)] (by kernel_rfl) ?_) ?_
  · refine wpE_seq (x := c_towpathlaw01_Book_fillVersion_1) (y := c_towpathlaw01_Book_fillVersion_3) (by kernel_rfl) ?_
    refine wpE_region (id := 0) (ops := r_towpathlaw01_Book_fillVersion_1) (by kernel_rfl) ?_
    refine reg_run [.plain] 1 [(0, [], Value.pointer b_), (2, [], Value.int .i64 0)] (by kernel_rfl) (by kernel_rfl) ?_
    refine reg_end [(0, Value.pointer b_), (2, Value.int .i64 0)] (by kernel_rfl) (by kernel_rfl) ?_
    change WpE _ _ c_towpathlaw01_Book_fillVersion_3 _ _ _
    refine wpE_block (id := 0) (x := c_towpathlaw01_Book_fillVersion_4) (by kernel_rfl) ?_
    obtain ⟨I, μ, h0, hr⟩ := h
    refine wpE_loop (x := c_towpathlaw01_Book_fillVersion_5) (by kernel_rfl) (fun m l w => ∃ (i : Int), l = [(0, Value.pointer b_), (2, Value.int .i64 i)] ∧ I i w ∧ μ i w = m) (l' := [(0, Value.pointer b_), (2, Value.int .i64 0)]) (Sub.mk (by kernel_rfl)) ⟨0, rfl, h0, rfl⟩ ?_
    rintro _ _ w1 ⟨i, rfl, hI, rfl⟩
    obtain ⟨again_, again__h, h⟩ : ∃ again_ : Int → World → Prop, (∀ i' w', again_ i' w' → I i' w' ∧ μ i' w' < μ i w1) ∧ F_towpathlaw01_Book_fillVersion_L0 b_ R again_ i w1 := ⟨_, fun _ _ h => h, hr i w1 hI⟩
    clear h0 hI
    unfold F_towpathlaw01_Book_fillVersion_L0 at h
    refine wpE_seq (x := c_towpathlaw01_Book_fillVersion_6) (y := c_towpathlaw01_Book_fillVersion_12) (by kernel_rfl) ?_
    refine wpE_seq (x := c_towpathlaw01_Book_fillVersion_7) (y := c_towpathlaw01_Book_fillVersion_9) (by kernel_rfl) ?_
    refine wpE_region (id := 1) (ops := r_towpathlaw01_Book_fillVersion_7) (by kernel_rfl) ?_
    refine reg_run [.plain, .plain] 2 [(0, [], Value.pointer b_), (2, [], Value.int .i64 i), (5, [], Value.int .i64 i), (6, [], Value.pointer b_)] (by kernel_rfl) (by kernel_rfl) ?_
    obtain ⟨hp_3, h⟩ := h
    refine reg_conv [(0, [], Value.pointer b_), (2, [], Value.int .i64 i), (5, [], Value.int .i64 i), (6, [], Value.pointer (some ⟨(pblk b_), (poff b_), none⟩))] (congrArg (fun pp => ([(0, [], Value.pointer b_), (2, [], Value.int .i64 i), (5, [], Value.int .i64 i), (6, [], Value.pointer pp)] : GEnv)) hp_3) ?_
    refine reg_run [.plain] 3 [(0, [], Value.pointer b_), (2, [], Value.int .i64 i), (5, [], Value.int .i64 i), (6, [], Value.pointer (some ⟨(pblk b_), (poff b_), none⟩)), (7, [], Value.pointer (some ⟨(pblk b_), (poff b_), none⟩))] (by kernel_rfl) (by kernel_rfl) ?_
    refine reg_run [.plain] 4 [(0, [], Value.pointer b_), (2, [], Value.int .i64 i), (5, [], Value.int .i64 i), (8, [], Value.pointer (some ⟨(pblk b_), (poff b_) + 6, none⟩))] (by kernel_rfl) (by kernel_rfl) ?_
    obtain ⟨v9, hc, h⟩ := h
    refine reg_load1 (t := 39) (a := (Go.Operand.tmp 8)) (b := (pblk b_)) (o := ((poff b_) + 6)) (ty := 39) (dst := some 9) (by kernel_rfl) (by kernel_rfl) (by kernel_rfl) hc ?_
    refine reg_run [.plain, .plain] 7 [(0, [], Value.pointer b_), (2, [], Value.int .i64 i), (11, [], Value.bool (decide (i < ((v9.len : Nat) : Int))))] (by kernel_rfl) (by kernel_rfl) ?_
    refine reg_end [(0, Value.pointer b_), (2, Value.int .i64 i), (11, Value.bool (decide (i < ((v9.len : Nat) : Int))))] (by kernel_rfl) (by kernel_rfl) ?_
    change WpE _ _ c_towpathlaw01_Book_fillVersion_9 _ _ _
    refine wpE_cond (o := (Operand.tmp 11)) (b := (decide (i < ((v9.len : Nat) : Int)))) (x := c_towpathlaw01_Book_fillVersion_10) (y := c_towpathlaw01_Book_fillVersion_11) (by kernel_rfl) (by kernel_rfl) (fun hb => ?_) (fun hb => ?_)
    · replace h := h.1 hb
      refine wpE_skip (by kernel_rfl) ?_
      change WpE _ _ c_towpathlaw01_Book_fillVersion_12 _ _ _
      refine wpE_seq (x := c_towpathlaw01_Book_fillVersion_13) (y := c_towpathlaw01_Book_fillVersion_35) (by kernel_rfl) ?_
      refine wpE_block (id := 1) (x := c_towpathlaw01_Book_fillVersion_14) (by kernel_rfl) ?_
      refine wpE_seq (x := c_towpathlaw01_Book_fillVersion_15) (y := c_towpathlaw01_Book_fillVersion_17) (by kernel_rfl) ?_
      refine wpE_region (id := 3) (ops := r_towpathlaw01_Book_fillVersion_15) (by kernel_rfl) ?_
      refine reg_run [.plain] 1 [(0, [], Value.pointer b_), (2, [], Value.int .i64 i), (14, [], Value.pointer b_)] (by kernel_rfl) (by kernel_rfl) ?_
      obtain ⟨hp_12, h⟩ := h
      refine reg_conv [(0, [], Value.pointer b_), (2, [], Value.int .i64 i), (14, [], Value.pointer (some ⟨(pblk b_), (poff b_), none⟩))] (congrArg (fun pp => ([(0, [], Value.pointer b_), (2, [], Value.int .i64 i), (14, [], Value.pointer pp)] : GEnv)) hp_12) ?_
      refine reg_run [.plain] 2 [(0, [], Value.pointer b_), (2, [], Value.int .i64 i), (14, [], Value.pointer (some ⟨(pblk b_), (poff b_), none⟩)), (15, [], Value.pointer (some ⟨(pblk b_), (poff b_), none⟩))] (by kernel_rfl) (by kernel_rfl) ?_
      refine reg_run [.plain] 3 [(0, [], Value.pointer b_), (2, [], Value.int .i64 i), (16, [], Value.pointer (some ⟨(pblk b_), (poff b_) + 6, none⟩))] (by kernel_rfl) (by kernel_rfl) ?_
      obtain ⟨v17, hc, h⟩ := h
      refine reg_load1 (t := 39) (a := (Go.Operand.tmp 16)) (b := (pblk b_)) (o := ((poff b_) + 6)) (ty := 39) (dst := some 17) (by kernel_rfl) (by kernel_rfl) (by kernel_rfl) hc ?_
      refine reg_run [.plain] 5 [(0, [], Value.pointer b_), (2, [], Value.int .i64 i), (17, [], Value.slice v17.ptr v17.len v17.cap), (18, [], Value.int .i64 i)] (by kernel_rfl) (by kernel_rfl) ?_
      obtain ⟨hp_13, h⟩ := h
      refine reg_conv [(0, [], Value.pointer b_), (2, [], Value.int .i64 i), (17, [], Value.slice (some ⟨(pblk v17.ptr), (poff v17.ptr), none⟩) v17.len v17.cap), (18, [], Value.int .i64 i)] (congrArg (fun pp => ([(0, [], Value.pointer b_), (2, [], Value.int .i64 i), (17, [], Value.slice pp v17.len v17.cap), (18, [], Value.int .i64 i)] : GEnv)) hp_13) ?_
      obtain ⟨h0, h1, h⟩ := h
      refine reg_indexS (t := 39) (e := 73) (x := (Go.Operand.tmp 17)) (ix := (Go.Operand.tmp 18)) (b := (pblk v17.ptr)) (o := (poff v17.ptr)) (l := v17.len) (c := v17.cap) (k := .i64) (j := i) (ty := 0) (dst := some 19) (sz := 3) (by kernel_rfl) (by kernel_rfl) (by kernel_rfl) (by kernel_rfl) (by kernel_rfl) h0 h1 ?_
      refine reg_run [] 6 [(0, [], Value.pointer b_), (2, [], Value.int .i64 i), (19, [], Value.pointer (some ⟨(pblk v17.ptr), (poff v17.ptr) + i.toNat * 3, none⟩))] (by kernel_rfl) (by kernel_rfl) ?_
      obtain ⟨v20, hc, h⟩ := h
      refine reg_loadN (t := 73) (a := (Go.Operand.tmp 19)) (b := (pblk v17.ptr)) (o := ((poff v17.ptr) + i.toNat * 3)) (ty := 73) (dst := some 20) [Value.slice v20.l.ptr v20.l.len v20.l.cap, Value.slice v20.long.ptr v20.long.len v20.long.cap, Value.int .i64 v20.n] (by kernel_rfl) (by kernel_rfl) (by kernel_rfl) (k := 3) (by kernel_rfl) (by kernel_rfl) hc ?_
      refine reg_run [] 7 [(0, [], Value.pointer b_), (2, [], Value.int .i64 i), (20, [], Value.agg #[Value.slice v20.l.ptr v20.l.len v20.l.cap, Value.slice v20.long.ptr v20.long.len v20.long.cap, Value.int .i64 v20.n])] (by kernel_rfl) (by kernel_rfl) ?_
      refine reg_new (op := (Go.Op.alloc 73)) (ty := 0) (dst := some 3) (fun bb => Value.pointer (some ⟨bb, 0, none⟩)) (Obj.cells ([Value.slice none 0 0, Value.slice none 0 0, Value.int .i64 0]).toArray ty_towpathlaw01_heldVersion (0, 0)) (by kernel_rfl) (by kernel_rfl) (fun b_1 w2 hb hw => ?_)
      replace h := h b_1 w2 hb hw
      clear hb hw
      refine reg_run [] 8 [(0, [], Value.pointer b_), (2, [], Value.int .i64 i), (3, [], Value.pointer (some ⟨b_1, 0, none⟩)), (20, [], Value.agg #[Value.slice v20.l.ptr v20.l.len v20.l.cap, Value.slice v20.long.ptr v20.long.len v20.long.cap, Value.int .i64 v20.n])] (by kernel_rfl) (by kernel_rfl) ?_
      obtain ⟨hc, h⟩ := h
      refine reg_store (t := 73) (a := (Go.Operand.tmp 3)) (x := (Go.Operand.tmp 20)) (b := b_1) (o := 0) (ty := 0) (dst := none) [Value.slice v20.l.ptr v20.l.len v20.l.cap, Value.slice v20.long.ptr v20.long.len v20.long.cap, Value.int .i64 v20.n] (by kernel_rfl) (by kernel_rfl) (by kernel_rfl) (k := 3) (by kernel_rfl) (by kernel_rfl) (by kernel_rfl) hc (fun w3 hw => ?_)
      replace h := h w3 hw
      clear hw
      refine reg_end [(0, Value.pointer b_), (2, Value.int .i64 i), (3, Value.pointer (some ⟨b_1, 0, none⟩))] (by kernel_rfl) (by kernel_rfl) ?_
      change WpE _ _ c_towpathlaw01_Book_fillVersion_17 _ _ _
      refine wpE_seq (x := c_towpathlaw01_Book_fillVersion_18) (y := c_towpathlaw01_Book_fillVersion_20) (by kernel_rfl) ?_
      refine wpE_region (id := 4) (ops := r_towpathlaw01_Book_fillVersion_18) (by kernel_rfl) ?_
      refine reg_run [.plain] 1 [(0, [], Value.pointer b_), (2, [], Value.int .i64 i), (3, [], Value.pointer (some ⟨b_1, 0, none⟩)), (4, [], Value.int .i64 0)] (by kernel_rfl) (by kernel_rfl) ?_
      refine reg_end [(0, Value.pointer b_), (2, Value.int .i64 i), (3, Value.pointer (some ⟨b_1, 0, none⟩)), (4, Value.int .i64 0)] (by kernel_rfl) (by kernel_rfl) ?_
      change WpE _ _ c_towpathlaw01_Book_fillVersion_20 _ _ _
      refine wpE_block (id := 2) (x := c_towpathlaw01_Book_fillVersion_21) (by kernel_rfl) ?_
      obtain ⟨I, μ, h0, hr⟩ := h
      refine wpE_loop (x := c_towpathlaw01_Book_fillVersion_22) (by kernel_rfl) (fun m l w => ∃ (k : Int), l = [(0, Value.pointer b_), (2, Value.int .i64 i), (3, Value.pointer (some ⟨b_1, 0, none⟩)), (4, Value.int .i64 k)] ∧ I k w ∧ μ k w = m) (l' := [(0, Value.pointer b_), (2, Value.int .i64 i), (3, Value.pointer (some ⟨b_1, 0, none⟩)), (4, Value.int .i64 0)]) (Sub.mk (by kernel_rfl)) ⟨0, rfl, h0, rfl⟩ ?_
      rintro _ _ w4 ⟨k, rfl, hI, rfl⟩
      obtain ⟨again_1, again_1_h, h⟩ : ∃ again_1 : Int → World → Prop, (∀ k' w', again_1 k' w' → I k' w' ∧ μ k' w' < μ k w4) ∧ F_towpathlaw01_Book_fillVersion_L1 i again_ b_1 again_1 k w4 := ⟨_, fun _ _ h => h, hr k w4 hI⟩
      clear h0 hI
      unfold F_towpathlaw01_Book_fillVersion_L1 at h
      refine wpE_seq (x := c_towpathlaw01_Book_fillVersion_23) (y := c_towpathlaw01_Book_fillVersion_29) (by kernel_rfl) ?_
      refine wpE_seq (x := c_towpathlaw01_Book_fillVersion_24) (y := c_towpathlaw01_Book_fillVersion_26) (by kernel_rfl) ?_
      refine wpE_region (id := 5) (ops := r_towpathlaw01_Book_fillVersion_24) (by kernel_rfl) ?_
      refine reg_run [.plain, .plain] 2 [(0, [], Value.pointer b_), (2, [], Value.int .i64 i), (3, [], Value.pointer (some ⟨b_1, 0, none⟩)), (4, [], Value.int .i64 k), (21, [], Value.int .i64 k), (22, [], Value.pointer (some ⟨b_1, 0, none⟩))] (by kernel_rfl) (by kernel_rfl) ?_
      obtain ⟨v23, hc, h⟩ := h
      refine reg_load1 (t := 22) (a := (Go.Operand.tmp 22)) (b := b_1) (o := 0) (ty := 22) (dst := some 23) (by kernel_rfl) (by kernel_rfl) (by kernel_rfl) hc ?_
      refine reg_run [.plain, .plain] 5 [(0, [], Value.pointer b_), (2, [], Value.int .i64 i), (3, [], Value.pointer (some ⟨b_1, 0, none⟩)), (4, [], Value.int .i64 k), (25, [], Value.bool (decide (k < ((v23.len : Nat) : Int))))] (by kernel_rfl) (by kernel_rfl) ?_
      refine reg_end [(0, Value.pointer b_), (2, Value.int .i64 i), (3, Value.pointer (some ⟨b_1, 0, none⟩)), (4, Value.int .i64 k), (25, Value.bool (decide (k < ((v23.len : Nat) : Int))))] (by kernel_rfl) (by kernel_rfl) ?_
      change WpE _ _ c_towpathlaw01_Book_fillVersion_26 _ _ _
      refine wpE_cond (o := (Operand.tmp 25)) (b := (decide (k < ((v23.len : Nat) : Int)))) (x := c_towpathlaw01_Book_fillVersion_27) (y := c_towpathlaw01_Book_fillVersion_28) (by kernel_rfl) (by kernel_rfl) (fun hb => ?_) (fun hb => ?_)
      · replace h := h.1 hb
        refine wpE_skip (by kernel_rfl) ?_
        change WpE _ _ c_towpathlaw01_Book_fillVersion_29 _ _ _
        refine wpE_seq (x := c_towpathlaw01_Book_fillVersion_30) (y := c_towpathlaw01_Book_fillVersion_33) (by kernel_rfl) ?_
        refine wpE_block (id := 3) (x := c_towpathlaw01_Book_fillVersion_31) (by kernel_rfl) ?_
        refine wpE_mixregion (id := 7) (ops := r_towpathlaw01_Book_fillVersion_31) o_towpathlaw01_Book_fillVersion_31 (by kernel_rfl) (by kernel_rfl) (by kernel_rfl) (by kernel_rfl) (fun w5 hw => ?_)
        replace h := h w5 hw
        clear hw
        refine mreg_run [.plain] 1 [(0, [], Value.pointer b_), (2, [], Value.int .i64 i), (3, [], Value.pointer (some ⟨b_1, 0, none⟩)), (4, [], Value.int .i64 k), (28, [], Value.pointer (some ⟨b_1, 0, none⟩))] (by kernel_rfl) (by kernel_rfl) ?_
        obtain ⟨v29, hc, h⟩ := h
        refine mreg_load1 (i := 1) (by kernel_rfl) (t := 22) (a := (Go.Operand.tmp 28)) (b := b_1) (o := 0) (ty := 22) (dst := some 29) (by kernel_rfl) (by kernel_rfl) (by kernel_rfl) hc ?_
        refine mreg_run [.plain, .plain] 4 [(0, [], Value.pointer b_), (2, [], Value.int .i64 i), (3, [], Value.pointer (some ⟨b_1, 0, none⟩)), (4, [], Value.int .i64 k), (29, [], Value.slice v29.ptr v29.len v29.cap), (30, [], Value.int .i64 k), (31, [], Value.pointer (some ⟨b_1, 2, none⟩))] (by kernel_rfl) (by kernel_rfl) ?_
        obtain ⟨v32, hc, h⟩ := h
        refine mreg_load1 (i := 4) (by kernel_rfl) (t := 3) (a := (Go.Operand.tmp 31)) (b := b_1) (o := 2) (ty := 3) (dst := some 32) (by kernel_rfl) (by kernel_rfl) (by kernel_rfl) hc ?_
        refine mreg_run [] 5 [(0, [], Value.pointer b_), (2, [], Value.int .i64 i), (3, [], Value.pointer (some ⟨b_1, 0, none⟩)), (4, [], Value.int .i64 k), (29, [], Value.slice v29.ptr v29.len v29.cap), (30, [], Value.int .i64 k), (32, [], Value.int .i64 v32)] (by kernel_rfl) (by kernel_rfl) ?_
        refine mreg_enter (op := (Go.Op.call (Go.Call.mk (Go.Callee.value (Go.Operand.func 74)) #[(Go.Operand.tmp 32)] #[3]))) (ty := 27) (dst := some 33) 5 [4, 3] [(1, fun w' => w'.cell? ⟨b_1, 0, none⟩ = some (Value.slice v29.ptr v29.len v29.cap))] 74 #[Value.int .i64 v32] (by kernel_rfl) (by kernel_rfl) (by kernel_rfl) (by kernel_rfl) (by kernel_rfl) (fun ww => by kernel_rfl) (Calls.mono h ?_)
        rintro _ w6 ⟨v33, rfl, h⟩
        obtain ⟨hk0, h⟩ := h
        refine ⟨_, rfl, ⟨hk0, trivial⟩, ?_⟩
        refine mreg_run [] 6 [(0, [], Value.pointer b_), (2, [], Value.int .i64 i), (3, [], Value.pointer (some ⟨b_1, 0, none⟩)), (4, [], Value.int .i64 k), (29, [], Value.slice v29.ptr v29.len v29.cap), (30, [], Value.int .i64 k), (33, [], Value.agg #[Value.int .i64 v33.Number, Value.string v33.Val, Value.bool v33.Drop])] (by kernel_rfl) (by kernel_rfl) ?_
        obtain ⟨hp_15, h⟩ := h
        refine mreg_conv [(0, [], Value.pointer b_), (2, [], Value.int .i64 i), (3, [], Value.pointer (some ⟨b_1, 0, none⟩)), (4, [], Value.int .i64 k), (29, [], Value.slice (some ⟨(pblk v29.ptr), (poff v29.ptr), none⟩) v29.len v29.cap), (30, [], Value.int .i64 k), (33, [], Value.agg #[Value.int .i64 v33.Number, Value.string v33.Val, Value.bool v33.Drop])] (congrArg (fun pp => ([(0, [], Value.pointer b_), (2, [], Value.int .i64 i), (3, [], Value.pointer (some ⟨b_1, 0, none⟩)), (4, [], Value.int .i64 k), (29, [], Value.slice pp v29.len v29.cap), (30, [], Value.int .i64 k), (33, [], Value.agg #[Value.int .i64 v33.Number, Value.string v33.Val, Value.bool v33.Drop])] : GEnv)) hp_15) ?_
        obtain ⟨h0, h1, h⟩ := h
        refine mreg_indexS (i := 6) (by kernel_rfl) (t := 22) (e := 27) (x := (Go.Operand.tmp 29)) (ix := (Go.Operand.tmp 30)) (b := (pblk v29.ptr)) (o := (poff v29.ptr)) (l := v29.len) (c := v29.cap) (k := .i64) (j := k) (ty := 0) (dst := some 34) (sz := 3) (by kernel_rfl) (by kernel_rfl) (by kernel_rfl) (by kernel_rfl) (by kernel_rfl) h0 h1 ?_
        refine mreg_run [] 7 [(0, [], Value.pointer b_), (2, [], Value.int .i64 i), (3, [], Value.pointer (some ⟨b_1, 0, none⟩)), (4, [], Value.int .i64 k), (33, [], Value.agg #[Value.int .i64 v33.Number, Value.string v33.Val, Value.bool v33.Drop]), (34, [], Value.pointer (some ⟨(pblk v29.ptr), (poff v29.ptr) + k.toNat * 3, none⟩))] (by kernel_rfl) (by kernel_rfl) ?_
        obtain ⟨hc, h⟩ := h
        refine mreg_store (t := 27) (a := (Go.Operand.tmp 34)) (x := (Go.Operand.tmp 33)) (b := (pblk v29.ptr)) (o := ((poff v29.ptr) + k.toNat * 3)) (k := 3) (ty := 0) (dst := none) 7 [0, 1, 2, 3, 4, 5, 6] [] [Value.int .i64 v33.Number, Value.string v33.Val, Value.bool v33.Drop] (by kernel_rfl) (by kernel_rfl) (by kernel_rfl) (by kernel_rfl) (by kernel_rfl) (by kernel_rfl) (by kernel_rfl) (by kernel_rfl) (by kernel_rfl) (by kernel_rfl) hc (fun w7 hw => ?_)
        replace h := h w7 hw
        clear hw
        refine ⟨trivial, ?_⟩
        refine mreg_end [(0, Value.pointer b_), (2, Value.int .i64 i), (3, Value.pointer (some ⟨b_1, 0, none⟩)), (4, Value.int .i64 k)] (by kernel_rfl) (by kernel_rfl) (by kernel_rfl) ?_
        change WpE _ _ c_towpathlaw01_Book_fillVersion_33 _ _ _
        refine wpE_region (id := 6) (ops := r_towpathlaw01_Book_fillVersion_33) (by kernel_rfl) ?_
        refine reg_run [.plain, .plain, .plain] 3 [(0, [], Value.pointer b_), (2, [], Value.int .i64 i), (3, [], Value.pointer (some ⟨b_1, 0, none⟩)), (4, [], Value.int .i64 (IntKind.i64.wrap (k + 1)))] (by kernel_rfl) (by kernel_rfl) ?_
        refine reg_end [(0, Value.pointer b_), (2, Value.int .i64 i), (3, Value.pointer (some ⟨b_1, 0, none⟩)), (4, Value.int .i64 (IntKind.i64.wrap (k + 1)))] (by kernel_rfl) (by kernel_rfl) ?_
        have hb_ := again_1_h _ _ h
        exact ⟨_, hb_.2, [(0, Value.pointer b_), (2, Value.int .i64 i), (3, Value.pointer (some ⟨b_1, 0, none⟩)), (4, Value.int .i64 (IntKind.i64.wrap (k + 1)))], Sub.mk (by kernel_rfl), (IntKind.i64.wrap (k + 1)), rfl, hb_.1, rfl⟩
      · replace h := h.2 hb
        refine wpE_exit (id := 2) (by kernel_rfl) ?_
        change WpE _ _ c_towpathlaw01_Book_fillVersion_35 _ _ _
        refine wpE_region (id := 2) (ops := r_towpathlaw01_Book_fillVersion_35) (by kernel_rfl) ?_
        refine reg_run [.plain, .plain, .plain] 3 [(0, [], Value.pointer b_), (2, [], Value.int .i64 (IntKind.i64.wrap (i + 1)))] (by kernel_rfl) (by kernel_rfl) ?_
        refine reg_end [(0, Value.pointer b_), (2, Value.int .i64 (IntKind.i64.wrap (i + 1)))] (by kernel_rfl) (by kernel_rfl) ?_
        have hb_ := again__h _ _ h
        exact ⟨_, hb_.2, [(0, Value.pointer b_), (2, Value.int .i64 (IntKind.i64.wrap (i + 1)))], Sub.mk (by kernel_rfl), (IntKind.i64.wrap (i + 1)), rfl, hb_.1, rfl⟩
    · replace h := h.2 hb
      refine wpE_exit (id := 0) (by kernel_rfl) ?_
      repeat (first | refine seqQ_exit ?_ | refine loopQ_exit ?_ | refine cutQ_exit ?_ | refine blockQ_hit ?_ | refine blockQ_miss (by kernel_rfl) ?_)
      refine retQ_normal ?_
      repeat (first | refine seqQ_ret ?_ | refine blockQ_ret ?_ | refine loopQ_ret ?_ | refine cutQ_ret ?_)
      exact retT (rs := []) (vs := []) (by kernel_rfl) (trivial) (by kernel_rfl) ⟨rfl, h⟩
  · rintro e w' ⟨v, rfl, rfl, h⟩; exact ⟨rfl, h⟩

/-! ### (*towpath/towpathlaw01.Book).fillTxn (function 36) -/
noncomputable def c_towpathlaw01_Book_fillTxn_0 : Code := (Tryd.f36.body).getD Code.skip
noncomputable def c_towpathlaw01_Book_fillTxn_1 : Code := Code.l c_towpathlaw01_Book_fillTxn_0
noncomputable def r_towpathlaw01_Book_fillTxn_1 : Array Oper := Code.ops c_towpathlaw01_Book_fillTxn_1
noncomputable def c_towpathlaw01_Book_fillTxn_3 : Code := Code.r c_towpathlaw01_Book_fillTxn_0
noncomputable def c_towpathlaw01_Book_fillTxn_4 : Code := Code.l c_towpathlaw01_Book_fillTxn_3
noncomputable def c_towpathlaw01_Book_fillTxn_5 : Code := Code.l c_towpathlaw01_Book_fillTxn_4
noncomputable def c_towpathlaw01_Book_fillTxn_6 : Code := Code.l c_towpathlaw01_Book_fillTxn_5
noncomputable def c_towpathlaw01_Book_fillTxn_7 : Code := Code.l c_towpathlaw01_Book_fillTxn_6
noncomputable def r_towpathlaw01_Book_fillTxn_7 : Array Oper := Code.ops c_towpathlaw01_Book_fillTxn_7
noncomputable def c_towpathlaw01_Book_fillTxn_9 : Code := Code.r c_towpathlaw01_Book_fillTxn_6
noncomputable def c_towpathlaw01_Book_fillTxn_10 : Code := Code.l c_towpathlaw01_Book_fillTxn_9
noncomputable def c_towpathlaw01_Book_fillTxn_11 : Code := Code.r c_towpathlaw01_Book_fillTxn_9
noncomputable def c_towpathlaw01_Book_fillTxn_12 : Code := Code.r c_towpathlaw01_Book_fillTxn_5
noncomputable def c_towpathlaw01_Book_fillTxn_13 : Code := Code.l c_towpathlaw01_Book_fillTxn_12
noncomputable def c_towpathlaw01_Book_fillTxn_14 : Code := Code.l c_towpathlaw01_Book_fillTxn_13
noncomputable def c_towpathlaw01_Book_fillTxn_15 : Code := Code.l c_towpathlaw01_Book_fillTxn_14
noncomputable def r_towpathlaw01_Book_fillTxn_15 : Array Oper := Code.ops c_towpathlaw01_Book_fillTxn_15
noncomputable def c_towpathlaw01_Book_fillTxn_17 : Code := Code.r c_towpathlaw01_Book_fillTxn_14
noncomputable def c_towpathlaw01_Book_fillTxn_18 : Code := Code.l c_towpathlaw01_Book_fillTxn_17
noncomputable def r_towpathlaw01_Book_fillTxn_18 : Array Oper := Code.ops c_towpathlaw01_Book_fillTxn_18
noncomputable def c_towpathlaw01_Book_fillTxn_20 : Code := Code.r c_towpathlaw01_Book_fillTxn_17
noncomputable def c_towpathlaw01_Book_fillTxn_21 : Code := Code.l c_towpathlaw01_Book_fillTxn_20
noncomputable def c_towpathlaw01_Book_fillTxn_22 : Code := Code.l c_towpathlaw01_Book_fillTxn_21
noncomputable def c_towpathlaw01_Book_fillTxn_23 : Code := Code.l c_towpathlaw01_Book_fillTxn_22
noncomputable def c_towpathlaw01_Book_fillTxn_24 : Code := Code.l c_towpathlaw01_Book_fillTxn_23
noncomputable def r_towpathlaw01_Book_fillTxn_24 : Array Oper := Code.ops c_towpathlaw01_Book_fillTxn_24
noncomputable def c_towpathlaw01_Book_fillTxn_26 : Code := Code.r c_towpathlaw01_Book_fillTxn_23
noncomputable def c_towpathlaw01_Book_fillTxn_27 : Code := Code.l c_towpathlaw01_Book_fillTxn_26
noncomputable def c_towpathlaw01_Book_fillTxn_28 : Code := Code.r c_towpathlaw01_Book_fillTxn_26
noncomputable def c_towpathlaw01_Book_fillTxn_29 : Code := Code.r c_towpathlaw01_Book_fillTxn_22
noncomputable def c_towpathlaw01_Book_fillTxn_30 : Code := Code.l c_towpathlaw01_Book_fillTxn_29
noncomputable def c_towpathlaw01_Book_fillTxn_31 : Code := Code.l c_towpathlaw01_Book_fillTxn_30
noncomputable def r_towpathlaw01_Book_fillTxn_31 : Array Oper := Code.ops c_towpathlaw01_Book_fillTxn_31
noncomputable def c_towpathlaw01_Book_fillTxn_33 : Code := Code.r c_towpathlaw01_Book_fillTxn_29
noncomputable def r_towpathlaw01_Book_fillTxn_33 : Array Oper := Code.ops c_towpathlaw01_Book_fillTxn_33
noncomputable def c_towpathlaw01_Book_fillTxn_35 : Code := Code.r c_towpathlaw01_Book_fillTxn_12
noncomputable def r_towpathlaw01_Book_fillTxn_35 : Array Oper := Code.ops c_towpathlaw01_Book_fillTxn_35

set_option maxRecDepth 100000 in
set_option maxHeartbeats 4000000 in
theorem S_towpathlaw01_Book_fillTxn {b_ : Option Addr} {w : World} {R : World → Prop} (h : F_towpathlaw01_Book_fillTxn b_ R w) : C_towpathlaw01_Book_fillTxn b_ w R := by
  unfold F_towpathlaw01_Book_fillTxn at h
  unfold C_towpathlaw01_Book_fillTxn
  refine Calls.mono (calls_of_wpE (args := [Value.pointer b_]) (R := fun v w' => v = Value.tuple #[] ∧ R w') Tryd.func36 (c := c_towpathlaw01_Book_fillTxn_0) (by kernel_rfl) 35 (by kernel_rfl) (by kernel_rfl) [(0, Value.pointer b_)] (by kernel_rfl) ?_) ?_
  · refine wpE_seq (x := c_towpathlaw01_Book_fillTxn_1) (y := c_towpathlaw01_Book_fillTxn_3) (by kernel_rfl) ?_
    refine wpE_region (id := 0) (ops := r_towpathlaw01_Book_fillTxn_1) (by kernel_rfl) ?_
    refine reg_run [.plain] 1 [(0, [], Value.pointer b_), (2, [], Value.int .i64 0)] (by kernel_rfl) (by kernel_rfl) ?_
    refine reg_end [(0, Value.pointer b_), (2, Value.int .i64 0)] (by kernel_rfl) (by kernel_rfl) ?_
    change WpE _ _ c_towpathlaw01_Book_fillTxn_3 _ _ _
    refine wpE_block (id := 0) (x := c_towpathlaw01_Book_fillTxn_4) (by kernel_rfl) ?_
    obtain ⟨I, μ, h0, hr⟩ := h
    refine wpE_loop (x := c_towpathlaw01_Book_fillTxn_5) (by kernel_rfl) (fun m l w => ∃ (i : Int), l = [(0, Value.pointer b_), (2, Value.int .i64 i)] ∧ I i w ∧ μ i w = m) (l' := [(0, Value.pointer b_), (2, Value.int .i64 0)]) (Sub.mk (by kernel_rfl)) ⟨0, rfl, h0, rfl⟩ ?_
    rintro _ _ w1 ⟨i, rfl, hI, rfl⟩
    obtain ⟨again_, again__h, h⟩ : ∃ again_ : Int → World → Prop, (∀ i' w', again_ i' w' → I i' w' ∧ μ i' w' < μ i w1) ∧ F_towpathlaw01_Book_fillTxn_L0 b_ R again_ i w1 := ⟨_, fun _ _ h => h, hr i w1 hI⟩
    clear h0 hI
    unfold F_towpathlaw01_Book_fillTxn_L0 at h
    refine wpE_seq (x := c_towpathlaw01_Book_fillTxn_6) (y := c_towpathlaw01_Book_fillTxn_12) (by kernel_rfl) ?_
    refine wpE_seq (x := c_towpathlaw01_Book_fillTxn_7) (y := c_towpathlaw01_Book_fillTxn_9) (by kernel_rfl) ?_
    refine wpE_region (id := 1) (ops := r_towpathlaw01_Book_fillTxn_7) (by kernel_rfl) ?_
    refine reg_run [.plain, .plain] 2 [(0, [], Value.pointer b_), (2, [], Value.int .i64 i), (5, [], Value.int .i64 i), (6, [], Value.pointer b_)] (by kernel_rfl) (by kernel_rfl) ?_
    obtain ⟨hp_3, h⟩ := h
    refine reg_conv [(0, [], Value.pointer b_), (2, [], Value.int .i64 i), (5, [], Value.int .i64 i), (6, [], Value.pointer (some ⟨(pblk b_), (poff b_), none⟩))] (congrArg (fun pp => ([(0, [], Value.pointer b_), (2, [], Value.int .i64 i), (5, [], Value.int .i64 i), (6, [], Value.pointer pp)] : GEnv)) hp_3) ?_
    refine reg_run [.plain] 3 [(0, [], Value.pointer b_), (2, [], Value.int .i64 i), (5, [], Value.int .i64 i), (6, [], Value.pointer (some ⟨(pblk b_), (poff b_), none⟩)), (7, [], Value.pointer (some ⟨(pblk b_), (poff b_), none⟩))] (by kernel_rfl) (by kernel_rfl) ?_
    refine reg_run [.plain] 4 [(0, [], Value.pointer b_), (2, [], Value.int .i64 i), (5, [], Value.int .i64 i), (8, [], Value.pointer (some ⟨(pblk b_), (poff b_) + 7, none⟩))] (by kernel_rfl) (by kernel_rfl) ?_
    obtain ⟨v9, hc, h⟩ := h
    refine reg_load1 (t := 40) (a := (Go.Operand.tmp 8)) (b := (pblk b_)) (o := ((poff b_) + 7)) (ty := 40) (dst := some 9) (by kernel_rfl) (by kernel_rfl) (by kernel_rfl) hc ?_
    refine reg_run [.plain, .plain] 7 [(0, [], Value.pointer b_), (2, [], Value.int .i64 i), (11, [], Value.bool (decide (i < ((v9.len : Nat) : Int))))] (by kernel_rfl) (by kernel_rfl) ?_
    refine reg_end [(0, Value.pointer b_), (2, Value.int .i64 i), (11, Value.bool (decide (i < ((v9.len : Nat) : Int))))] (by kernel_rfl) (by kernel_rfl) ?_
    change WpE _ _ c_towpathlaw01_Book_fillTxn_9 _ _ _
    refine wpE_cond (o := (Operand.tmp 11)) (b := (decide (i < ((v9.len : Nat) : Int)))) (x := c_towpathlaw01_Book_fillTxn_10) (y := c_towpathlaw01_Book_fillTxn_11) (by kernel_rfl) (by kernel_rfl) (fun hb => ?_) (fun hb => ?_)
    · replace h := h.1 hb
      exact h.elim
    · replace h := h.2 hb
      refine wpE_exit (id := 0) (by kernel_rfl) ?_
      repeat (first | refine seqQ_exit ?_ | refine loopQ_exit ?_ | refine cutQ_exit ?_ | refine blockQ_hit ?_ | refine blockQ_miss (by kernel_rfl) ?_)
      refine retQ_normal ?_
      repeat (first | refine seqQ_ret ?_ | refine blockQ_ret ?_ | refine loopQ_ret ?_ | refine cutQ_ret ?_)
      exact retT (rs := []) (vs := []) (by kernel_rfl) (trivial) (by kernel_rfl) ⟨rfl, h⟩
  · rintro e w' ⟨v, rfl, rfl, h⟩; exact ⟨rfl, h⟩

/-! ### (*towpath/towpathlaw01.Book).fillHeld (function 37) -/
noncomputable def c_towpathlaw01_Book_fillHeld_0 : Code := (Tryd.f37.body).getD Code.skip
noncomputable def c_towpathlaw01_Book_fillHeld_1 : Code := Code.l c_towpathlaw01_Book_fillHeld_0
noncomputable def r_towpathlaw01_Book_fillHeld_1 : Array Oper := Code.ops c_towpathlaw01_Book_fillHeld_1
noncomputable def c_towpathlaw01_Book_fillHeld_3 : Code := Code.r c_towpathlaw01_Book_fillHeld_0
noncomputable def c_towpathlaw01_Book_fillHeld_4 : Code := Code.l c_towpathlaw01_Book_fillHeld_3
noncomputable def c_towpathlaw01_Book_fillHeld_5 : Code := Code.l c_towpathlaw01_Book_fillHeld_4
noncomputable def c_towpathlaw01_Book_fillHeld_6 : Code := Code.l c_towpathlaw01_Book_fillHeld_5
noncomputable def c_towpathlaw01_Book_fillHeld_7 : Code := Code.l c_towpathlaw01_Book_fillHeld_6
noncomputable def r_towpathlaw01_Book_fillHeld_7 : Array Oper := Code.ops c_towpathlaw01_Book_fillHeld_7
noncomputable def c_towpathlaw01_Book_fillHeld_9 : Code := Code.r c_towpathlaw01_Book_fillHeld_6
noncomputable def c_towpathlaw01_Book_fillHeld_10 : Code := Code.l c_towpathlaw01_Book_fillHeld_9
noncomputable def c_towpathlaw01_Book_fillHeld_11 : Code := Code.r c_towpathlaw01_Book_fillHeld_9
noncomputable def c_towpathlaw01_Book_fillHeld_12 : Code := Code.r c_towpathlaw01_Book_fillHeld_5
noncomputable def c_towpathlaw01_Book_fillHeld_13 : Code := Code.l c_towpathlaw01_Book_fillHeld_12
noncomputable def c_towpathlaw01_Book_fillHeld_14 : Code := Code.l c_towpathlaw01_Book_fillHeld_13
noncomputable def c_towpathlaw01_Book_fillHeld_15 : Code := Code.l c_towpathlaw01_Book_fillHeld_14
noncomputable def r_towpathlaw01_Book_fillHeld_15 : Array Oper := Code.ops c_towpathlaw01_Book_fillHeld_15
noncomputable def c_towpathlaw01_Book_fillHeld_17 : Code := Code.r c_towpathlaw01_Book_fillHeld_14
noncomputable def c_towpathlaw01_Book_fillHeld_18 : Code := Code.l c_towpathlaw01_Book_fillHeld_17
noncomputable def r_towpathlaw01_Book_fillHeld_18 : Array Oper := Code.ops c_towpathlaw01_Book_fillHeld_18
noncomputable def c_towpathlaw01_Book_fillHeld_20 : Code := Code.r c_towpathlaw01_Book_fillHeld_17
noncomputable def c_towpathlaw01_Book_fillHeld_21 : Code := Code.l c_towpathlaw01_Book_fillHeld_20
noncomputable def c_towpathlaw01_Book_fillHeld_22 : Code := Code.l c_towpathlaw01_Book_fillHeld_21
noncomputable def c_towpathlaw01_Book_fillHeld_23 : Code := Code.l c_towpathlaw01_Book_fillHeld_22
noncomputable def c_towpathlaw01_Book_fillHeld_24 : Code := Code.l c_towpathlaw01_Book_fillHeld_23
noncomputable def r_towpathlaw01_Book_fillHeld_24 : Array Oper := Code.ops c_towpathlaw01_Book_fillHeld_24
noncomputable def c_towpathlaw01_Book_fillHeld_26 : Code := Code.r c_towpathlaw01_Book_fillHeld_23
noncomputable def c_towpathlaw01_Book_fillHeld_27 : Code := Code.l c_towpathlaw01_Book_fillHeld_26
noncomputable def c_towpathlaw01_Book_fillHeld_28 : Code := Code.r c_towpathlaw01_Book_fillHeld_26
noncomputable def c_towpathlaw01_Book_fillHeld_29 : Code := Code.r c_towpathlaw01_Book_fillHeld_22
noncomputable def c_towpathlaw01_Book_fillHeld_30 : Code := Code.l c_towpathlaw01_Book_fillHeld_29
noncomputable def c_towpathlaw01_Book_fillHeld_31 : Code := Code.l c_towpathlaw01_Book_fillHeld_30
noncomputable def r_towpathlaw01_Book_fillHeld_31 : Array Oper := Code.ops c_towpathlaw01_Book_fillHeld_31
noncomputable def c_towpathlaw01_Book_fillHeld_33 : Code := Code.r c_towpathlaw01_Book_fillHeld_29
noncomputable def r_towpathlaw01_Book_fillHeld_33 : Array Oper := Code.ops c_towpathlaw01_Book_fillHeld_33
noncomputable def c_towpathlaw01_Book_fillHeld_35 : Code := Code.r c_towpathlaw01_Book_fillHeld_12
noncomputable def r_towpathlaw01_Book_fillHeld_35 : Array Oper := Code.ops c_towpathlaw01_Book_fillHeld_35

set_option maxRecDepth 100000 in
set_option maxHeartbeats 4000000 in
theorem S_towpathlaw01_Book_fillHeld {b_ : Option Addr} {w : World} {R : World → Prop} (h : F_towpathlaw01_Book_fillHeld b_ R w) : C_towpathlaw01_Book_fillHeld b_ w R := by
  unfold F_towpathlaw01_Book_fillHeld at h
  unfold C_towpathlaw01_Book_fillHeld
  refine Calls.mono (calls_of_wpE (args := [Value.pointer b_]) (R := fun v w' => v = Value.tuple #[] ∧ R w') Tryd.func37 (c := c_towpathlaw01_Book_fillHeld_0) (by kernel_rfl) 35 (by kernel_rfl) (by kernel_rfl) [(0, Value.pointer b_)] (by kernel_rfl) ?_) ?_
  · refine wpE_seq (x := c_towpathlaw01_Book_fillHeld_1) (y := c_towpathlaw01_Book_fillHeld_3) (by kernel_rfl) ?_
    refine wpE_region (id := 0) (ops := r_towpathlaw01_Book_fillHeld_1) (by kernel_rfl) ?_
    refine reg_run [.plain] 1 [(0, [], Value.pointer b_), (2, [], Value.int .i64 0)] (by kernel_rfl) (by kernel_rfl) ?_
    refine reg_end [(0, Value.pointer b_), (2, Value.int .i64 0)] (by kernel_rfl) (by kernel_rfl) ?_
    change WpE _ _ c_towpathlaw01_Book_fillHeld_3 _ _ _
    refine wpE_block (id := 0) (x := c_towpathlaw01_Book_fillHeld_4) (by kernel_rfl) ?_
    obtain ⟨I, μ, h0, hr⟩ := h
    refine wpE_loop (x := c_towpathlaw01_Book_fillHeld_5) (by kernel_rfl) (fun m l w => ∃ (i : Int), l = [(0, Value.pointer b_), (2, Value.int .i64 i)] ∧ I i w ∧ μ i w = m) (l' := [(0, Value.pointer b_), (2, Value.int .i64 0)]) (Sub.mk (by kernel_rfl)) ⟨0, rfl, h0, rfl⟩ ?_
    rintro _ _ w1 ⟨i, rfl, hI, rfl⟩
    obtain ⟨again_, again__h, h⟩ : ∃ again_ : Int → World → Prop, (∀ i' w', again_ i' w' → I i' w' ∧ μ i' w' < μ i w1) ∧ F_towpathlaw01_Book_fillHeld_L0 b_ R again_ i w1 := ⟨_, fun _ _ h => h, hr i w1 hI⟩
    clear h0 hI
    unfold F_towpathlaw01_Book_fillHeld_L0 at h
    refine wpE_seq (x := c_towpathlaw01_Book_fillHeld_6) (y := c_towpathlaw01_Book_fillHeld_12) (by kernel_rfl) ?_
    refine wpE_seq (x := c_towpathlaw01_Book_fillHeld_7) (y := c_towpathlaw01_Book_fillHeld_9) (by kernel_rfl) ?_
    refine wpE_region (id := 1) (ops := r_towpathlaw01_Book_fillHeld_7) (by kernel_rfl) ?_
    refine reg_run [.plain, .plain] 2 [(0, [], Value.pointer b_), (2, [], Value.int .i64 i), (5, [], Value.int .i64 i), (6, [], Value.pointer b_)] (by kernel_rfl) (by kernel_rfl) ?_
    obtain ⟨hp_3, h⟩ := h
    refine reg_conv [(0, [], Value.pointer b_), (2, [], Value.int .i64 i), (5, [], Value.int .i64 i), (6, [], Value.pointer (some ⟨(pblk b_), (poff b_), none⟩))] (congrArg (fun pp => ([(0, [], Value.pointer b_), (2, [], Value.int .i64 i), (5, [], Value.int .i64 i), (6, [], Value.pointer pp)] : GEnv)) hp_3) ?_
    refine reg_run [.plain] 3 [(0, [], Value.pointer b_), (2, [], Value.int .i64 i), (5, [], Value.int .i64 i), (6, [], Value.pointer (some ⟨(pblk b_), (poff b_), none⟩)), (7, [], Value.pointer (some ⟨(pblk b_), (poff b_), none⟩))] (by kernel_rfl) (by kernel_rfl) ?_
    refine reg_run [.plain] 4 [(0, [], Value.pointer b_), (2, [], Value.int .i64 i), (5, [], Value.int .i64 i), (8, [], Value.pointer (some ⟨(pblk b_), (poff b_) + 8, none⟩))] (by kernel_rfl) (by kernel_rfl) ?_
    obtain ⟨v9, hc, h⟩ := h
    refine reg_load1 (t := 41) (a := (Go.Operand.tmp 8)) (b := (pblk b_)) (o := ((poff b_) + 8)) (ty := 41) (dst := some 9) (by kernel_rfl) (by kernel_rfl) (by kernel_rfl) hc ?_
    refine reg_run [.plain, .plain] 7 [(0, [], Value.pointer b_), (2, [], Value.int .i64 i), (11, [], Value.bool (decide (i < ((v9.len : Nat) : Int))))] (by kernel_rfl) (by kernel_rfl) ?_
    refine reg_end [(0, Value.pointer b_), (2, Value.int .i64 i), (11, Value.bool (decide (i < ((v9.len : Nat) : Int))))] (by kernel_rfl) (by kernel_rfl) ?_
    change WpE _ _ c_towpathlaw01_Book_fillHeld_9 _ _ _
    refine wpE_cond (o := (Operand.tmp 11)) (b := (decide (i < ((v9.len : Nat) : Int)))) (x := c_towpathlaw01_Book_fillHeld_10) (y := c_towpathlaw01_Book_fillHeld_11) (by kernel_rfl) (by kernel_rfl) (fun hb => ?_) (fun hb => ?_)
    · replace h := h.1 hb
      exact h.elim
    · replace h := h.2 hb
      refine wpE_exit (id := 0) (by kernel_rfl) ?_
      repeat (first | refine seqQ_exit ?_ | refine loopQ_exit ?_ | refine cutQ_exit ?_ | refine blockQ_hit ?_ | refine blockQ_miss (by kernel_rfl) ?_)
      refine retQ_normal ?_
      repeat (first | refine seqQ_ret ?_ | refine blockQ_ret ?_ | refine loopQ_ret ?_ | refine cutQ_ret ?_)
      exact retT (rs := []) (vs := []) (by kernel_rfl) (trivial) (by kernel_rfl) ⟨rfl, h⟩
  · rintro e w' ⟨v, rfl, rfl, h⟩; exact ⟨rfl, h⟩

/-! ### (*towpath/towpathlaw01.Book).fillHeldList (function 38) -/
noncomputable def c_towpathlaw01_Book_fillHeldList_0 : Code := (Tryd.f38.body).getD Code.skip
noncomputable def c_towpathlaw01_Book_fillHeldList_1 : Code := Code.l c_towpathlaw01_Book_fillHeldList_0
noncomputable def r_towpathlaw01_Book_fillHeldList_1 : Array Oper := Code.ops c_towpathlaw01_Book_fillHeldList_1
noncomputable def c_towpathlaw01_Book_fillHeldList_3 : Code := Code.r c_towpathlaw01_Book_fillHeldList_0
noncomputable def c_towpathlaw01_Book_fillHeldList_4 : Code := Code.l c_towpathlaw01_Book_fillHeldList_3
noncomputable def c_towpathlaw01_Book_fillHeldList_5 : Code := Code.l c_towpathlaw01_Book_fillHeldList_4
noncomputable def c_towpathlaw01_Book_fillHeldList_6 : Code := Code.l c_towpathlaw01_Book_fillHeldList_5
noncomputable def c_towpathlaw01_Book_fillHeldList_7 : Code := Code.l c_towpathlaw01_Book_fillHeldList_6
noncomputable def r_towpathlaw01_Book_fillHeldList_7 : Array Oper := Code.ops c_towpathlaw01_Book_fillHeldList_7
noncomputable def c_towpathlaw01_Book_fillHeldList_9 : Code := Code.r c_towpathlaw01_Book_fillHeldList_6
noncomputable def c_towpathlaw01_Book_fillHeldList_10 : Code := Code.l c_towpathlaw01_Book_fillHeldList_9
noncomputable def c_towpathlaw01_Book_fillHeldList_11 : Code := Code.r c_towpathlaw01_Book_fillHeldList_9
noncomputable def c_towpathlaw01_Book_fillHeldList_12 : Code := Code.r c_towpathlaw01_Book_fillHeldList_5
noncomputable def c_towpathlaw01_Book_fillHeldList_13 : Code := Code.l c_towpathlaw01_Book_fillHeldList_12
noncomputable def c_towpathlaw01_Book_fillHeldList_14 : Code := Code.l c_towpathlaw01_Book_fillHeldList_13
noncomputable def c_towpathlaw01_Book_fillHeldList_15 : Code := Code.l c_towpathlaw01_Book_fillHeldList_14
noncomputable def r_towpathlaw01_Book_fillHeldList_15 : Array Oper := Code.ops c_towpathlaw01_Book_fillHeldList_15
noncomputable def c_towpathlaw01_Book_fillHeldList_17 : Code := Code.r c_towpathlaw01_Book_fillHeldList_14
noncomputable def c_towpathlaw01_Book_fillHeldList_18 : Code := Code.l c_towpathlaw01_Book_fillHeldList_17
noncomputable def r_towpathlaw01_Book_fillHeldList_18 : Array Oper := Code.ops c_towpathlaw01_Book_fillHeldList_18
noncomputable def c_towpathlaw01_Book_fillHeldList_20 : Code := Code.r c_towpathlaw01_Book_fillHeldList_17
noncomputable def c_towpathlaw01_Book_fillHeldList_21 : Code := Code.l c_towpathlaw01_Book_fillHeldList_20
noncomputable def c_towpathlaw01_Book_fillHeldList_22 : Code := Code.l c_towpathlaw01_Book_fillHeldList_21
noncomputable def c_towpathlaw01_Book_fillHeldList_23 : Code := Code.l c_towpathlaw01_Book_fillHeldList_22
noncomputable def c_towpathlaw01_Book_fillHeldList_24 : Code := Code.l c_towpathlaw01_Book_fillHeldList_23
noncomputable def r_towpathlaw01_Book_fillHeldList_24 : Array Oper := Code.ops c_towpathlaw01_Book_fillHeldList_24
noncomputable def c_towpathlaw01_Book_fillHeldList_26 : Code := Code.r c_towpathlaw01_Book_fillHeldList_23
noncomputable def c_towpathlaw01_Book_fillHeldList_27 : Code := Code.l c_towpathlaw01_Book_fillHeldList_26
noncomputable def c_towpathlaw01_Book_fillHeldList_28 : Code := Code.r c_towpathlaw01_Book_fillHeldList_26
noncomputable def c_towpathlaw01_Book_fillHeldList_29 : Code := Code.r c_towpathlaw01_Book_fillHeldList_22
noncomputable def c_towpathlaw01_Book_fillHeldList_30 : Code := Code.l c_towpathlaw01_Book_fillHeldList_29
noncomputable def c_towpathlaw01_Book_fillHeldList_31 : Code := Code.l c_towpathlaw01_Book_fillHeldList_30
noncomputable def r_towpathlaw01_Book_fillHeldList_31 : Array Oper := Code.ops c_towpathlaw01_Book_fillHeldList_31
noncomputable def c_towpathlaw01_Book_fillHeldList_33 : Code := Code.r c_towpathlaw01_Book_fillHeldList_29
noncomputable def r_towpathlaw01_Book_fillHeldList_33 : Array Oper := Code.ops c_towpathlaw01_Book_fillHeldList_33
noncomputable def c_towpathlaw01_Book_fillHeldList_35 : Code := Code.r c_towpathlaw01_Book_fillHeldList_12
noncomputable def r_towpathlaw01_Book_fillHeldList_35 : Array Oper := Code.ops c_towpathlaw01_Book_fillHeldList_35

set_option maxRecDepth 100000 in
set_option maxHeartbeats 4000000 in
theorem S_towpathlaw01_Book_fillHeldList {b_ : Option Addr} {w : World} {R : World → Prop} (h : F_towpathlaw01_Book_fillHeldList b_ R w) : C_towpathlaw01_Book_fillHeldList b_ w R := by
  unfold F_towpathlaw01_Book_fillHeldList at h
  unfold C_towpathlaw01_Book_fillHeldList
  refine Calls.mono (calls_of_wpE (args := [Value.pointer b_]) (R := fun v w' => v = Value.tuple #[] ∧ R w') Tryd.func38 (c := c_towpathlaw01_Book_fillHeldList_0) (by kernel_rfl) 35 (by kernel_rfl) (by kernel_rfl) [(0, Value.pointer b_)] (by kernel_rfl) ?_) ?_
  · refine wpE_seq (x := c_towpathlaw01_Book_fillHeldList_1) (y := c_towpathlaw01_Book_fillHeldList_3) (by kernel_rfl) ?_
    refine wpE_region (id := 0) (ops := r_towpathlaw01_Book_fillHeldList_1) (by kernel_rfl) ?_
    refine reg_run [.plain] 1 [(0, [], Value.pointer b_), (2, [], Value.int .i64 0)] (by kernel_rfl) (by kernel_rfl) ?_
    refine reg_end [(0, Value.pointer b_), (2, Value.int .i64 0)] (by kernel_rfl) (by kernel_rfl) ?_
    change WpE _ _ c_towpathlaw01_Book_fillHeldList_3 _ _ _
    refine wpE_block (id := 0) (x := c_towpathlaw01_Book_fillHeldList_4) (by kernel_rfl) ?_
    obtain ⟨I, μ, h0, hr⟩ := h
    refine wpE_loop (x := c_towpathlaw01_Book_fillHeldList_5) (by kernel_rfl) (fun m l w => ∃ (i : Int), l = [(0, Value.pointer b_), (2, Value.int .i64 i)] ∧ I i w ∧ μ i w = m) (l' := [(0, Value.pointer b_), (2, Value.int .i64 0)]) (Sub.mk (by kernel_rfl)) ⟨0, rfl, h0, rfl⟩ ?_
    rintro _ _ w1 ⟨i, rfl, hI, rfl⟩
    obtain ⟨again_, again__h, h⟩ : ∃ again_ : Int → World → Prop, (∀ i' w', again_ i' w' → I i' w' ∧ μ i' w' < μ i w1) ∧ F_towpathlaw01_Book_fillHeldList_L0 b_ R again_ i w1 := ⟨_, fun _ _ h => h, hr i w1 hI⟩
    clear h0 hI
    unfold F_towpathlaw01_Book_fillHeldList_L0 at h
    refine wpE_seq (x := c_towpathlaw01_Book_fillHeldList_6) (y := c_towpathlaw01_Book_fillHeldList_12) (by kernel_rfl) ?_
    refine wpE_seq (x := c_towpathlaw01_Book_fillHeldList_7) (y := c_towpathlaw01_Book_fillHeldList_9) (by kernel_rfl) ?_
    refine wpE_region (id := 1) (ops := r_towpathlaw01_Book_fillHeldList_7) (by kernel_rfl) ?_
    refine reg_run [.plain, .plain] 2 [(0, [], Value.pointer b_), (2, [], Value.int .i64 i), (5, [], Value.int .i64 i), (6, [], Value.pointer b_)] (by kernel_rfl) (by kernel_rfl) ?_
    obtain ⟨hp_3, h⟩ := h
    refine reg_conv [(0, [], Value.pointer b_), (2, [], Value.int .i64 i), (5, [], Value.int .i64 i), (6, [], Value.pointer (some ⟨(pblk b_), (poff b_), none⟩))] (congrArg (fun pp => ([(0, [], Value.pointer b_), (2, [], Value.int .i64 i), (5, [], Value.int .i64 i), (6, [], Value.pointer pp)] : GEnv)) hp_3) ?_
    refine reg_run [.plain] 3 [(0, [], Value.pointer b_), (2, [], Value.int .i64 i), (5, [], Value.int .i64 i), (6, [], Value.pointer (some ⟨(pblk b_), (poff b_), none⟩)), (7, [], Value.pointer (some ⟨(pblk b_), (poff b_), none⟩))] (by kernel_rfl) (by kernel_rfl) ?_
    refine reg_run [.plain] 4 [(0, [], Value.pointer b_), (2, [], Value.int .i64 i), (5, [], Value.int .i64 i), (8, [], Value.pointer (some ⟨(pblk b_), (poff b_) + 9, none⟩))] (by kernel_rfl) (by kernel_rfl) ?_
    obtain ⟨v9, hc, h⟩ := h
    refine reg_load1 (t := 42) (a := (Go.Operand.tmp 8)) (b := (pblk b_)) (o := ((poff b_) + 9)) (ty := 42) (dst := some 9) (by kernel_rfl) (by kernel_rfl) (by kernel_rfl) hc ?_
    refine reg_run [.plain, .plain] 7 [(0, [], Value.pointer b_), (2, [], Value.int .i64 i), (11, [], Value.bool (decide (i < ((v9.len : Nat) : Int))))] (by kernel_rfl) (by kernel_rfl) ?_
    refine reg_end [(0, Value.pointer b_), (2, Value.int .i64 i), (11, Value.bool (decide (i < ((v9.len : Nat) : Int))))] (by kernel_rfl) (by kernel_rfl) ?_
    change WpE _ _ c_towpathlaw01_Book_fillHeldList_9 _ _ _
    refine wpE_cond (o := (Operand.tmp 11)) (b := (decide (i < ((v9.len : Nat) : Int)))) (x := c_towpathlaw01_Book_fillHeldList_10) (y := c_towpathlaw01_Book_fillHeldList_11) (by kernel_rfl) (by kernel_rfl) (fun hb => ?_) (fun hb => ?_)
    · replace h := h.1 hb
      exact h.elim
    · replace h := h.2 hb
      refine wpE_exit (id := 0) (by kernel_rfl) ?_
      repeat (first | refine seqQ_exit ?_ | refine loopQ_exit ?_ | refine cutQ_exit ?_ | refine blockQ_hit ?_ | refine blockQ_miss (by kernel_rfl) ?_)
      refine retQ_normal ?_
      repeat (first | refine seqQ_ret ?_ | refine blockQ_ret ?_ | refine loopQ_ret ?_ | refine cutQ_ret ?_)
      exact retT (rs := []) (vs := []) (by kernel_rfl) (trivial) (by kernel_rfl) ⟨rfl, h⟩
  · rintro e w' ⟨v, rfl, rfl, h⟩; exact ⟨rfl, h⟩

/-! ### (*towpath/towpathlaw01.Book).fillEvent (function 39) -/
noncomputable def c_towpathlaw01_Book_fillEvent_0 : Code := (Tryd.f39.body).getD Code.skip
noncomputable def c_towpathlaw01_Book_fillEvent_1 : Code := Code.l c_towpathlaw01_Book_fillEvent_0
noncomputable def r_towpathlaw01_Book_fillEvent_1 : Array Oper := Code.ops c_towpathlaw01_Book_fillEvent_1
noncomputable def c_towpathlaw01_Book_fillEvent_3 : Code := Code.r c_towpathlaw01_Book_fillEvent_0
noncomputable def c_towpathlaw01_Book_fillEvent_4 : Code := Code.l c_towpathlaw01_Book_fillEvent_3
noncomputable def c_towpathlaw01_Book_fillEvent_5 : Code := Code.l c_towpathlaw01_Book_fillEvent_4
noncomputable def c_towpathlaw01_Book_fillEvent_6 : Code := Code.l c_towpathlaw01_Book_fillEvent_5
noncomputable def c_towpathlaw01_Book_fillEvent_7 : Code := Code.l c_towpathlaw01_Book_fillEvent_6
noncomputable def r_towpathlaw01_Book_fillEvent_7 : Array Oper := Code.ops c_towpathlaw01_Book_fillEvent_7
noncomputable def c_towpathlaw01_Book_fillEvent_9 : Code := Code.r c_towpathlaw01_Book_fillEvent_6
noncomputable def c_towpathlaw01_Book_fillEvent_10 : Code := Code.l c_towpathlaw01_Book_fillEvent_9
noncomputable def c_towpathlaw01_Book_fillEvent_11 : Code := Code.r c_towpathlaw01_Book_fillEvent_9
noncomputable def c_towpathlaw01_Book_fillEvent_12 : Code := Code.r c_towpathlaw01_Book_fillEvent_5
noncomputable def c_towpathlaw01_Book_fillEvent_13 : Code := Code.l c_towpathlaw01_Book_fillEvent_12
noncomputable def c_towpathlaw01_Book_fillEvent_14 : Code := Code.l c_towpathlaw01_Book_fillEvent_13
noncomputable def c_towpathlaw01_Book_fillEvent_15 : Code := Code.l c_towpathlaw01_Book_fillEvent_14
noncomputable def r_towpathlaw01_Book_fillEvent_15 : Array Oper := Code.ops c_towpathlaw01_Book_fillEvent_15
noncomputable def c_towpathlaw01_Book_fillEvent_17 : Code := Code.r c_towpathlaw01_Book_fillEvent_14
noncomputable def c_towpathlaw01_Book_fillEvent_18 : Code := Code.l c_towpathlaw01_Book_fillEvent_17
noncomputable def r_towpathlaw01_Book_fillEvent_18 : Array Oper := Code.ops c_towpathlaw01_Book_fillEvent_18
noncomputable def c_towpathlaw01_Book_fillEvent_20 : Code := Code.r c_towpathlaw01_Book_fillEvent_17
noncomputable def c_towpathlaw01_Book_fillEvent_21 : Code := Code.l c_towpathlaw01_Book_fillEvent_20
noncomputable def c_towpathlaw01_Book_fillEvent_22 : Code := Code.l c_towpathlaw01_Book_fillEvent_21
noncomputable def c_towpathlaw01_Book_fillEvent_23 : Code := Code.l c_towpathlaw01_Book_fillEvent_22
noncomputable def c_towpathlaw01_Book_fillEvent_24 : Code := Code.l c_towpathlaw01_Book_fillEvent_23
noncomputable def r_towpathlaw01_Book_fillEvent_24 : Array Oper := Code.ops c_towpathlaw01_Book_fillEvent_24
noncomputable def c_towpathlaw01_Book_fillEvent_26 : Code := Code.r c_towpathlaw01_Book_fillEvent_23
noncomputable def c_towpathlaw01_Book_fillEvent_27 : Code := Code.l c_towpathlaw01_Book_fillEvent_26
noncomputable def c_towpathlaw01_Book_fillEvent_28 : Code := Code.r c_towpathlaw01_Book_fillEvent_26
noncomputable def c_towpathlaw01_Book_fillEvent_29 : Code := Code.r c_towpathlaw01_Book_fillEvent_22
noncomputable def c_towpathlaw01_Book_fillEvent_30 : Code := Code.l c_towpathlaw01_Book_fillEvent_29
noncomputable def c_towpathlaw01_Book_fillEvent_31 : Code := Code.l c_towpathlaw01_Book_fillEvent_30
noncomputable def r_towpathlaw01_Book_fillEvent_31 : Array Oper := Code.ops c_towpathlaw01_Book_fillEvent_31
noncomputable def c_towpathlaw01_Book_fillEvent_33 : Code := Code.r c_towpathlaw01_Book_fillEvent_29
noncomputable def r_towpathlaw01_Book_fillEvent_33 : Array Oper := Code.ops c_towpathlaw01_Book_fillEvent_33
noncomputable def c_towpathlaw01_Book_fillEvent_35 : Code := Code.r c_towpathlaw01_Book_fillEvent_12
noncomputable def r_towpathlaw01_Book_fillEvent_35 : Array Oper := Code.ops c_towpathlaw01_Book_fillEvent_35

set_option maxRecDepth 100000 in
set_option maxHeartbeats 4000000 in
theorem S_towpathlaw01_Book_fillEvent {b_ : Option Addr} {w : World} {R : World → Prop} (h : F_towpathlaw01_Book_fillEvent b_ R w) : C_towpathlaw01_Book_fillEvent b_ w R := by
  unfold F_towpathlaw01_Book_fillEvent at h
  unfold C_towpathlaw01_Book_fillEvent
  refine Calls.mono (calls_of_wpE (args := [Value.pointer b_]) (R := fun v w' => v = Value.tuple #[] ∧ R w') Tryd.func39 (c := c_towpathlaw01_Book_fillEvent_0) (by kernel_rfl) 35 (by kernel_rfl) (by kernel_rfl) [(0, Value.pointer b_)] (by kernel_rfl) ?_) ?_
  · refine wpE_seq (x := c_towpathlaw01_Book_fillEvent_1) (y := c_towpathlaw01_Book_fillEvent_3) (by kernel_rfl) ?_
    refine wpE_region (id := 0) (ops := r_towpathlaw01_Book_fillEvent_1) (by kernel_rfl) ?_
    refine reg_run [.plain] 1 [(0, [], Value.pointer b_), (2, [], Value.int .i64 0)] (by kernel_rfl) (by kernel_rfl) ?_
    refine reg_end [(0, Value.pointer b_), (2, Value.int .i64 0)] (by kernel_rfl) (by kernel_rfl) ?_
    change WpE _ _ c_towpathlaw01_Book_fillEvent_3 _ _ _
    refine wpE_block (id := 0) (x := c_towpathlaw01_Book_fillEvent_4) (by kernel_rfl) ?_
    obtain ⟨I, μ, h0, hr⟩ := h
    refine wpE_loop (x := c_towpathlaw01_Book_fillEvent_5) (by kernel_rfl) (fun m l w => ∃ (i : Int), l = [(0, Value.pointer b_), (2, Value.int .i64 i)] ∧ I i w ∧ μ i w = m) (l' := [(0, Value.pointer b_), (2, Value.int .i64 0)]) (Sub.mk (by kernel_rfl)) ⟨0, rfl, h0, rfl⟩ ?_
    rintro _ _ w1 ⟨i, rfl, hI, rfl⟩
    obtain ⟨again_, again__h, h⟩ : ∃ again_ : Int → World → Prop, (∀ i' w', again_ i' w' → I i' w' ∧ μ i' w' < μ i w1) ∧ F_towpathlaw01_Book_fillEvent_L0 b_ R again_ i w1 := ⟨_, fun _ _ h => h, hr i w1 hI⟩
    clear h0 hI
    unfold F_towpathlaw01_Book_fillEvent_L0 at h
    refine wpE_seq (x := c_towpathlaw01_Book_fillEvent_6) (y := c_towpathlaw01_Book_fillEvent_12) (by kernel_rfl) ?_
    refine wpE_seq (x := c_towpathlaw01_Book_fillEvent_7) (y := c_towpathlaw01_Book_fillEvent_9) (by kernel_rfl) ?_
    refine wpE_region (id := 1) (ops := r_towpathlaw01_Book_fillEvent_7) (by kernel_rfl) ?_
    refine reg_run [.plain, .plain] 2 [(0, [], Value.pointer b_), (2, [], Value.int .i64 i), (5, [], Value.int .i64 i), (6, [], Value.pointer b_)] (by kernel_rfl) (by kernel_rfl) ?_
    obtain ⟨hp_3, h⟩ := h
    refine reg_conv [(0, [], Value.pointer b_), (2, [], Value.int .i64 i), (5, [], Value.int .i64 i), (6, [], Value.pointer (some ⟨(pblk b_), (poff b_), none⟩))] (congrArg (fun pp => ([(0, [], Value.pointer b_), (2, [], Value.int .i64 i), (5, [], Value.int .i64 i), (6, [], Value.pointer pp)] : GEnv)) hp_3) ?_
    refine reg_run [.plain] 3 [(0, [], Value.pointer b_), (2, [], Value.int .i64 i), (5, [], Value.int .i64 i), (6, [], Value.pointer (some ⟨(pblk b_), (poff b_), none⟩)), (7, [], Value.pointer (some ⟨(pblk b_), (poff b_), none⟩))] (by kernel_rfl) (by kernel_rfl) ?_
    refine reg_run [.plain] 4 [(0, [], Value.pointer b_), (2, [], Value.int .i64 i), (5, [], Value.int .i64 i), (8, [], Value.pointer (some ⟨(pblk b_), (poff b_) + 10, none⟩))] (by kernel_rfl) (by kernel_rfl) ?_
    obtain ⟨v9, hc, h⟩ := h
    refine reg_load1 (t := 43) (a := (Go.Operand.tmp 8)) (b := (pblk b_)) (o := ((poff b_) + 10)) (ty := 43) (dst := some 9) (by kernel_rfl) (by kernel_rfl) (by kernel_rfl) hc ?_
    refine reg_run [.plain, .plain] 7 [(0, [], Value.pointer b_), (2, [], Value.int .i64 i), (11, [], Value.bool (decide (i < ((v9.len : Nat) : Int))))] (by kernel_rfl) (by kernel_rfl) ?_
    refine reg_end [(0, Value.pointer b_), (2, Value.int .i64 i), (11, Value.bool (decide (i < ((v9.len : Nat) : Int))))] (by kernel_rfl) (by kernel_rfl) ?_
    change WpE _ _ c_towpathlaw01_Book_fillEvent_9 _ _ _
    refine wpE_cond (o := (Operand.tmp 11)) (b := (decide (i < ((v9.len : Nat) : Int)))) (x := c_towpathlaw01_Book_fillEvent_10) (y := c_towpathlaw01_Book_fillEvent_11) (by kernel_rfl) (by kernel_rfl) (fun hb => ?_) (fun hb => ?_)
    · replace h := h.1 hb
      exact h.elim
    · replace h := h.2 hb
      refine wpE_exit (id := 0) (by kernel_rfl) ?_
      repeat (first | refine seqQ_exit ?_ | refine loopQ_exit ?_ | refine cutQ_exit ?_ | refine blockQ_hit ?_ | refine blockQ_miss (by kernel_rfl) ?_)
      refine retQ_normal ?_
      repeat (first | refine seqQ_ret ?_ | refine blockQ_ret ?_ | refine loopQ_ret ?_ | refine cutQ_ret ?_)
      exact retT (rs := []) (vs := []) (by kernel_rfl) (trivial) (by kernel_rfl) ⟨rfl, h⟩
  · rintro e w' ⟨v, rfl, rfl, h⟩; exact ⟨rfl, h⟩

/-! ### (*towpath/towpathlaw01.Book).fillAnswer (function 40) -/
noncomputable def c_towpathlaw01_Book_fillAnswer_0 : Code := (Tryd.f40.body).getD Code.skip
noncomputable def c_towpathlaw01_Book_fillAnswer_1 : Code := Code.l c_towpathlaw01_Book_fillAnswer_0
noncomputable def r_towpathlaw01_Book_fillAnswer_1 : Array Oper := Code.ops c_towpathlaw01_Book_fillAnswer_1
noncomputable def c_towpathlaw01_Book_fillAnswer_3 : Code := Code.r c_towpathlaw01_Book_fillAnswer_0
noncomputable def c_towpathlaw01_Book_fillAnswer_4 : Code := Code.l c_towpathlaw01_Book_fillAnswer_3
noncomputable def c_towpathlaw01_Book_fillAnswer_5 : Code := Code.l c_towpathlaw01_Book_fillAnswer_4
noncomputable def c_towpathlaw01_Book_fillAnswer_6 : Code := Code.l c_towpathlaw01_Book_fillAnswer_5
noncomputable def c_towpathlaw01_Book_fillAnswer_7 : Code := Code.l c_towpathlaw01_Book_fillAnswer_6
noncomputable def r_towpathlaw01_Book_fillAnswer_7 : Array Oper := Code.ops c_towpathlaw01_Book_fillAnswer_7
noncomputable def c_towpathlaw01_Book_fillAnswer_9 : Code := Code.r c_towpathlaw01_Book_fillAnswer_6
noncomputable def c_towpathlaw01_Book_fillAnswer_10 : Code := Code.l c_towpathlaw01_Book_fillAnswer_9
noncomputable def c_towpathlaw01_Book_fillAnswer_11 : Code := Code.r c_towpathlaw01_Book_fillAnswer_9
noncomputable def c_towpathlaw01_Book_fillAnswer_12 : Code := Code.r c_towpathlaw01_Book_fillAnswer_5
noncomputable def c_towpathlaw01_Book_fillAnswer_13 : Code := Code.l c_towpathlaw01_Book_fillAnswer_12
noncomputable def c_towpathlaw01_Book_fillAnswer_14 : Code := Code.l c_towpathlaw01_Book_fillAnswer_13
noncomputable def c_towpathlaw01_Book_fillAnswer_15 : Code := Code.l c_towpathlaw01_Book_fillAnswer_14
noncomputable def r_towpathlaw01_Book_fillAnswer_15 : Array Oper := Code.ops c_towpathlaw01_Book_fillAnswer_15
noncomputable def c_towpathlaw01_Book_fillAnswer_17 : Code := Code.r c_towpathlaw01_Book_fillAnswer_14
noncomputable def c_towpathlaw01_Book_fillAnswer_18 : Code := Code.l c_towpathlaw01_Book_fillAnswer_17
noncomputable def r_towpathlaw01_Book_fillAnswer_18 : Array Oper := Code.ops c_towpathlaw01_Book_fillAnswer_18
noncomputable def c_towpathlaw01_Book_fillAnswer_20 : Code := Code.r c_towpathlaw01_Book_fillAnswer_17
noncomputable def c_towpathlaw01_Book_fillAnswer_21 : Code := Code.l c_towpathlaw01_Book_fillAnswer_20
noncomputable def c_towpathlaw01_Book_fillAnswer_22 : Code := Code.l c_towpathlaw01_Book_fillAnswer_21
noncomputable def c_towpathlaw01_Book_fillAnswer_23 : Code := Code.l c_towpathlaw01_Book_fillAnswer_22
noncomputable def c_towpathlaw01_Book_fillAnswer_24 : Code := Code.l c_towpathlaw01_Book_fillAnswer_23
noncomputable def r_towpathlaw01_Book_fillAnswer_24 : Array Oper := Code.ops c_towpathlaw01_Book_fillAnswer_24
noncomputable def c_towpathlaw01_Book_fillAnswer_26 : Code := Code.r c_towpathlaw01_Book_fillAnswer_23
noncomputable def c_towpathlaw01_Book_fillAnswer_27 : Code := Code.l c_towpathlaw01_Book_fillAnswer_26
noncomputable def c_towpathlaw01_Book_fillAnswer_28 : Code := Code.r c_towpathlaw01_Book_fillAnswer_26
noncomputable def c_towpathlaw01_Book_fillAnswer_29 : Code := Code.r c_towpathlaw01_Book_fillAnswer_22
noncomputable def c_towpathlaw01_Book_fillAnswer_30 : Code := Code.l c_towpathlaw01_Book_fillAnswer_29
noncomputable def c_towpathlaw01_Book_fillAnswer_31 : Code := Code.l c_towpathlaw01_Book_fillAnswer_30
noncomputable def r_towpathlaw01_Book_fillAnswer_31 : Array Oper := Code.ops c_towpathlaw01_Book_fillAnswer_31
noncomputable def c_towpathlaw01_Book_fillAnswer_33 : Code := Code.r c_towpathlaw01_Book_fillAnswer_29
noncomputable def r_towpathlaw01_Book_fillAnswer_33 : Array Oper := Code.ops c_towpathlaw01_Book_fillAnswer_33
noncomputable def c_towpathlaw01_Book_fillAnswer_35 : Code := Code.r c_towpathlaw01_Book_fillAnswer_12
noncomputable def r_towpathlaw01_Book_fillAnswer_35 : Array Oper := Code.ops c_towpathlaw01_Book_fillAnswer_35

set_option maxRecDepth 100000 in
set_option maxHeartbeats 4000000 in
theorem S_towpathlaw01_Book_fillAnswer {b_ : Option Addr} {w : World} {R : World → Prop} (h : F_towpathlaw01_Book_fillAnswer b_ R w) : C_towpathlaw01_Book_fillAnswer b_ w R := by
  unfold F_towpathlaw01_Book_fillAnswer at h
  unfold C_towpathlaw01_Book_fillAnswer
  refine Calls.mono (calls_of_wpE (args := [Value.pointer b_]) (R := fun v w' => v = Value.tuple #[] ∧ R w') Tryd.func40 (c := c_towpathlaw01_Book_fillAnswer_0) (by kernel_rfl) 35 (by kernel_rfl) (by kernel_rfl) [(0, Value.pointer b_)] (by kernel_rfl) ?_) ?_
  · refine wpE_seq (x := c_towpathlaw01_Book_fillAnswer_1) (y := c_towpathlaw01_Book_fillAnswer_3) (by kernel_rfl) ?_
    refine wpE_region (id := 0) (ops := r_towpathlaw01_Book_fillAnswer_1) (by kernel_rfl) ?_
    refine reg_run [.plain] 1 [(0, [], Value.pointer b_), (2, [], Value.int .i64 0)] (by kernel_rfl) (by kernel_rfl) ?_
    refine reg_end [(0, Value.pointer b_), (2, Value.int .i64 0)] (by kernel_rfl) (by kernel_rfl) ?_
    change WpE _ _ c_towpathlaw01_Book_fillAnswer_3 _ _ _
    refine wpE_block (id := 0) (x := c_towpathlaw01_Book_fillAnswer_4) (by kernel_rfl) ?_
    obtain ⟨I, μ, h0, hr⟩ := h
    refine wpE_loop (x := c_towpathlaw01_Book_fillAnswer_5) (by kernel_rfl) (fun m l w => ∃ (i : Int), l = [(0, Value.pointer b_), (2, Value.int .i64 i)] ∧ I i w ∧ μ i w = m) (l' := [(0, Value.pointer b_), (2, Value.int .i64 0)]) (Sub.mk (by kernel_rfl)) ⟨0, rfl, h0, rfl⟩ ?_
    rintro _ _ w1 ⟨i, rfl, hI, rfl⟩
    obtain ⟨again_, again__h, h⟩ : ∃ again_ : Int → World → Prop, (∀ i' w', again_ i' w' → I i' w' ∧ μ i' w' < μ i w1) ∧ F_towpathlaw01_Book_fillAnswer_L0 b_ R again_ i w1 := ⟨_, fun _ _ h => h, hr i w1 hI⟩
    clear h0 hI
    unfold F_towpathlaw01_Book_fillAnswer_L0 at h
    refine wpE_seq (x := c_towpathlaw01_Book_fillAnswer_6) (y := c_towpathlaw01_Book_fillAnswer_12) (by kernel_rfl) ?_
    refine wpE_seq (x := c_towpathlaw01_Book_fillAnswer_7) (y := c_towpathlaw01_Book_fillAnswer_9) (by kernel_rfl) ?_
    refine wpE_region (id := 1) (ops := r_towpathlaw01_Book_fillAnswer_7) (by kernel_rfl) ?_
    refine reg_run [.plain, .plain] 2 [(0, [], Value.pointer b_), (2, [], Value.int .i64 i), (5, [], Value.int .i64 i), (6, [], Value.pointer b_)] (by kernel_rfl) (by kernel_rfl) ?_
    obtain ⟨hp_3, h⟩ := h
    refine reg_conv [(0, [], Value.pointer b_), (2, [], Value.int .i64 i), (5, [], Value.int .i64 i), (6, [], Value.pointer (some ⟨(pblk b_), (poff b_), none⟩))] (congrArg (fun pp => ([(0, [], Value.pointer b_), (2, [], Value.int .i64 i), (5, [], Value.int .i64 i), (6, [], Value.pointer pp)] : GEnv)) hp_3) ?_
    refine reg_run [.plain] 3 [(0, [], Value.pointer b_), (2, [], Value.int .i64 i), (5, [], Value.int .i64 i), (6, [], Value.pointer (some ⟨(pblk b_), (poff b_), none⟩)), (7, [], Value.pointer (some ⟨(pblk b_), (poff b_), none⟩))] (by kernel_rfl) (by kernel_rfl) ?_
    refine reg_run [.plain] 4 [(0, [], Value.pointer b_), (2, [], Value.int .i64 i), (5, [], Value.int .i64 i), (8, [], Value.pointer (some ⟨(pblk b_), (poff b_) + 11, none⟩))] (by kernel_rfl) (by kernel_rfl) ?_
    obtain ⟨v9, hc, h⟩ := h
    refine reg_load1 (t := 44) (a := (Go.Operand.tmp 8)) (b := (pblk b_)) (o := ((poff b_) + 11)) (ty := 44) (dst := some 9) (by kernel_rfl) (by kernel_rfl) (by kernel_rfl) hc ?_
    refine reg_run [.plain, .plain] 7 [(0, [], Value.pointer b_), (2, [], Value.int .i64 i), (11, [], Value.bool (decide (i < ((v9.len : Nat) : Int))))] (by kernel_rfl) (by kernel_rfl) ?_
    refine reg_end [(0, Value.pointer b_), (2, Value.int .i64 i), (11, Value.bool (decide (i < ((v9.len : Nat) : Int))))] (by kernel_rfl) (by kernel_rfl) ?_
    change WpE _ _ c_towpathlaw01_Book_fillAnswer_9 _ _ _
    refine wpE_cond (o := (Operand.tmp 11)) (b := (decide (i < ((v9.len : Nat) : Int)))) (x := c_towpathlaw01_Book_fillAnswer_10) (y := c_towpathlaw01_Book_fillAnswer_11) (by kernel_rfl) (by kernel_rfl) (fun hb => ?_) (fun hb => ?_)
    · replace h := h.1 hb
      exact h.elim
    · replace h := h.2 hb
      refine wpE_exit (id := 0) (by kernel_rfl) ?_
      repeat (first | refine seqQ_exit ?_ | refine loopQ_exit ?_ | refine cutQ_exit ?_ | refine blockQ_hit ?_ | refine blockQ_miss (by kernel_rfl) ?_)
      refine retQ_normal ?_
      repeat (first | refine seqQ_ret ?_ | refine blockQ_ret ?_ | refine loopQ_ret ?_ | refine cutQ_ret ?_)
      exact retT (rs := []) (vs := []) (by kernel_rfl) (trivial) (by kernel_rfl) ⟨rfl, h⟩
  · rintro e w' ⟨v, rfl, rfl, h⟩; exact ⟨rfl, h⟩

/-! ### (*towpath/towpathlaw01.Book).growByte (function 41) -/
noncomputable def c_towpathlaw01_Book_growByte_0 : Code := (Tryd.f41.body).getD Code.skip
noncomputable def c_towpathlaw01_Book_growByte_1 : Code := Code.l c_towpathlaw01_Book_growByte_0
noncomputable def r_towpathlaw01_Book_growByte_1 : Array Oper := Code.ops c_towpathlaw01_Book_growByte_1
noncomputable def c_towpathlaw01_Book_growByte_3 : Code := Code.r c_towpathlaw01_Book_growByte_0
noncomputable def c_towpathlaw01_Book_growByte_4 : Code := Code.l c_towpathlaw01_Book_growByte_3
noncomputable def c_towpathlaw01_Book_growByte_5 : Code := Code.l c_towpathlaw01_Book_growByte_4
noncomputable def c_towpathlaw01_Book_growByte_6 : Code := Code.l c_towpathlaw01_Book_growByte_5
noncomputable def c_towpathlaw01_Book_growByte_7 : Code := Code.l c_towpathlaw01_Book_growByte_6
noncomputable def r_towpathlaw01_Book_growByte_7 : Array Oper := Code.ops c_towpathlaw01_Book_growByte_7
noncomputable def c_towpathlaw01_Book_growByte_9 : Code := Code.r c_towpathlaw01_Book_growByte_6
noncomputable def c_towpathlaw01_Book_growByte_10 : Code := Code.l c_towpathlaw01_Book_growByte_9
noncomputable def c_towpathlaw01_Book_growByte_11 : Code := Code.r c_towpathlaw01_Book_growByte_9
noncomputable def c_towpathlaw01_Book_growByte_12 : Code := Code.r c_towpathlaw01_Book_growByte_5
noncomputable def c_towpathlaw01_Book_growByte_13 : Code := Code.l c_towpathlaw01_Book_growByte_12
noncomputable def c_towpathlaw01_Book_growByte_14 : Code := Code.l c_towpathlaw01_Book_growByte_13
noncomputable def c_towpathlaw01_Book_growByte_15 : Code := Code.l c_towpathlaw01_Book_growByte_14
noncomputable def r_towpathlaw01_Book_growByte_15 : Array Oper := Code.ops c_towpathlaw01_Book_growByte_15
noncomputable def c_towpathlaw01_Book_growByte_17 : Code := Code.r c_towpathlaw01_Book_growByte_14
noncomputable def c_towpathlaw01_Book_growByte_18 : Code := Code.l c_towpathlaw01_Book_growByte_17
noncomputable def r_towpathlaw01_Book_growByte_18 : Array Oper := Code.ops c_towpathlaw01_Book_growByte_18
noncomputable def c_towpathlaw01_Book_growByte_20 : Code := Code.r c_towpathlaw01_Book_growByte_17
noncomputable def c_towpathlaw01_Book_growByte_21 : Code := Code.l c_towpathlaw01_Book_growByte_20
noncomputable def c_towpathlaw01_Book_growByte_22 : Code := Code.l c_towpathlaw01_Book_growByte_21
noncomputable def r_towpathlaw01_Book_growByte_22 : Array Oper := Code.ops c_towpathlaw01_Book_growByte_22
noncomputable def c_towpathlaw01_Book_growByte_24 : Code := Code.r c_towpathlaw01_Book_growByte_21
noncomputable def c_towpathlaw01_Book_growByte_25 : Code := Code.l c_towpathlaw01_Book_growByte_24
noncomputable def c_towpathlaw01_Book_growByte_26 : Code := Code.l c_towpathlaw01_Book_growByte_25
noncomputable def c_towpathlaw01_Book_growByte_27 : Code := Code.l c_towpathlaw01_Book_growByte_26
noncomputable def c_towpathlaw01_Book_growByte_28 : Code := Code.l c_towpathlaw01_Book_growByte_27
noncomputable def r_towpathlaw01_Book_growByte_28 : Array Oper := Code.ops c_towpathlaw01_Book_growByte_28
noncomputable def c_towpathlaw01_Book_growByte_30 : Code := Code.r c_towpathlaw01_Book_growByte_27
noncomputable def c_towpathlaw01_Book_growByte_31 : Code := Code.l c_towpathlaw01_Book_growByte_30
noncomputable def c_towpathlaw01_Book_growByte_32 : Code := Code.r c_towpathlaw01_Book_growByte_30
noncomputable def c_towpathlaw01_Book_growByte_33 : Code := Code.r c_towpathlaw01_Book_growByte_26
noncomputable def c_towpathlaw01_Book_growByte_34 : Code := Code.l c_towpathlaw01_Book_growByte_33
noncomputable def c_towpathlaw01_Book_growByte_35 : Code := Code.l c_towpathlaw01_Book_growByte_34
noncomputable def r_towpathlaw01_Book_growByte_35 : Array Oper := Code.ops c_towpathlaw01_Book_growByte_35
noncomputable def c_towpathlaw01_Book_growByte_37 : Code := Code.r c_towpathlaw01_Book_growByte_33
noncomputable def r_towpathlaw01_Book_growByte_37 : Array Oper := Code.ops c_towpathlaw01_Book_growByte_37
noncomputable def c_towpathlaw01_Book_growByte_39 : Code := Code.r c_towpathlaw01_Book_growByte_20
noncomputable def r_towpathlaw01_Book_growByte_39 : Array Oper := Code.ops c_towpathlaw01_Book_growByte_39
noncomputable def c_towpathlaw01_Book_growByte_41 : Code := Code.r c_towpathlaw01_Book_growByte_12
noncomputable def r_towpathlaw01_Book_growByte_41 : Array Oper := Code.ops c_towpathlaw01_Book_growByte_41

set_option maxRecDepth 100000 in
set_option maxHeartbeats 4000000 in
theorem S_towpathlaw01_Book_growByte {b_ : Option Addr} {w : World} {R : World → Prop} (h : F_towpathlaw01_Book_growByte b_ R w) : C_towpathlaw01_Book_growByte b_ w R := by
  unfold F_towpathlaw01_Book_growByte at h
  unfold C_towpathlaw01_Book_growByte
  refine Calls.mono (calls_of_wpE (args := [Value.pointer b_]) (R := fun v w' => v = Value.tuple #[] ∧ R w') Tryd.func41 (c := c_towpathlaw01_Book_growByte_0) (by kernel_rfl) 42 (by kernel_rfl) (by kernel_rfl) [(0, Value.pointer b_)] (by kernel_rfl) ?_) ?_
  · refine wpE_seq (x := c_towpathlaw01_Book_growByte_1) (y := c_towpathlaw01_Book_growByte_3) (by kernel_rfl) ?_
    refine wpE_region (id := 0) (ops := r_towpathlaw01_Book_growByte_1) (by kernel_rfl) ?_
    refine reg_run [.plain] 1 [(0, [], Value.pointer b_), (2, [], Value.int .i64 0)] (by kernel_rfl) (by kernel_rfl) ?_
    refine reg_end [(0, Value.pointer b_), (2, Value.int .i64 0)] (by kernel_rfl) (by kernel_rfl) ?_
    change WpE _ _ c_towpathlaw01_Book_growByte_3 _ _ _
    refine wpE_block (id := 0) (x := c_towpathlaw01_Book_growByte_4) (by kernel_rfl) ?_
    obtain ⟨I, μ, h0, hr⟩ := h
    refine wpE_loop (x := c_towpathlaw01_Book_growByte_5) (by kernel_rfl) (fun m l w => ∃ (i : Int), l = [(0, Value.pointer b_), (2, Value.int .i64 i)] ∧ I i w ∧ μ i w = m) (l' := [(0, Value.pointer b_), (2, Value.int .i64 0)]) (Sub.mk (by kernel_rfl)) ⟨0, rfl, h0, rfl⟩ ?_
    rintro _ _ w1 ⟨i, rfl, hI, rfl⟩
    obtain ⟨again_, again__h, h⟩ : ∃ again_ : Int → World → Prop, (∀ i' w', again_ i' w' → I i' w' ∧ μ i' w' < μ i w1) ∧ F_towpathlaw01_Book_growByte_L0 b_ R again_ i w1 := ⟨_, fun _ _ h => h, hr i w1 hI⟩
    clear h0 hI
    unfold F_towpathlaw01_Book_growByte_L0 at h
    refine wpE_seq (x := c_towpathlaw01_Book_growByte_6) (y := c_towpathlaw01_Book_growByte_12) (by kernel_rfl) ?_
    refine wpE_seq (x := c_towpathlaw01_Book_growByte_7) (y := c_towpathlaw01_Book_growByte_9) (by kernel_rfl) ?_
    refine wpE_region (id := 1) (ops := r_towpathlaw01_Book_growByte_7) (by kernel_rfl) ?_
    refine reg_run [.plain, .plain] 2 [(0, [], Value.pointer b_), (2, [], Value.int .i64 i), (6, [], Value.int .i64 i), (7, [], Value.pointer b_)] (by kernel_rfl) (by kernel_rfl) ?_
    obtain ⟨hp_3, h⟩ := h
    refine reg_conv [(0, [], Value.pointer b_), (2, [], Value.int .i64 i), (6, [], Value.int .i64 i), (7, [], Value.pointer (some ⟨(pblk b_), (poff b_), none⟩))] (congrArg (fun pp => ([(0, [], Value.pointer b_), (2, [], Value.int .i64 i), (6, [], Value.int .i64 i), (7, [], Value.pointer pp)] : GEnv)) hp_3) ?_
    refine reg_run [.plain] 3 [(0, [], Value.pointer b_), (2, [], Value.int .i64 i), (6, [], Value.int .i64 i), (7, [], Value.pointer (some ⟨(pblk b_), (poff b_), none⟩)), (8, [], Value.pointer (some ⟨(pblk b_), (poff b_), none⟩))] (by kernel_rfl) (by kernel_rfl) ?_
    refine reg_run [.plain] 4 [(0, [], Value.pointer b_), (2, [], Value.int .i64 i), (6, [], Value.int .i64 i), (9, [], Value.pointer (some ⟨(pblk b_), (poff b_) + 1, none⟩))] (by kernel_rfl) (by kernel_rfl) ?_
    obtain ⟨v10, hc, h⟩ := h
    refine reg_load1 (t := 34) (a := (Go.Operand.tmp 9)) (b := (pblk b_)) (o := ((poff b_) + 1)) (ty := 34) (dst := some 10) (by kernel_rfl) (by kernel_rfl) (by kernel_rfl) hc ?_
    refine reg_run [.plain, .plain] 7 [(0, [], Value.pointer b_), (2, [], Value.int .i64 i), (12, [], Value.bool (decide (i < ((v10.len : Nat) : Int))))] (by kernel_rfl) (by kernel_rfl) ?_
    refine reg_end [(0, Value.pointer b_), (2, Value.int .i64 i), (12, Value.bool (decide (i < ((v10.len : Nat) : Int))))] (by kernel_rfl) (by kernel_rfl) ?_
    change WpE _ _ c_towpathlaw01_Book_growByte_9 _ _ _
    refine wpE_cond (o := (Operand.tmp 12)) (b := (decide (i < ((v10.len : Nat) : Int)))) (x := c_towpathlaw01_Book_growByte_10) (y := c_towpathlaw01_Book_growByte_11) (by kernel_rfl) (by kernel_rfl) (fun hb => ?_) (fun hb => ?_)
    · replace h := h.1 hb
      exact h.elim
    · replace h := h.2 hb
      refine wpE_exit (id := 0) (by kernel_rfl) ?_
      repeat (first | refine seqQ_exit ?_ | refine loopQ_exit ?_ | refine cutQ_exit ?_ | refine blockQ_hit ?_ | refine blockQ_miss (by kernel_rfl) ?_)
      refine retQ_normal ?_
      repeat (first | refine seqQ_ret ?_ | refine blockQ_ret ?_ | refine loopQ_ret ?_ | refine cutQ_ret ?_)
      exact retT (rs := []) (vs := []) (by kernel_rfl) (trivial) (by kernel_rfl) ⟨rfl, h⟩
  · rintro e w' ⟨v, rfl, rfl, h⟩; exact ⟨rfl, h⟩

/-! ### (*towpath/towpathlaw01.Book).growInt (function 42) -/
noncomputable def c_towpathlaw01_Book_growInt_0 : Code := (Tryd.f42.body).getD Code.skip
noncomputable def c_towpathlaw01_Book_growInt_1 : Code := Code.l c_towpathlaw01_Book_growInt_0
noncomputable def r_towpathlaw01_Book_growInt_1 : Array Oper := Code.ops c_towpathlaw01_Book_growInt_1
noncomputable def c_towpathlaw01_Book_growInt_3 : Code := Code.r c_towpathlaw01_Book_growInt_0
noncomputable def c_towpathlaw01_Book_growInt_4 : Code := Code.l c_towpathlaw01_Book_growInt_3
noncomputable def c_towpathlaw01_Book_growInt_5 : Code := Code.l c_towpathlaw01_Book_growInt_4
noncomputable def c_towpathlaw01_Book_growInt_6 : Code := Code.l c_towpathlaw01_Book_growInt_5
noncomputable def c_towpathlaw01_Book_growInt_7 : Code := Code.l c_towpathlaw01_Book_growInt_6
noncomputable def r_towpathlaw01_Book_growInt_7 : Array Oper := Code.ops c_towpathlaw01_Book_growInt_7
noncomputable def c_towpathlaw01_Book_growInt_9 : Code := Code.r c_towpathlaw01_Book_growInt_6
noncomputable def c_towpathlaw01_Book_growInt_10 : Code := Code.l c_towpathlaw01_Book_growInt_9
noncomputable def c_towpathlaw01_Book_growInt_11 : Code := Code.r c_towpathlaw01_Book_growInt_9
noncomputable def c_towpathlaw01_Book_growInt_12 : Code := Code.r c_towpathlaw01_Book_growInt_5
noncomputable def c_towpathlaw01_Book_growInt_13 : Code := Code.l c_towpathlaw01_Book_growInt_12
noncomputable def c_towpathlaw01_Book_growInt_14 : Code := Code.l c_towpathlaw01_Book_growInt_13
noncomputable def c_towpathlaw01_Book_growInt_15 : Code := Code.l c_towpathlaw01_Book_growInt_14
noncomputable def r_towpathlaw01_Book_growInt_15 : Array Oper := Code.ops c_towpathlaw01_Book_growInt_15
noncomputable def c_towpathlaw01_Book_growInt_17 : Code := Code.r c_towpathlaw01_Book_growInt_14
noncomputable def c_towpathlaw01_Book_growInt_18 : Code := Code.l c_towpathlaw01_Book_growInt_17
noncomputable def r_towpathlaw01_Book_growInt_18 : Array Oper := Code.ops c_towpathlaw01_Book_growInt_18
noncomputable def c_towpathlaw01_Book_growInt_20 : Code := Code.r c_towpathlaw01_Book_growInt_17
noncomputable def c_towpathlaw01_Book_growInt_21 : Code := Code.l c_towpathlaw01_Book_growInt_20
noncomputable def c_towpathlaw01_Book_growInt_22 : Code := Code.l c_towpathlaw01_Book_growInt_21
noncomputable def r_towpathlaw01_Book_growInt_22 : Array Oper := Code.ops c_towpathlaw01_Book_growInt_22
noncomputable def c_towpathlaw01_Book_growInt_24 : Code := Code.r c_towpathlaw01_Book_growInt_21
noncomputable def c_towpathlaw01_Book_growInt_25 : Code := Code.l c_towpathlaw01_Book_growInt_24
noncomputable def c_towpathlaw01_Book_growInt_26 : Code := Code.l c_towpathlaw01_Book_growInt_25
noncomputable def c_towpathlaw01_Book_growInt_27 : Code := Code.l c_towpathlaw01_Book_growInt_26
noncomputable def c_towpathlaw01_Book_growInt_28 : Code := Code.l c_towpathlaw01_Book_growInt_27
noncomputable def r_towpathlaw01_Book_growInt_28 : Array Oper := Code.ops c_towpathlaw01_Book_growInt_28
noncomputable def c_towpathlaw01_Book_growInt_30 : Code := Code.r c_towpathlaw01_Book_growInt_27
noncomputable def c_towpathlaw01_Book_growInt_31 : Code := Code.l c_towpathlaw01_Book_growInt_30
noncomputable def c_towpathlaw01_Book_growInt_32 : Code := Code.r c_towpathlaw01_Book_growInt_30
noncomputable def c_towpathlaw01_Book_growInt_33 : Code := Code.r c_towpathlaw01_Book_growInt_26
noncomputable def c_towpathlaw01_Book_growInt_34 : Code := Code.l c_towpathlaw01_Book_growInt_33
noncomputable def c_towpathlaw01_Book_growInt_35 : Code := Code.l c_towpathlaw01_Book_growInt_34
noncomputable def r_towpathlaw01_Book_growInt_35 : Array Oper := Code.ops c_towpathlaw01_Book_growInt_35
noncomputable def c_towpathlaw01_Book_growInt_37 : Code := Code.r c_towpathlaw01_Book_growInt_33
noncomputable def r_towpathlaw01_Book_growInt_37 : Array Oper := Code.ops c_towpathlaw01_Book_growInt_37
noncomputable def c_towpathlaw01_Book_growInt_39 : Code := Code.r c_towpathlaw01_Book_growInt_20
noncomputable def r_towpathlaw01_Book_growInt_39 : Array Oper := Code.ops c_towpathlaw01_Book_growInt_39
noncomputable def c_towpathlaw01_Book_growInt_41 : Code := Code.r c_towpathlaw01_Book_growInt_12
noncomputable def r_towpathlaw01_Book_growInt_41 : Array Oper := Code.ops c_towpathlaw01_Book_growInt_41

set_option maxRecDepth 100000 in
set_option maxHeartbeats 4000000 in
theorem S_towpathlaw01_Book_growInt {b_ : Option Addr} {w : World} {R : World → Prop} (h : F_towpathlaw01_Book_growInt b_ R w) : C_towpathlaw01_Book_growInt b_ w R := by
  unfold F_towpathlaw01_Book_growInt at h
  unfold C_towpathlaw01_Book_growInt
  refine Calls.mono (calls_of_wpE (args := [Value.pointer b_]) (R := fun v w' => v = Value.tuple #[] ∧ R w') Tryd.func42 (c := c_towpathlaw01_Book_growInt_0) (by kernel_rfl) 42 (by kernel_rfl) (by kernel_rfl) [(0, Value.pointer b_)] (by kernel_rfl) ?_) ?_
  · refine wpE_seq (x := c_towpathlaw01_Book_growInt_1) (y := c_towpathlaw01_Book_growInt_3) (by kernel_rfl) ?_
    refine wpE_region (id := 0) (ops := r_towpathlaw01_Book_growInt_1) (by kernel_rfl) ?_
    refine reg_run [.plain] 1 [(0, [], Value.pointer b_), (2, [], Value.int .i64 0)] (by kernel_rfl) (by kernel_rfl) ?_
    refine reg_end [(0, Value.pointer b_), (2, Value.int .i64 0)] (by kernel_rfl) (by kernel_rfl) ?_
    change WpE _ _ c_towpathlaw01_Book_growInt_3 _ _ _
    refine wpE_block (id := 0) (x := c_towpathlaw01_Book_growInt_4) (by kernel_rfl) ?_
    obtain ⟨I, μ, h0, hr⟩ := h
    refine wpE_loop (x := c_towpathlaw01_Book_growInt_5) (by kernel_rfl) (fun m l w => ∃ (i : Int), l = [(0, Value.pointer b_), (2, Value.int .i64 i)] ∧ I i w ∧ μ i w = m) (l' := [(0, Value.pointer b_), (2, Value.int .i64 0)]) (Sub.mk (by kernel_rfl)) ⟨0, rfl, h0, rfl⟩ ?_
    rintro _ _ w1 ⟨i, rfl, hI, rfl⟩
    obtain ⟨again_, again__h, h⟩ : ∃ again_ : Int → World → Prop, (∀ i' w', again_ i' w' → I i' w' ∧ μ i' w' < μ i w1) ∧ F_towpathlaw01_Book_growInt_L0 b_ R again_ i w1 := ⟨_, fun _ _ h => h, hr i w1 hI⟩
    clear h0 hI
    unfold F_towpathlaw01_Book_growInt_L0 at h
    refine wpE_seq (x := c_towpathlaw01_Book_growInt_6) (y := c_towpathlaw01_Book_growInt_12) (by kernel_rfl) ?_
    refine wpE_seq (x := c_towpathlaw01_Book_growInt_7) (y := c_towpathlaw01_Book_growInt_9) (by kernel_rfl) ?_
    refine wpE_region (id := 1) (ops := r_towpathlaw01_Book_growInt_7) (by kernel_rfl) ?_
    refine reg_run [.plain, .plain] 2 [(0, [], Value.pointer b_), (2, [], Value.int .i64 i), (6, [], Value.int .i64 i), (7, [], Value.pointer b_)] (by kernel_rfl) (by kernel_rfl) ?_
    obtain ⟨hp_3, h⟩ := h
    refine reg_conv [(0, [], Value.pointer b_), (2, [], Value.int .i64 i), (6, [], Value.int .i64 i), (7, [], Value.pointer (some ⟨(pblk b_), (poff b_), none⟩))] (congrArg (fun pp => ([(0, [], Value.pointer b_), (2, [], Value.int .i64 i), (6, [], Value.int .i64 i), (7, [], Value.pointer pp)] : GEnv)) hp_3) ?_
    refine reg_run [.plain] 3 [(0, [], Value.pointer b_), (2, [], Value.int .i64 i), (6, [], Value.int .i64 i), (7, [], Value.pointer (some ⟨(pblk b_), (poff b_), none⟩)), (8, [], Value.pointer (some ⟨(pblk b_), (poff b_), none⟩))] (by kernel_rfl) (by kernel_rfl) ?_
    refine reg_run [.plain] 4 [(0, [], Value.pointer b_), (2, [], Value.int .i64 i), (6, [], Value.int .i64 i), (9, [], Value.pointer (some ⟨(pblk b_), (poff b_) + 2, none⟩))] (by kernel_rfl) (by kernel_rfl) ?_
    obtain ⟨v10, hc, h⟩ := h
    refine reg_load1 (t := 35) (a := (Go.Operand.tmp 9)) (b := (pblk b_)) (o := ((poff b_) + 2)) (ty := 35) (dst := some 10) (by kernel_rfl) (by kernel_rfl) (by kernel_rfl) hc ?_
    refine reg_run [.plain, .plain] 7 [(0, [], Value.pointer b_), (2, [], Value.int .i64 i), (12, [], Value.bool (decide (i < ((v10.len : Nat) : Int))))] (by kernel_rfl) (by kernel_rfl) ?_
    refine reg_end [(0, Value.pointer b_), (2, Value.int .i64 i), (12, Value.bool (decide (i < ((v10.len : Nat) : Int))))] (by kernel_rfl) (by kernel_rfl) ?_
    change WpE _ _ c_towpathlaw01_Book_growInt_9 _ _ _
    refine wpE_cond (o := (Operand.tmp 12)) (b := (decide (i < ((v10.len : Nat) : Int)))) (x := c_towpathlaw01_Book_growInt_10) (y := c_towpathlaw01_Book_growInt_11) (by kernel_rfl) (by kernel_rfl) (fun hb => ?_) (fun hb => ?_)
    · replace h := h.1 hb
      exact h.elim
    · replace h := h.2 hb
      refine wpE_exit (id := 0) (by kernel_rfl) ?_
      repeat (first | refine seqQ_exit ?_ | refine loopQ_exit ?_ | refine cutQ_exit ?_ | refine blockQ_hit ?_ | refine blockQ_miss (by kernel_rfl) ?_)
      refine retQ_normal ?_
      repeat (first | refine seqQ_ret ?_ | refine blockQ_ret ?_ | refine loopQ_ret ?_ | refine cutQ_ret ?_)
      exact retT (rs := []) (vs := []) (by kernel_rfl) (trivial) (by kernel_rfl) ⟨rfl, h⟩
  · rintro e w' ⟨v, rfl, rfl, h⟩; exact ⟨rfl, h⟩

/-! ### (*towpath/towpathlaw01.Book).growText (function 43) -/
noncomputable def c_towpathlaw01_Book_growText_0 : Code := (Tryd.f43.body).getD Code.skip
noncomputable def c_towpathlaw01_Book_growText_1 : Code := Code.l c_towpathlaw01_Book_growText_0
noncomputable def r_towpathlaw01_Book_growText_1 : Array Oper := Code.ops c_towpathlaw01_Book_growText_1
noncomputable def c_towpathlaw01_Book_growText_3 : Code := Code.r c_towpathlaw01_Book_growText_0
noncomputable def c_towpathlaw01_Book_growText_4 : Code := Code.l c_towpathlaw01_Book_growText_3
noncomputable def c_towpathlaw01_Book_growText_5 : Code := Code.l c_towpathlaw01_Book_growText_4
noncomputable def c_towpathlaw01_Book_growText_6 : Code := Code.l c_towpathlaw01_Book_growText_5
noncomputable def c_towpathlaw01_Book_growText_7 : Code := Code.l c_towpathlaw01_Book_growText_6
noncomputable def r_towpathlaw01_Book_growText_7 : Array Oper := Code.ops c_towpathlaw01_Book_growText_7
noncomputable def c_towpathlaw01_Book_growText_9 : Code := Code.r c_towpathlaw01_Book_growText_6
noncomputable def c_towpathlaw01_Book_growText_10 : Code := Code.l c_towpathlaw01_Book_growText_9
noncomputable def c_towpathlaw01_Book_growText_11 : Code := Code.r c_towpathlaw01_Book_growText_9
noncomputable def c_towpathlaw01_Book_growText_12 : Code := Code.r c_towpathlaw01_Book_growText_5
noncomputable def c_towpathlaw01_Book_growText_13 : Code := Code.l c_towpathlaw01_Book_growText_12
noncomputable def c_towpathlaw01_Book_growText_14 : Code := Code.l c_towpathlaw01_Book_growText_13
noncomputable def c_towpathlaw01_Book_growText_15 : Code := Code.l c_towpathlaw01_Book_growText_14
noncomputable def r_towpathlaw01_Book_growText_15 : Array Oper := Code.ops c_towpathlaw01_Book_growText_15
noncomputable def c_towpathlaw01_Book_growText_17 : Code := Code.r c_towpathlaw01_Book_growText_14
noncomputable def c_towpathlaw01_Book_growText_18 : Code := Code.l c_towpathlaw01_Book_growText_17
noncomputable def r_towpathlaw01_Book_growText_18 : Array Oper := Code.ops c_towpathlaw01_Book_growText_18
noncomputable def c_towpathlaw01_Book_growText_20 : Code := Code.r c_towpathlaw01_Book_growText_17
noncomputable def c_towpathlaw01_Book_growText_21 : Code := Code.l c_towpathlaw01_Book_growText_20
noncomputable def c_towpathlaw01_Book_growText_22 : Code := Code.l c_towpathlaw01_Book_growText_21
noncomputable def r_towpathlaw01_Book_growText_22 : Array Oper := Code.ops c_towpathlaw01_Book_growText_22
noncomputable def c_towpathlaw01_Book_growText_24 : Code := Code.r c_towpathlaw01_Book_growText_21
noncomputable def c_towpathlaw01_Book_growText_25 : Code := Code.l c_towpathlaw01_Book_growText_24
noncomputable def c_towpathlaw01_Book_growText_26 : Code := Code.l c_towpathlaw01_Book_growText_25
noncomputable def c_towpathlaw01_Book_growText_27 : Code := Code.l c_towpathlaw01_Book_growText_26
noncomputable def c_towpathlaw01_Book_growText_28 : Code := Code.l c_towpathlaw01_Book_growText_27
noncomputable def r_towpathlaw01_Book_growText_28 : Array Oper := Code.ops c_towpathlaw01_Book_growText_28
noncomputable def c_towpathlaw01_Book_growText_30 : Code := Code.r c_towpathlaw01_Book_growText_27
noncomputable def c_towpathlaw01_Book_growText_31 : Code := Code.l c_towpathlaw01_Book_growText_30
noncomputable def c_towpathlaw01_Book_growText_32 : Code := Code.r c_towpathlaw01_Book_growText_30
noncomputable def c_towpathlaw01_Book_growText_33 : Code := Code.r c_towpathlaw01_Book_growText_26
noncomputable def c_towpathlaw01_Book_growText_34 : Code := Code.l c_towpathlaw01_Book_growText_33
noncomputable def c_towpathlaw01_Book_growText_35 : Code := Code.l c_towpathlaw01_Book_growText_34
noncomputable def r_towpathlaw01_Book_growText_35 : Array Oper := Code.ops c_towpathlaw01_Book_growText_35
noncomputable def c_towpathlaw01_Book_growText_37 : Code := Code.r c_towpathlaw01_Book_growText_33
noncomputable def r_towpathlaw01_Book_growText_37 : Array Oper := Code.ops c_towpathlaw01_Book_growText_37
noncomputable def c_towpathlaw01_Book_growText_39 : Code := Code.r c_towpathlaw01_Book_growText_20
noncomputable def r_towpathlaw01_Book_growText_39 : Array Oper := Code.ops c_towpathlaw01_Book_growText_39
noncomputable def c_towpathlaw01_Book_growText_41 : Code := Code.r c_towpathlaw01_Book_growText_12
noncomputable def r_towpathlaw01_Book_growText_41 : Array Oper := Code.ops c_towpathlaw01_Book_growText_41

set_option maxRecDepth 100000 in
set_option maxHeartbeats 4000000 in
theorem S_towpathlaw01_Book_growText {b_ : Option Addr} {w : World} {R : World → Prop} (h : F_towpathlaw01_Book_growText b_ R w) : C_towpathlaw01_Book_growText b_ w R := by
  unfold F_towpathlaw01_Book_growText at h
  unfold C_towpathlaw01_Book_growText
  refine Calls.mono (calls_of_wpE (args := [Value.pointer b_]) (R := fun v w' => v = Value.tuple #[] ∧ R w') Tryd.func43 (c := c_towpathlaw01_Book_growText_0) (by kernel_rfl) 42 (by kernel_rfl) (by kernel_rfl) [(0, Value.pointer b_)] (by kernel_rfl) ?_) ?_
  · refine wpE_seq (x := c_towpathlaw01_Book_growText_1) (y := c_towpathlaw01_Book_growText_3) (by kernel_rfl) ?_
    refine wpE_region (id := 0) (ops := r_towpathlaw01_Book_growText_1) (by kernel_rfl) ?_
    refine reg_run [.plain] 1 [(0, [], Value.pointer b_), (2, [], Value.int .i64 0)] (by kernel_rfl) (by kernel_rfl) ?_
    refine reg_end [(0, Value.pointer b_), (2, Value.int .i64 0)] (by kernel_rfl) (by kernel_rfl) ?_
    change WpE _ _ c_towpathlaw01_Book_growText_3 _ _ _
    refine wpE_block (id := 0) (x := c_towpathlaw01_Book_growText_4) (by kernel_rfl) ?_
    obtain ⟨I, μ, h0, hr⟩ := h
    refine wpE_loop (x := c_towpathlaw01_Book_growText_5) (by kernel_rfl) (fun m l w => ∃ (i : Int), l = [(0, Value.pointer b_), (2, Value.int .i64 i)] ∧ I i w ∧ μ i w = m) (l' := [(0, Value.pointer b_), (2, Value.int .i64 0)]) (Sub.mk (by kernel_rfl)) ⟨0, rfl, h0, rfl⟩ ?_
    rintro _ _ w1 ⟨i, rfl, hI, rfl⟩
    obtain ⟨again_, again__h, h⟩ : ∃ again_ : Int → World → Prop, (∀ i' w', again_ i' w' → I i' w' ∧ μ i' w' < μ i w1) ∧ F_towpathlaw01_Book_growText_L0 b_ R again_ i w1 := ⟨_, fun _ _ h => h, hr i w1 hI⟩
    clear h0 hI
    unfold F_towpathlaw01_Book_growText_L0 at h
    refine wpE_seq (x := c_towpathlaw01_Book_growText_6) (y := c_towpathlaw01_Book_growText_12) (by kernel_rfl) ?_
    refine wpE_seq (x := c_towpathlaw01_Book_growText_7) (y := c_towpathlaw01_Book_growText_9) (by kernel_rfl) ?_
    refine wpE_region (id := 1) (ops := r_towpathlaw01_Book_growText_7) (by kernel_rfl) ?_
    refine reg_run [.plain, .plain] 2 [(0, [], Value.pointer b_), (2, [], Value.int .i64 i), (6, [], Value.int .i64 i), (7, [], Value.pointer b_)] (by kernel_rfl) (by kernel_rfl) ?_
    obtain ⟨hp_3, h⟩ := h
    refine reg_conv [(0, [], Value.pointer b_), (2, [], Value.int .i64 i), (6, [], Value.int .i64 i), (7, [], Value.pointer (some ⟨(pblk b_), (poff b_), none⟩))] (congrArg (fun pp => ([(0, [], Value.pointer b_), (2, [], Value.int .i64 i), (6, [], Value.int .i64 i), (7, [], Value.pointer pp)] : GEnv)) hp_3) ?_
    refine reg_run [.plain] 3 [(0, [], Value.pointer b_), (2, [], Value.int .i64 i), (6, [], Value.int .i64 i), (7, [], Value.pointer (some ⟨(pblk b_), (poff b_), none⟩)), (8, [], Value.pointer (some ⟨(pblk b_), (poff b_), none⟩))] (by kernel_rfl) (by kernel_rfl) ?_
    refine reg_run [.plain] 4 [(0, [], Value.pointer b_), (2, [], Value.int .i64 i), (6, [], Value.int .i64 i), (9, [], Value.pointer (some ⟨(pblk b_), (poff b_) + 3, none⟩))] (by kernel_rfl) (by kernel_rfl) ?_
    obtain ⟨v10, hc, h⟩ := h
    refine reg_load1 (t := 36) (a := (Go.Operand.tmp 9)) (b := (pblk b_)) (o := ((poff b_) + 3)) (ty := 36) (dst := some 10) (by kernel_rfl) (by kernel_rfl) (by kernel_rfl) hc ?_
    refine reg_run [.plain, .plain] 7 [(0, [], Value.pointer b_), (2, [], Value.int .i64 i), (12, [], Value.bool (decide (i < ((v10.len : Nat) : Int))))] (by kernel_rfl) (by kernel_rfl) ?_
    refine reg_end [(0, Value.pointer b_), (2, Value.int .i64 i), (12, Value.bool (decide (i < ((v10.len : Nat) : Int))))] (by kernel_rfl) (by kernel_rfl) ?_
    change WpE _ _ c_towpathlaw01_Book_growText_9 _ _ _
    refine wpE_cond (o := (Operand.tmp 12)) (b := (decide (i < ((v10.len : Nat) : Int)))) (x := c_towpathlaw01_Book_growText_10) (y := c_towpathlaw01_Book_growText_11) (by kernel_rfl) (by kernel_rfl) (fun hb => ?_) (fun hb => ?_)
    · replace h := h.1 hb
      exact h.elim
    · replace h := h.2 hb
      refine wpE_exit (id := 0) (by kernel_rfl) ?_
      repeat (first | refine seqQ_exit ?_ | refine loopQ_exit ?_ | refine cutQ_exit ?_ | refine blockQ_hit ?_ | refine blockQ_miss (by kernel_rfl) ?_)
      refine retQ_normal ?_
      repeat (first | refine seqQ_ret ?_ | refine blockQ_ret ?_ | refine loopQ_ret ?_ | refine cutQ_ret ?_)
      exact retT (rs := []) (vs := []) (by kernel_rfl) (trivial) (by kernel_rfl) ⟨rfl, h⟩
  · rintro e w' ⟨v, rfl, rfl, h⟩; exact ⟨rfl, h⟩

/-! ### (*towpath/towpathlaw01.Book).growWrite (function 44) -/
noncomputable def c_towpathlaw01_Book_growWrite_0 : Code := (Tryd.f44.body).getD Code.skip
noncomputable def c_towpathlaw01_Book_growWrite_1 : Code := Code.l c_towpathlaw01_Book_growWrite_0
noncomputable def r_towpathlaw01_Book_growWrite_1 : Array Oper := Code.ops c_towpathlaw01_Book_growWrite_1
noncomputable def c_towpathlaw01_Book_growWrite_3 : Code := Code.r c_towpathlaw01_Book_growWrite_0
noncomputable def c_towpathlaw01_Book_growWrite_4 : Code := Code.l c_towpathlaw01_Book_growWrite_3
noncomputable def c_towpathlaw01_Book_growWrite_5 : Code := Code.l c_towpathlaw01_Book_growWrite_4
noncomputable def c_towpathlaw01_Book_growWrite_6 : Code := Code.l c_towpathlaw01_Book_growWrite_5
noncomputable def c_towpathlaw01_Book_growWrite_7 : Code := Code.l c_towpathlaw01_Book_growWrite_6
noncomputable def r_towpathlaw01_Book_growWrite_7 : Array Oper := Code.ops c_towpathlaw01_Book_growWrite_7
noncomputable def c_towpathlaw01_Book_growWrite_9 : Code := Code.r c_towpathlaw01_Book_growWrite_6
noncomputable def c_towpathlaw01_Book_growWrite_10 : Code := Code.l c_towpathlaw01_Book_growWrite_9
noncomputable def c_towpathlaw01_Book_growWrite_11 : Code := Code.r c_towpathlaw01_Book_growWrite_9
noncomputable def c_towpathlaw01_Book_growWrite_12 : Code := Code.r c_towpathlaw01_Book_growWrite_5
noncomputable def c_towpathlaw01_Book_growWrite_13 : Code := Code.l c_towpathlaw01_Book_growWrite_12
noncomputable def c_towpathlaw01_Book_growWrite_14 : Code := Code.l c_towpathlaw01_Book_growWrite_13
noncomputable def c_towpathlaw01_Book_growWrite_15 : Code := Code.l c_towpathlaw01_Book_growWrite_14
noncomputable def r_towpathlaw01_Book_growWrite_15 : Array Oper := Code.ops c_towpathlaw01_Book_growWrite_15
noncomputable def c_towpathlaw01_Book_growWrite_17 : Code := Code.r c_towpathlaw01_Book_growWrite_14
noncomputable def c_towpathlaw01_Book_growWrite_18 : Code := Code.l c_towpathlaw01_Book_growWrite_17
noncomputable def r_towpathlaw01_Book_growWrite_18 : Array Oper := Code.ops c_towpathlaw01_Book_growWrite_18
noncomputable def c_towpathlaw01_Book_growWrite_20 : Code := Code.r c_towpathlaw01_Book_growWrite_17
noncomputable def c_towpathlaw01_Book_growWrite_21 : Code := Code.l c_towpathlaw01_Book_growWrite_20
noncomputable def c_towpathlaw01_Book_growWrite_22 : Code := Code.l c_towpathlaw01_Book_growWrite_21
noncomputable def r_towpathlaw01_Book_growWrite_22 : Array Oper := Code.ops c_towpathlaw01_Book_growWrite_22
noncomputable def c_towpathlaw01_Book_growWrite_24 : Code := Code.r c_towpathlaw01_Book_growWrite_21
noncomputable def c_towpathlaw01_Book_growWrite_25 : Code := Code.l c_towpathlaw01_Book_growWrite_24
noncomputable def c_towpathlaw01_Book_growWrite_26 : Code := Code.l c_towpathlaw01_Book_growWrite_25
noncomputable def c_towpathlaw01_Book_growWrite_27 : Code := Code.l c_towpathlaw01_Book_growWrite_26
noncomputable def c_towpathlaw01_Book_growWrite_28 : Code := Code.l c_towpathlaw01_Book_growWrite_27
noncomputable def r_towpathlaw01_Book_growWrite_28 : Array Oper := Code.ops c_towpathlaw01_Book_growWrite_28
noncomputable def c_towpathlaw01_Book_growWrite_30 : Code := Code.r c_towpathlaw01_Book_growWrite_27
noncomputable def c_towpathlaw01_Book_growWrite_31 : Code := Code.l c_towpathlaw01_Book_growWrite_30
noncomputable def c_towpathlaw01_Book_growWrite_32 : Code := Code.r c_towpathlaw01_Book_growWrite_30
noncomputable def c_towpathlaw01_Book_growWrite_33 : Code := Code.r c_towpathlaw01_Book_growWrite_26
noncomputable def c_towpathlaw01_Book_growWrite_34 : Code := Code.l c_towpathlaw01_Book_growWrite_33
noncomputable def c_towpathlaw01_Book_growWrite_35 : Code := Code.l c_towpathlaw01_Book_growWrite_34
noncomputable def r_towpathlaw01_Book_growWrite_35 : Array Oper := Code.ops c_towpathlaw01_Book_growWrite_35
noncomputable def c_towpathlaw01_Book_growWrite_37 : Code := Code.r c_towpathlaw01_Book_growWrite_33
noncomputable def r_towpathlaw01_Book_growWrite_37 : Array Oper := Code.ops c_towpathlaw01_Book_growWrite_37
noncomputable def c_towpathlaw01_Book_growWrite_39 : Code := Code.r c_towpathlaw01_Book_growWrite_20
noncomputable def r_towpathlaw01_Book_growWrite_39 : Array Oper := Code.ops c_towpathlaw01_Book_growWrite_39
noncomputable def c_towpathlaw01_Book_growWrite_41 : Code := Code.r c_towpathlaw01_Book_growWrite_12
noncomputable def r_towpathlaw01_Book_growWrite_41 : Array Oper := Code.ops c_towpathlaw01_Book_growWrite_41

set_option maxRecDepth 100000 in
set_option maxHeartbeats 4000000 in
theorem S_towpathlaw01_Book_growWrite {b_ : Option Addr} {w : World} {R : World → Prop} (h : F_towpathlaw01_Book_growWrite b_ R w) : C_towpathlaw01_Book_growWrite b_ w R := by
  unfold F_towpathlaw01_Book_growWrite at h
  unfold C_towpathlaw01_Book_growWrite
  refine Calls.mono (calls_of_wpE (args := [Value.pointer b_]) (R := fun v w' => v = Value.tuple #[] ∧ R w') Tryd.func44 (c := c_towpathlaw01_Book_growWrite_0) (by kernel_rfl) 42 (by kernel_rfl) (by kernel_rfl) [(0, Value.pointer b_)] (by kernel_rfl) ?_) ?_
  · refine wpE_seq (x := c_towpathlaw01_Book_growWrite_1) (y := c_towpathlaw01_Book_growWrite_3) (by kernel_rfl) ?_
    refine wpE_region (id := 0) (ops := r_towpathlaw01_Book_growWrite_1) (by kernel_rfl) ?_
    refine reg_run [.plain] 1 [(0, [], Value.pointer b_), (2, [], Value.int .i64 0)] (by kernel_rfl) (by kernel_rfl) ?_
    refine reg_end [(0, Value.pointer b_), (2, Value.int .i64 0)] (by kernel_rfl) (by kernel_rfl) ?_
    change WpE _ _ c_towpathlaw01_Book_growWrite_3 _ _ _
    refine wpE_block (id := 0) (x := c_towpathlaw01_Book_growWrite_4) (by kernel_rfl) ?_
    obtain ⟨I, μ, h0, hr⟩ := h
    refine wpE_loop (x := c_towpathlaw01_Book_growWrite_5) (by kernel_rfl) (fun m l w => ∃ (i : Int), l = [(0, Value.pointer b_), (2, Value.int .i64 i)] ∧ I i w ∧ μ i w = m) (l' := [(0, Value.pointer b_), (2, Value.int .i64 0)]) (Sub.mk (by kernel_rfl)) ⟨0, rfl, h0, rfl⟩ ?_
    rintro _ _ w1 ⟨i, rfl, hI, rfl⟩
    obtain ⟨again_, again__h, h⟩ : ∃ again_ : Int → World → Prop, (∀ i' w', again_ i' w' → I i' w' ∧ μ i' w' < μ i w1) ∧ F_towpathlaw01_Book_growWrite_L0 b_ R again_ i w1 := ⟨_, fun _ _ h => h, hr i w1 hI⟩
    clear h0 hI
    unfold F_towpathlaw01_Book_growWrite_L0 at h
    refine wpE_seq (x := c_towpathlaw01_Book_growWrite_6) (y := c_towpathlaw01_Book_growWrite_12) (by kernel_rfl) ?_
    refine wpE_seq (x := c_towpathlaw01_Book_growWrite_7) (y := c_towpathlaw01_Book_growWrite_9) (by kernel_rfl) ?_
    refine wpE_region (id := 1) (ops := r_towpathlaw01_Book_growWrite_7) (by kernel_rfl) ?_
    refine reg_run [.plain, .plain] 2 [(0, [], Value.pointer b_), (2, [], Value.int .i64 i), (6, [], Value.int .i64 i), (7, [], Value.pointer b_)] (by kernel_rfl) (by kernel_rfl) ?_
    obtain ⟨hp_3, h⟩ := h
    refine reg_conv [(0, [], Value.pointer b_), (2, [], Value.int .i64 i), (6, [], Value.int .i64 i), (7, [], Value.pointer (some ⟨(pblk b_), (poff b_), none⟩))] (congrArg (fun pp => ([(0, [], Value.pointer b_), (2, [], Value.int .i64 i), (6, [], Value.int .i64 i), (7, [], Value.pointer pp)] : GEnv)) hp_3) ?_
    refine reg_run [.plain] 3 [(0, [], Value.pointer b_), (2, [], Value.int .i64 i), (6, [], Value.int .i64 i), (7, [], Value.pointer (some ⟨(pblk b_), (poff b_), none⟩)), (8, [], Value.pointer (some ⟨(pblk b_), (poff b_), none⟩))] (by kernel_rfl) (by kernel_rfl) ?_
    refine reg_run [.plain] 4 [(0, [], Value.pointer b_), (2, [], Value.int .i64 i), (6, [], Value.int .i64 i), (9, [], Value.pointer (some ⟨(pblk b_), (poff b_) + 4, none⟩))] (by kernel_rfl) (by kernel_rfl) ?_
    obtain ⟨v10, hc, h⟩ := h
    refine reg_load1 (t := 37) (a := (Go.Operand.tmp 9)) (b := (pblk b_)) (o := ((poff b_) + 4)) (ty := 37) (dst := some 10) (by kernel_rfl) (by kernel_rfl) (by kernel_rfl) hc ?_
    refine reg_run [.plain, .plain] 7 [(0, [], Value.pointer b_), (2, [], Value.int .i64 i), (12, [], Value.bool (decide (i < ((v10.len : Nat) : Int))))] (by kernel_rfl) (by kernel_rfl) ?_
    refine reg_end [(0, Value.pointer b_), (2, Value.int .i64 i), (12, Value.bool (decide (i < ((v10.len : Nat) : Int))))] (by kernel_rfl) (by kernel_rfl) ?_
    change WpE _ _ c_towpathlaw01_Book_growWrite_9 _ _ _
    refine wpE_cond (o := (Operand.tmp 12)) (b := (decide (i < ((v10.len : Nat) : Int)))) (x := c_towpathlaw01_Book_growWrite_10) (y := c_towpathlaw01_Book_growWrite_11) (by kernel_rfl) (by kernel_rfl) (fun hb => ?_) (fun hb => ?_)
    · replace h := h.1 hb
      exact h.elim
    · replace h := h.2 hb
      refine wpE_exit (id := 0) (by kernel_rfl) ?_
      repeat (first | refine seqQ_exit ?_ | refine loopQ_exit ?_ | refine cutQ_exit ?_ | refine blockQ_hit ?_ | refine blockQ_miss (by kernel_rfl) ?_)
      refine retQ_normal ?_
      repeat (first | refine seqQ_ret ?_ | refine blockQ_ret ?_ | refine loopQ_ret ?_ | refine cutQ_ret ?_)
      exact retT (rs := []) (vs := []) (by kernel_rfl) (trivial) (by kernel_rfl) ⟨rfl, h⟩
  · rintro e w' ⟨v, rfl, rfl, h⟩; exact ⟨rfl, h⟩

/-! ### (*towpath/towpathlaw01.Book).growEntry (function 45) -/
noncomputable def c_towpathlaw01_Book_growEntry_0 : Code := (Tryd.f45.body).getD Code.skip
noncomputable def c_towpathlaw01_Book_growEntry_1 : Code := Code.l c_towpathlaw01_Book_growEntry_0
noncomputable def r_towpathlaw01_Book_growEntry_1 : Array Oper := Code.ops c_towpathlaw01_Book_growEntry_1
noncomputable def c_towpathlaw01_Book_growEntry_3 : Code := Code.r c_towpathlaw01_Book_growEntry_0
noncomputable def c_towpathlaw01_Book_growEntry_4 : Code := Code.l c_towpathlaw01_Book_growEntry_3
noncomputable def c_towpathlaw01_Book_growEntry_5 : Code := Code.l c_towpathlaw01_Book_growEntry_4
noncomputable def c_towpathlaw01_Book_growEntry_6 : Code := Code.l c_towpathlaw01_Book_growEntry_5
noncomputable def c_towpathlaw01_Book_growEntry_7 : Code := Code.l c_towpathlaw01_Book_growEntry_6
noncomputable def r_towpathlaw01_Book_growEntry_7 : Array Oper := Code.ops c_towpathlaw01_Book_growEntry_7
noncomputable def c_towpathlaw01_Book_growEntry_9 : Code := Code.r c_towpathlaw01_Book_growEntry_6
noncomputable def c_towpathlaw01_Book_growEntry_10 : Code := Code.l c_towpathlaw01_Book_growEntry_9
noncomputable def c_towpathlaw01_Book_growEntry_11 : Code := Code.r c_towpathlaw01_Book_growEntry_9
noncomputable def c_towpathlaw01_Book_growEntry_12 : Code := Code.r c_towpathlaw01_Book_growEntry_5
noncomputable def c_towpathlaw01_Book_growEntry_13 : Code := Code.l c_towpathlaw01_Book_growEntry_12
noncomputable def c_towpathlaw01_Book_growEntry_14 : Code := Code.l c_towpathlaw01_Book_growEntry_13
noncomputable def c_towpathlaw01_Book_growEntry_15 : Code := Code.l c_towpathlaw01_Book_growEntry_14
noncomputable def r_towpathlaw01_Book_growEntry_15 : Array Oper := Code.ops c_towpathlaw01_Book_growEntry_15
noncomputable def c_towpathlaw01_Book_growEntry_17 : Code := Code.r c_towpathlaw01_Book_growEntry_14
noncomputable def c_towpathlaw01_Book_growEntry_18 : Code := Code.l c_towpathlaw01_Book_growEntry_17
noncomputable def r_towpathlaw01_Book_growEntry_18 : Array Oper := Code.ops c_towpathlaw01_Book_growEntry_18
noncomputable def c_towpathlaw01_Book_growEntry_20 : Code := Code.r c_towpathlaw01_Book_growEntry_17
noncomputable def c_towpathlaw01_Book_growEntry_21 : Code := Code.l c_towpathlaw01_Book_growEntry_20
noncomputable def c_towpathlaw01_Book_growEntry_22 : Code := Code.l c_towpathlaw01_Book_growEntry_21
noncomputable def r_towpathlaw01_Book_growEntry_22 : Array Oper := Code.ops c_towpathlaw01_Book_growEntry_22
noncomputable def c_towpathlaw01_Book_growEntry_24 : Code := Code.r c_towpathlaw01_Book_growEntry_21
noncomputable def c_towpathlaw01_Book_growEntry_25 : Code := Code.l c_towpathlaw01_Book_growEntry_24
noncomputable def c_towpathlaw01_Book_growEntry_26 : Code := Code.l c_towpathlaw01_Book_growEntry_25
noncomputable def c_towpathlaw01_Book_growEntry_27 : Code := Code.l c_towpathlaw01_Book_growEntry_26
noncomputable def c_towpathlaw01_Book_growEntry_28 : Code := Code.l c_towpathlaw01_Book_growEntry_27
noncomputable def r_towpathlaw01_Book_growEntry_28 : Array Oper := Code.ops c_towpathlaw01_Book_growEntry_28
noncomputable def c_towpathlaw01_Book_growEntry_30 : Code := Code.r c_towpathlaw01_Book_growEntry_27
noncomputable def c_towpathlaw01_Book_growEntry_31 : Code := Code.l c_towpathlaw01_Book_growEntry_30
noncomputable def c_towpathlaw01_Book_growEntry_32 : Code := Code.r c_towpathlaw01_Book_growEntry_30
noncomputable def c_towpathlaw01_Book_growEntry_33 : Code := Code.r c_towpathlaw01_Book_growEntry_26
noncomputable def c_towpathlaw01_Book_growEntry_34 : Code := Code.l c_towpathlaw01_Book_growEntry_33
noncomputable def c_towpathlaw01_Book_growEntry_35 : Code := Code.l c_towpathlaw01_Book_growEntry_34
noncomputable def r_towpathlaw01_Book_growEntry_35 : Array Oper := Code.ops c_towpathlaw01_Book_growEntry_35
noncomputable def c_towpathlaw01_Book_growEntry_37 : Code := Code.r c_towpathlaw01_Book_growEntry_33
noncomputable def r_towpathlaw01_Book_growEntry_37 : Array Oper := Code.ops c_towpathlaw01_Book_growEntry_37
noncomputable def c_towpathlaw01_Book_growEntry_39 : Code := Code.r c_towpathlaw01_Book_growEntry_20
noncomputable def r_towpathlaw01_Book_growEntry_39 : Array Oper := Code.ops c_towpathlaw01_Book_growEntry_39
noncomputable def c_towpathlaw01_Book_growEntry_41 : Code := Code.r c_towpathlaw01_Book_growEntry_12
noncomputable def r_towpathlaw01_Book_growEntry_41 : Array Oper := Code.ops c_towpathlaw01_Book_growEntry_41

set_option maxRecDepth 100000 in
set_option maxHeartbeats 4000000 in
theorem S_towpathlaw01_Book_growEntry {b_ : Option Addr} {w : World} {R : World → Prop} (h : F_towpathlaw01_Book_growEntry b_ R w) : C_towpathlaw01_Book_growEntry b_ w R := by
  unfold F_towpathlaw01_Book_growEntry at h
  unfold C_towpathlaw01_Book_growEntry
  refine Calls.mono (calls_of_wpE (args := [Value.pointer b_]) (R := fun v w' => v = Value.tuple #[] ∧ R w') Tryd.func45 (c := c_towpathlaw01_Book_growEntry_0) (by kernel_rfl) 42 (by kernel_rfl) (by kernel_rfl) [(0, Value.pointer b_)] (by kernel_rfl) ?_) ?_
  · refine wpE_seq (x := c_towpathlaw01_Book_growEntry_1) (y := c_towpathlaw01_Book_growEntry_3) (by kernel_rfl) ?_
    refine wpE_region (id := 0) (ops := r_towpathlaw01_Book_growEntry_1) (by kernel_rfl) ?_
    refine reg_run [.plain] 1 [(0, [], Value.pointer b_), (2, [], Value.int .i64 0)] (by kernel_rfl) (by kernel_rfl) ?_
    refine reg_end [(0, Value.pointer b_), (2, Value.int .i64 0)] (by kernel_rfl) (by kernel_rfl) ?_
    change WpE _ _ c_towpathlaw01_Book_growEntry_3 _ _ _
    refine wpE_block (id := 0) (x := c_towpathlaw01_Book_growEntry_4) (by kernel_rfl) ?_
    obtain ⟨I, μ, h0, hr⟩ := h
    refine wpE_loop (x := c_towpathlaw01_Book_growEntry_5) (by kernel_rfl) (fun m l w => ∃ (i : Int), l = [(0, Value.pointer b_), (2, Value.int .i64 i)] ∧ I i w ∧ μ i w = m) (l' := [(0, Value.pointer b_), (2, Value.int .i64 0)]) (Sub.mk (by kernel_rfl)) ⟨0, rfl, h0, rfl⟩ ?_
    rintro _ _ w1 ⟨i, rfl, hI, rfl⟩
    obtain ⟨again_, again__h, h⟩ : ∃ again_ : Int → World → Prop, (∀ i' w', again_ i' w' → I i' w' ∧ μ i' w' < μ i w1) ∧ F_towpathlaw01_Book_growEntry_L0 b_ R again_ i w1 := ⟨_, fun _ _ h => h, hr i w1 hI⟩
    clear h0 hI
    unfold F_towpathlaw01_Book_growEntry_L0 at h
    refine wpE_seq (x := c_towpathlaw01_Book_growEntry_6) (y := c_towpathlaw01_Book_growEntry_12) (by kernel_rfl) ?_
    refine wpE_seq (x := c_towpathlaw01_Book_growEntry_7) (y := c_towpathlaw01_Book_growEntry_9) (by kernel_rfl) ?_
    refine wpE_region (id := 1) (ops := r_towpathlaw01_Book_growEntry_7) (by kernel_rfl) ?_
    refine reg_run [.plain, .plain] 2 [(0, [], Value.pointer b_), (2, [], Value.int .i64 i), (6, [], Value.int .i64 i), (7, [], Value.pointer b_)] (by kernel_rfl) (by kernel_rfl) ?_
    obtain ⟨hp_3, h⟩ := h
    refine reg_conv [(0, [], Value.pointer b_), (2, [], Value.int .i64 i), (6, [], Value.int .i64 i), (7, [], Value.pointer (some ⟨(pblk b_), (poff b_), none⟩))] (congrArg (fun pp => ([(0, [], Value.pointer b_), (2, [], Value.int .i64 i), (6, [], Value.int .i64 i), (7, [], Value.pointer pp)] : GEnv)) hp_3) ?_
    refine reg_run [.plain] 3 [(0, [], Value.pointer b_), (2, [], Value.int .i64 i), (6, [], Value.int .i64 i), (7, [], Value.pointer (some ⟨(pblk b_), (poff b_), none⟩)), (8, [], Value.pointer (some ⟨(pblk b_), (poff b_), none⟩))] (by kernel_rfl) (by kernel_rfl) ?_
    refine reg_run [.plain] 4 [(0, [], Value.pointer b_), (2, [], Value.int .i64 i), (6, [], Value.int .i64 i), (9, [], Value.pointer (some ⟨(pblk b_), (poff b_) + 5, none⟩))] (by kernel_rfl) (by kernel_rfl) ?_
    obtain ⟨v10, hc, h⟩ := h
    refine reg_load1 (t := 38) (a := (Go.Operand.tmp 9)) (b := (pblk b_)) (o := ((poff b_) + 5)) (ty := 38) (dst := some 10) (by kernel_rfl) (by kernel_rfl) (by kernel_rfl) hc ?_
    refine reg_run [.plain, .plain] 7 [(0, [], Value.pointer b_), (2, [], Value.int .i64 i), (12, [], Value.bool (decide (i < ((v10.len : Nat) : Int))))] (by kernel_rfl) (by kernel_rfl) ?_
    refine reg_end [(0, Value.pointer b_), (2, Value.int .i64 i), (12, Value.bool (decide (i < ((v10.len : Nat) : Int))))] (by kernel_rfl) (by kernel_rfl) ?_
    change WpE _ _ c_towpathlaw01_Book_growEntry_9 _ _ _
    refine wpE_cond (o := (Operand.tmp 12)) (b := (decide (i < ((v10.len : Nat) : Int)))) (x := c_towpathlaw01_Book_growEntry_10) (y := c_towpathlaw01_Book_growEntry_11) (by kernel_rfl) (by kernel_rfl) (fun hb => ?_) (fun hb => ?_)
    · replace h := h.1 hb
      exact h.elim
    · replace h := h.2 hb
      refine wpE_exit (id := 0) (by kernel_rfl) ?_
      repeat (first | refine seqQ_exit ?_ | refine loopQ_exit ?_ | refine cutQ_exit ?_ | refine blockQ_hit ?_ | refine blockQ_miss (by kernel_rfl) ?_)
      refine retQ_normal ?_
      repeat (first | refine seqQ_ret ?_ | refine blockQ_ret ?_ | refine loopQ_ret ?_ | refine cutQ_ret ?_)
      exact retT (rs := []) (vs := []) (by kernel_rfl) (trivial) (by kernel_rfl) ⟨rfl, h⟩
  · rintro e w' ⟨v, rfl, rfl, h⟩; exact ⟨rfl, h⟩
end Go.Proofs.YtcgfmkpddhhmgaaDoor
