/- WRITTEN BY PROGRAM (dec.py): for each Go function the clean formula F, the call's contract C, and the proof S that F gives C. -/
import Derived.Test.YtckmganidgbpgaaGreatDoorRows
import Derived.Test.YtckmganidgbpgaaGreatDoorGF
namespace Go.Proofs.YtckmganidgbpgaaGreatDoor
open Go
set_option linter.unusedVariables false

/-! ### (*towpath/towpathlaw01.Book).growHeld (function 51) -/
noncomputable def c_towpathlaw01_Book_growHeld_0 : Code := (Tryz.f51.body).getD Code.skip
noncomputable def c_towpathlaw01_Book_growHeld_1 : Code := Code.l c_towpathlaw01_Book_growHeld_0
noncomputable def r_towpathlaw01_Book_growHeld_1 : Array Oper := Code.ops c_towpathlaw01_Book_growHeld_1
noncomputable def c_towpathlaw01_Book_growHeld_3 : Code := Code.r c_towpathlaw01_Book_growHeld_0
noncomputable def c_towpathlaw01_Book_growHeld_4 : Code := Code.l c_towpathlaw01_Book_growHeld_3
noncomputable def c_towpathlaw01_Book_growHeld_5 : Code := Code.l c_towpathlaw01_Book_growHeld_4
noncomputable def c_towpathlaw01_Book_growHeld_6 : Code := Code.l c_towpathlaw01_Book_growHeld_5
noncomputable def c_towpathlaw01_Book_growHeld_7 : Code := Code.l c_towpathlaw01_Book_growHeld_6
noncomputable def r_towpathlaw01_Book_growHeld_7 : Array Oper := Code.ops c_towpathlaw01_Book_growHeld_7
noncomputable def c_towpathlaw01_Book_growHeld_9 : Code := Code.r c_towpathlaw01_Book_growHeld_6
noncomputable def c_towpathlaw01_Book_growHeld_10 : Code := Code.l c_towpathlaw01_Book_growHeld_9
noncomputable def c_towpathlaw01_Book_growHeld_11 : Code := Code.r c_towpathlaw01_Book_growHeld_9
noncomputable def c_towpathlaw01_Book_growHeld_12 : Code := Code.r c_towpathlaw01_Book_growHeld_5
noncomputable def c_towpathlaw01_Book_growHeld_13 : Code := Code.l c_towpathlaw01_Book_growHeld_12
noncomputable def c_towpathlaw01_Book_growHeld_14 : Code := Code.l c_towpathlaw01_Book_growHeld_13
noncomputable def c_towpathlaw01_Book_growHeld_15 : Code := Code.l c_towpathlaw01_Book_growHeld_14
noncomputable def r_towpathlaw01_Book_growHeld_15 : Array Oper := Code.ops c_towpathlaw01_Book_growHeld_15
noncomputable def c_towpathlaw01_Book_growHeld_17 : Code := Code.r c_towpathlaw01_Book_growHeld_14
noncomputable def c_towpathlaw01_Book_growHeld_18 : Code := Code.l c_towpathlaw01_Book_growHeld_17
noncomputable def r_towpathlaw01_Book_growHeld_18 : Array Oper := Code.ops c_towpathlaw01_Book_growHeld_18
noncomputable def c_towpathlaw01_Book_growHeld_20 : Code := Code.r c_towpathlaw01_Book_growHeld_17
noncomputable def c_towpathlaw01_Book_growHeld_21 : Code := Code.l c_towpathlaw01_Book_growHeld_20
noncomputable def c_towpathlaw01_Book_growHeld_22 : Code := Code.l c_towpathlaw01_Book_growHeld_21
noncomputable def r_towpathlaw01_Book_growHeld_22 : Array Oper := Code.ops c_towpathlaw01_Book_growHeld_22
noncomputable def c_towpathlaw01_Book_growHeld_24 : Code := Code.r c_towpathlaw01_Book_growHeld_21
noncomputable def c_towpathlaw01_Book_growHeld_25 : Code := Code.l c_towpathlaw01_Book_growHeld_24
noncomputable def c_towpathlaw01_Book_growHeld_26 : Code := Code.l c_towpathlaw01_Book_growHeld_25
noncomputable def c_towpathlaw01_Book_growHeld_27 : Code := Code.l c_towpathlaw01_Book_growHeld_26
noncomputable def c_towpathlaw01_Book_growHeld_28 : Code := Code.l c_towpathlaw01_Book_growHeld_27
noncomputable def r_towpathlaw01_Book_growHeld_28 : Array Oper := Code.ops c_towpathlaw01_Book_growHeld_28
noncomputable def c_towpathlaw01_Book_growHeld_30 : Code := Code.r c_towpathlaw01_Book_growHeld_27
noncomputable def c_towpathlaw01_Book_growHeld_31 : Code := Code.l c_towpathlaw01_Book_growHeld_30
noncomputable def c_towpathlaw01_Book_growHeld_32 : Code := Code.r c_towpathlaw01_Book_growHeld_30
noncomputable def c_towpathlaw01_Book_growHeld_33 : Code := Code.r c_towpathlaw01_Book_growHeld_26
noncomputable def c_towpathlaw01_Book_growHeld_34 : Code := Code.l c_towpathlaw01_Book_growHeld_33
noncomputable def c_towpathlaw01_Book_growHeld_35 : Code := Code.l c_towpathlaw01_Book_growHeld_34
noncomputable def r_towpathlaw01_Book_growHeld_35 : Array Oper := Code.ops c_towpathlaw01_Book_growHeld_35
noncomputable def c_towpathlaw01_Book_growHeld_37 : Code := Code.r c_towpathlaw01_Book_growHeld_33
noncomputable def r_towpathlaw01_Book_growHeld_37 : Array Oper := Code.ops c_towpathlaw01_Book_growHeld_37
noncomputable def c_towpathlaw01_Book_growHeld_39 : Code := Code.r c_towpathlaw01_Book_growHeld_20
noncomputable def r_towpathlaw01_Book_growHeld_39 : Array Oper := Code.ops c_towpathlaw01_Book_growHeld_39
noncomputable def c_towpathlaw01_Book_growHeld_41 : Code := Code.r c_towpathlaw01_Book_growHeld_12
noncomputable def r_towpathlaw01_Book_growHeld_41 : Array Oper := Code.ops c_towpathlaw01_Book_growHeld_41

set_option maxRecDepth 100000 in
set_option maxHeartbeats 4000000 in
theorem S_towpathlaw01_Book_growHeld {b_ : Option Addr} {w : World} {R : World → Prop} (h : F_towpathlaw01_Book_growHeld b_ R w) : C_towpathlaw01_Book_growHeld b_ w R := by
  unfold F_towpathlaw01_Book_growHeld at h
  unfold C_towpathlaw01_Book_growHeld
  refine Calls.mono (calls_of_wpE (args := [Value.pointer b_]) (R := fun v w' => v = Value.tuple #[] ∧ R w') Tryz.func51 (c := c_towpathlaw01_Book_growHeld_0) (by kernel_rfl) 42 (by kernel_rfl) (by kernel_rfl) [(0, Value.pointer b_)] (by kernel_rfl) ?_) ?_
  · refine wpE_seq (x := c_towpathlaw01_Book_growHeld_1) (y := c_towpathlaw01_Book_growHeld_3) (by kernel_rfl) ?_
    refine wpE_region (id := 0) (ops := r_towpathlaw01_Book_growHeld_1) (by kernel_rfl) ?_
    refine reg_run [.plain] 1 [(0, [], Value.pointer b_), (2, [], Value.int .i64 0)] (by kernel_rfl) (by kernel_rfl) ?_
    refine reg_end [(0, Value.pointer b_), (2, Value.int .i64 0)] (by kernel_rfl) (by kernel_rfl) ?_
    change WpE _ _ c_towpathlaw01_Book_growHeld_3 _ _ _
    refine wpE_block (id := 0) (x := c_towpathlaw01_Book_growHeld_4) (by kernel_rfl) ?_
    obtain ⟨I, μ, h0, hr⟩ := h
    refine wpE_loop (x := c_towpathlaw01_Book_growHeld_5) (by kernel_rfl) (fun m l w => ∃ (i : Int), l = [(0, Value.pointer b_), (2, Value.int .i64 i)] ∧ I i w ∧ μ i w = m) (l' := [(0, Value.pointer b_), (2, Value.int .i64 0)]) (Sub.mk (by kernel_rfl)) ⟨0, rfl, h0, rfl⟩ ?_
    rintro _ _ w1 ⟨i, rfl, hI, rfl⟩
    obtain ⟨again_, again__h, h⟩ : ∃ again_ : Int → World → Prop, (∀ i' w', again_ i' w' → I i' w' ∧ μ i' w' < μ i w1) ∧ F_towpathlaw01_Book_growHeld_L0 b_ R again_ i w1 := ⟨_, fun _ _ h => h, hr i w1 hI⟩
    clear h0 hI
    unfold F_towpathlaw01_Book_growHeld_L0 at h
    refine wpE_seq (x := c_towpathlaw01_Book_growHeld_6) (y := c_towpathlaw01_Book_growHeld_12) (by kernel_rfl) ?_
    refine wpE_seq (x := c_towpathlaw01_Book_growHeld_7) (y := c_towpathlaw01_Book_growHeld_9) (by kernel_rfl) ?_
    refine wpE_region (id := 1) (ops := r_towpathlaw01_Book_growHeld_7) (by kernel_rfl) ?_
    refine reg_run [.plain, .plain] 2 [(0, [], Value.pointer b_), (2, [], Value.int .i64 i), (6, [], Value.int .i64 i), (7, [], Value.pointer b_)] (by kernel_rfl) (by kernel_rfl) ?_
    obtain ⟨hp_3, h⟩ := h
    refine reg_conv [(0, [], Value.pointer b_), (2, [], Value.int .i64 i), (6, [], Value.int .i64 i), (7, [], Value.pointer (some ⟨(pblk b_), (poff b_), none⟩))] (congrArg (fun pp => ([(0, [], Value.pointer b_), (2, [], Value.int .i64 i), (6, [], Value.int .i64 i), (7, [], Value.pointer pp)] : GEnv)) hp_3) ?_
    refine reg_run [.plain] 3 [(0, [], Value.pointer b_), (2, [], Value.int .i64 i), (6, [], Value.int .i64 i), (7, [], Value.pointer (some ⟨(pblk b_), (poff b_), none⟩)), (8, [], Value.pointer (some ⟨(pblk b_), (poff b_), none⟩))] (by kernel_rfl) (by kernel_rfl) ?_
    refine reg_run [.plain] 4 [(0, [], Value.pointer b_), (2, [], Value.int .i64 i), (6, [], Value.int .i64 i), (9, [], Value.pointer (some ⟨(pblk b_), (poff b_) + 8, none⟩))] (by kernel_rfl) (by kernel_rfl) ?_
    obtain ⟨v10, hc, h⟩ := h
    refine reg_load1 (t := 38) (a := (Go.Operand.tmp 9)) (b := (pblk b_)) (o := ((poff b_) + 8)) (ty := 38) (dst := some 10) (by kernel_rfl) (by kernel_rfl) (by kernel_rfl) hc ?_
    refine reg_run [.plain, .plain] 7 [(0, [], Value.pointer b_), (2, [], Value.int .i64 i), (12, [], Value.bool (decide (i < ((v10.len : Nat) : Int))))] (by kernel_rfl) (by kernel_rfl) ?_
    refine reg_end [(0, Value.pointer b_), (2, Value.int .i64 i), (12, Value.bool (decide (i < ((v10.len : Nat) : Int))))] (by kernel_rfl) (by kernel_rfl) ?_
    change WpE _ _ c_towpathlaw01_Book_growHeld_9 _ _ _
    refine wpE_cond (o := (Operand.tmp 12)) (b := (decide (i < ((v10.len : Nat) : Int)))) (x := c_towpathlaw01_Book_growHeld_10) (y := c_towpathlaw01_Book_growHeld_11) (by kernel_rfl) (by kernel_rfl) (fun hb => ?_) (fun hb => ?_)
    · replace h := h.1 hb
      exact h.elim
    · replace h := h.2 hb
      refine wpE_exit (id := 0) (by kernel_rfl) ?_
      repeat (first | refine seqQ_exit ?_ | refine loopQ_exit ?_ | refine cutQ_exit ?_ | refine blockQ_hit ?_ | refine blockQ_miss (by kernel_rfl) ?_)
      refine retQ_normal ?_
      repeat (first | refine seqQ_ret ?_ | refine blockQ_ret ?_ | refine loopQ_ret ?_ | refine cutQ_ret ?_)
      exact retT (rs := []) (vs := []) (by kernel_rfl) (trivial) (by kernel_rfl) ⟨rfl, h⟩
  · rintro e w' ⟨v, rfl, rfl, h⟩; exact ⟨rfl, h⟩

/-! ### (*towpath/towpathlaw01.Book).growHeldList (function 52) -/
noncomputable def c_towpathlaw01_Book_growHeldList_0 : Code := (Tryz.f52.body).getD Code.skip
noncomputable def c_towpathlaw01_Book_growHeldList_1 : Code := Code.l c_towpathlaw01_Book_growHeldList_0
noncomputable def r_towpathlaw01_Book_growHeldList_1 : Array Oper := Code.ops c_towpathlaw01_Book_growHeldList_1
noncomputable def c_towpathlaw01_Book_growHeldList_3 : Code := Code.r c_towpathlaw01_Book_growHeldList_0
noncomputable def c_towpathlaw01_Book_growHeldList_4 : Code := Code.l c_towpathlaw01_Book_growHeldList_3
noncomputable def c_towpathlaw01_Book_growHeldList_5 : Code := Code.l c_towpathlaw01_Book_growHeldList_4
noncomputable def c_towpathlaw01_Book_growHeldList_6 : Code := Code.l c_towpathlaw01_Book_growHeldList_5
noncomputable def c_towpathlaw01_Book_growHeldList_7 : Code := Code.l c_towpathlaw01_Book_growHeldList_6
noncomputable def r_towpathlaw01_Book_growHeldList_7 : Array Oper := Code.ops c_towpathlaw01_Book_growHeldList_7
noncomputable def c_towpathlaw01_Book_growHeldList_9 : Code := Code.r c_towpathlaw01_Book_growHeldList_6
noncomputable def c_towpathlaw01_Book_growHeldList_10 : Code := Code.l c_towpathlaw01_Book_growHeldList_9
noncomputable def c_towpathlaw01_Book_growHeldList_11 : Code := Code.r c_towpathlaw01_Book_growHeldList_9
noncomputable def c_towpathlaw01_Book_growHeldList_12 : Code := Code.r c_towpathlaw01_Book_growHeldList_5
noncomputable def c_towpathlaw01_Book_growHeldList_13 : Code := Code.l c_towpathlaw01_Book_growHeldList_12
noncomputable def c_towpathlaw01_Book_growHeldList_14 : Code := Code.l c_towpathlaw01_Book_growHeldList_13
noncomputable def c_towpathlaw01_Book_growHeldList_15 : Code := Code.l c_towpathlaw01_Book_growHeldList_14
noncomputable def r_towpathlaw01_Book_growHeldList_15 : Array Oper := Code.ops c_towpathlaw01_Book_growHeldList_15
noncomputable def c_towpathlaw01_Book_growHeldList_17 : Code := Code.r c_towpathlaw01_Book_growHeldList_14
noncomputable def c_towpathlaw01_Book_growHeldList_18 : Code := Code.l c_towpathlaw01_Book_growHeldList_17
noncomputable def r_towpathlaw01_Book_growHeldList_18 : Array Oper := Code.ops c_towpathlaw01_Book_growHeldList_18
noncomputable def c_towpathlaw01_Book_growHeldList_20 : Code := Code.r c_towpathlaw01_Book_growHeldList_17
noncomputable def c_towpathlaw01_Book_growHeldList_21 : Code := Code.l c_towpathlaw01_Book_growHeldList_20
noncomputable def c_towpathlaw01_Book_growHeldList_22 : Code := Code.l c_towpathlaw01_Book_growHeldList_21
noncomputable def r_towpathlaw01_Book_growHeldList_22 : Array Oper := Code.ops c_towpathlaw01_Book_growHeldList_22
noncomputable def c_towpathlaw01_Book_growHeldList_24 : Code := Code.r c_towpathlaw01_Book_growHeldList_21
noncomputable def c_towpathlaw01_Book_growHeldList_25 : Code := Code.l c_towpathlaw01_Book_growHeldList_24
noncomputable def c_towpathlaw01_Book_growHeldList_26 : Code := Code.l c_towpathlaw01_Book_growHeldList_25
noncomputable def c_towpathlaw01_Book_growHeldList_27 : Code := Code.l c_towpathlaw01_Book_growHeldList_26
noncomputable def c_towpathlaw01_Book_growHeldList_28 : Code := Code.l c_towpathlaw01_Book_growHeldList_27
noncomputable def r_towpathlaw01_Book_growHeldList_28 : Array Oper := Code.ops c_towpathlaw01_Book_growHeldList_28
noncomputable def c_towpathlaw01_Book_growHeldList_30 : Code := Code.r c_towpathlaw01_Book_growHeldList_27
noncomputable def c_towpathlaw01_Book_growHeldList_31 : Code := Code.l c_towpathlaw01_Book_growHeldList_30
noncomputable def c_towpathlaw01_Book_growHeldList_32 : Code := Code.r c_towpathlaw01_Book_growHeldList_30
noncomputable def c_towpathlaw01_Book_growHeldList_33 : Code := Code.r c_towpathlaw01_Book_growHeldList_26
noncomputable def c_towpathlaw01_Book_growHeldList_34 : Code := Code.l c_towpathlaw01_Book_growHeldList_33
noncomputable def c_towpathlaw01_Book_growHeldList_35 : Code := Code.l c_towpathlaw01_Book_growHeldList_34
noncomputable def r_towpathlaw01_Book_growHeldList_35 : Array Oper := Code.ops c_towpathlaw01_Book_growHeldList_35
noncomputable def c_towpathlaw01_Book_growHeldList_37 : Code := Code.r c_towpathlaw01_Book_growHeldList_33
noncomputable def r_towpathlaw01_Book_growHeldList_37 : Array Oper := Code.ops c_towpathlaw01_Book_growHeldList_37
noncomputable def c_towpathlaw01_Book_growHeldList_39 : Code := Code.r c_towpathlaw01_Book_growHeldList_20
noncomputable def r_towpathlaw01_Book_growHeldList_39 : Array Oper := Code.ops c_towpathlaw01_Book_growHeldList_39
noncomputable def c_towpathlaw01_Book_growHeldList_41 : Code := Code.r c_towpathlaw01_Book_growHeldList_12
noncomputable def r_towpathlaw01_Book_growHeldList_41 : Array Oper := Code.ops c_towpathlaw01_Book_growHeldList_41

set_option maxRecDepth 100000 in
set_option maxHeartbeats 4000000 in
theorem S_towpathlaw01_Book_growHeldList {b_ : Option Addr} {w : World} {R : World → Prop} (h : F_towpathlaw01_Book_growHeldList b_ R w) : C_towpathlaw01_Book_growHeldList b_ w R := by
  unfold F_towpathlaw01_Book_growHeldList at h
  unfold C_towpathlaw01_Book_growHeldList
  refine Calls.mono (calls_of_wpE (args := [Value.pointer b_]) (R := fun v w' => v = Value.tuple #[] ∧ R w') Tryz.func52 (c := c_towpathlaw01_Book_growHeldList_0) (by kernel_rfl) 42 (by kernel_rfl) (by kernel_rfl) [(0, Value.pointer b_)] (by kernel_rfl) ?_) ?_
  · refine wpE_seq (x := c_towpathlaw01_Book_growHeldList_1) (y := c_towpathlaw01_Book_growHeldList_3) (by kernel_rfl) ?_
    refine wpE_region (id := 0) (ops := r_towpathlaw01_Book_growHeldList_1) (by kernel_rfl) ?_
    refine reg_run [.plain] 1 [(0, [], Value.pointer b_), (2, [], Value.int .i64 0)] (by kernel_rfl) (by kernel_rfl) ?_
    refine reg_end [(0, Value.pointer b_), (2, Value.int .i64 0)] (by kernel_rfl) (by kernel_rfl) ?_
    change WpE _ _ c_towpathlaw01_Book_growHeldList_3 _ _ _
    refine wpE_block (id := 0) (x := c_towpathlaw01_Book_growHeldList_4) (by kernel_rfl) ?_
    obtain ⟨I, μ, h0, hr⟩ := h
    refine wpE_loop (x := c_towpathlaw01_Book_growHeldList_5) (by kernel_rfl) (fun m l w => ∃ (i : Int), l = [(0, Value.pointer b_), (2, Value.int .i64 i)] ∧ I i w ∧ μ i w = m) (l' := [(0, Value.pointer b_), (2, Value.int .i64 0)]) (Sub.mk (by kernel_rfl)) ⟨0, rfl, h0, rfl⟩ ?_
    rintro _ _ w1 ⟨i, rfl, hI, rfl⟩
    obtain ⟨again_, again__h, h⟩ : ∃ again_ : Int → World → Prop, (∀ i' w', again_ i' w' → I i' w' ∧ μ i' w' < μ i w1) ∧ F_towpathlaw01_Book_growHeldList_L0 b_ R again_ i w1 := ⟨_, fun _ _ h => h, hr i w1 hI⟩
    clear h0 hI
    unfold F_towpathlaw01_Book_growHeldList_L0 at h
    refine wpE_seq (x := c_towpathlaw01_Book_growHeldList_6) (y := c_towpathlaw01_Book_growHeldList_12) (by kernel_rfl) ?_
    refine wpE_seq (x := c_towpathlaw01_Book_growHeldList_7) (y := c_towpathlaw01_Book_growHeldList_9) (by kernel_rfl) ?_
    refine wpE_region (id := 1) (ops := r_towpathlaw01_Book_growHeldList_7) (by kernel_rfl) ?_
    refine reg_run [.plain, .plain] 2 [(0, [], Value.pointer b_), (2, [], Value.int .i64 i), (6, [], Value.int .i64 i), (7, [], Value.pointer b_)] (by kernel_rfl) (by kernel_rfl) ?_
    obtain ⟨hp_3, h⟩ := h
    refine reg_conv [(0, [], Value.pointer b_), (2, [], Value.int .i64 i), (6, [], Value.int .i64 i), (7, [], Value.pointer (some ⟨(pblk b_), (poff b_), none⟩))] (congrArg (fun pp => ([(0, [], Value.pointer b_), (2, [], Value.int .i64 i), (6, [], Value.int .i64 i), (7, [], Value.pointer pp)] : GEnv)) hp_3) ?_
    refine reg_run [.plain] 3 [(0, [], Value.pointer b_), (2, [], Value.int .i64 i), (6, [], Value.int .i64 i), (7, [], Value.pointer (some ⟨(pblk b_), (poff b_), none⟩)), (8, [], Value.pointer (some ⟨(pblk b_), (poff b_), none⟩))] (by kernel_rfl) (by kernel_rfl) ?_
    refine reg_run [.plain] 4 [(0, [], Value.pointer b_), (2, [], Value.int .i64 i), (6, [], Value.int .i64 i), (9, [], Value.pointer (some ⟨(pblk b_), (poff b_) + 9, none⟩))] (by kernel_rfl) (by kernel_rfl) ?_
    obtain ⟨v10, hc, h⟩ := h
    refine reg_load1 (t := 39) (a := (Go.Operand.tmp 9)) (b := (pblk b_)) (o := ((poff b_) + 9)) (ty := 39) (dst := some 10) (by kernel_rfl) (by kernel_rfl) (by kernel_rfl) hc ?_
    refine reg_run [.plain, .plain] 7 [(0, [], Value.pointer b_), (2, [], Value.int .i64 i), (12, [], Value.bool (decide (i < ((v10.len : Nat) : Int))))] (by kernel_rfl) (by kernel_rfl) ?_
    refine reg_end [(0, Value.pointer b_), (2, Value.int .i64 i), (12, Value.bool (decide (i < ((v10.len : Nat) : Int))))] (by kernel_rfl) (by kernel_rfl) ?_
    change WpE _ _ c_towpathlaw01_Book_growHeldList_9 _ _ _
    refine wpE_cond (o := (Operand.tmp 12)) (b := (decide (i < ((v10.len : Nat) : Int)))) (x := c_towpathlaw01_Book_growHeldList_10) (y := c_towpathlaw01_Book_growHeldList_11) (by kernel_rfl) (by kernel_rfl) (fun hb => ?_) (fun hb => ?_)
    · replace h := h.1 hb
      exact h.elim
    · replace h := h.2 hb
      refine wpE_exit (id := 0) (by kernel_rfl) ?_
      repeat (first | refine seqQ_exit ?_ | refine loopQ_exit ?_ | refine cutQ_exit ?_ | refine blockQ_hit ?_ | refine blockQ_miss (by kernel_rfl) ?_)
      refine retQ_normal ?_
      repeat (first | refine seqQ_ret ?_ | refine blockQ_ret ?_ | refine loopQ_ret ?_ | refine cutQ_ret ?_)
      exact retT (rs := []) (vs := []) (by kernel_rfl) (trivial) (by kernel_rfl) ⟨rfl, h⟩
  · rintro e w' ⟨v, rfl, rfl, h⟩; exact ⟨rfl, h⟩

/-! ### (*towpath/towpathlaw01.Book).growEvent (function 53) -/
noncomputable def c_towpathlaw01_Book_growEvent_0 : Code := (Tryz.f53.body).getD Code.skip
noncomputable def c_towpathlaw01_Book_growEvent_1 : Code := Code.l c_towpathlaw01_Book_growEvent_0
noncomputable def r_towpathlaw01_Book_growEvent_1 : Array Oper := Code.ops c_towpathlaw01_Book_growEvent_1
noncomputable def c_towpathlaw01_Book_growEvent_3 : Code := Code.r c_towpathlaw01_Book_growEvent_0
noncomputable def c_towpathlaw01_Book_growEvent_4 : Code := Code.l c_towpathlaw01_Book_growEvent_3
noncomputable def c_towpathlaw01_Book_growEvent_5 : Code := Code.l c_towpathlaw01_Book_growEvent_4
noncomputable def c_towpathlaw01_Book_growEvent_6 : Code := Code.l c_towpathlaw01_Book_growEvent_5
noncomputable def c_towpathlaw01_Book_growEvent_7 : Code := Code.l c_towpathlaw01_Book_growEvent_6
noncomputable def r_towpathlaw01_Book_growEvent_7 : Array Oper := Code.ops c_towpathlaw01_Book_growEvent_7
noncomputable def c_towpathlaw01_Book_growEvent_9 : Code := Code.r c_towpathlaw01_Book_growEvent_6
noncomputable def c_towpathlaw01_Book_growEvent_10 : Code := Code.l c_towpathlaw01_Book_growEvent_9
noncomputable def c_towpathlaw01_Book_growEvent_11 : Code := Code.r c_towpathlaw01_Book_growEvent_9
noncomputable def c_towpathlaw01_Book_growEvent_12 : Code := Code.r c_towpathlaw01_Book_growEvent_5
noncomputable def c_towpathlaw01_Book_growEvent_13 : Code := Code.l c_towpathlaw01_Book_growEvent_12
noncomputable def c_towpathlaw01_Book_growEvent_14 : Code := Code.l c_towpathlaw01_Book_growEvent_13
noncomputable def c_towpathlaw01_Book_growEvent_15 : Code := Code.l c_towpathlaw01_Book_growEvent_14
noncomputable def r_towpathlaw01_Book_growEvent_15 : Array Oper := Code.ops c_towpathlaw01_Book_growEvent_15
noncomputable def c_towpathlaw01_Book_growEvent_17 : Code := Code.r c_towpathlaw01_Book_growEvent_14
noncomputable def c_towpathlaw01_Book_growEvent_18 : Code := Code.l c_towpathlaw01_Book_growEvent_17
noncomputable def r_towpathlaw01_Book_growEvent_18 : Array Oper := Code.ops c_towpathlaw01_Book_growEvent_18
noncomputable def c_towpathlaw01_Book_growEvent_20 : Code := Code.r c_towpathlaw01_Book_growEvent_17
noncomputable def c_towpathlaw01_Book_growEvent_21 : Code := Code.l c_towpathlaw01_Book_growEvent_20
noncomputable def c_towpathlaw01_Book_growEvent_22 : Code := Code.l c_towpathlaw01_Book_growEvent_21
noncomputable def r_towpathlaw01_Book_growEvent_22 : Array Oper := Code.ops c_towpathlaw01_Book_growEvent_22
noncomputable def c_towpathlaw01_Book_growEvent_24 : Code := Code.r c_towpathlaw01_Book_growEvent_21
noncomputable def c_towpathlaw01_Book_growEvent_25 : Code := Code.l c_towpathlaw01_Book_growEvent_24
noncomputable def c_towpathlaw01_Book_growEvent_26 : Code := Code.l c_towpathlaw01_Book_growEvent_25
noncomputable def c_towpathlaw01_Book_growEvent_27 : Code := Code.l c_towpathlaw01_Book_growEvent_26
noncomputable def c_towpathlaw01_Book_growEvent_28 : Code := Code.l c_towpathlaw01_Book_growEvent_27
noncomputable def r_towpathlaw01_Book_growEvent_28 : Array Oper := Code.ops c_towpathlaw01_Book_growEvent_28
noncomputable def c_towpathlaw01_Book_growEvent_30 : Code := Code.r c_towpathlaw01_Book_growEvent_27
noncomputable def c_towpathlaw01_Book_growEvent_31 : Code := Code.l c_towpathlaw01_Book_growEvent_30
noncomputable def c_towpathlaw01_Book_growEvent_32 : Code := Code.r c_towpathlaw01_Book_growEvent_30
noncomputable def c_towpathlaw01_Book_growEvent_33 : Code := Code.r c_towpathlaw01_Book_growEvent_26
noncomputable def c_towpathlaw01_Book_growEvent_34 : Code := Code.l c_towpathlaw01_Book_growEvent_33
noncomputable def c_towpathlaw01_Book_growEvent_35 : Code := Code.l c_towpathlaw01_Book_growEvent_34
noncomputable def r_towpathlaw01_Book_growEvent_35 : Array Oper := Code.ops c_towpathlaw01_Book_growEvent_35
noncomputable def c_towpathlaw01_Book_growEvent_37 : Code := Code.r c_towpathlaw01_Book_growEvent_33
noncomputable def r_towpathlaw01_Book_growEvent_37 : Array Oper := Code.ops c_towpathlaw01_Book_growEvent_37
noncomputable def c_towpathlaw01_Book_growEvent_39 : Code := Code.r c_towpathlaw01_Book_growEvent_20
noncomputable def r_towpathlaw01_Book_growEvent_39 : Array Oper := Code.ops c_towpathlaw01_Book_growEvent_39
noncomputable def c_towpathlaw01_Book_growEvent_41 : Code := Code.r c_towpathlaw01_Book_growEvent_12
noncomputable def r_towpathlaw01_Book_growEvent_41 : Array Oper := Code.ops c_towpathlaw01_Book_growEvent_41

set_option maxRecDepth 100000 in
set_option maxHeartbeats 4000000 in
theorem S_towpathlaw01_Book_growEvent {b_ : Option Addr} {w : World} {R : World → Prop} (h : F_towpathlaw01_Book_growEvent b_ R w) : C_towpathlaw01_Book_growEvent b_ w R := by
  unfold F_towpathlaw01_Book_growEvent at h
  unfold C_towpathlaw01_Book_growEvent
  refine Calls.mono (calls_of_wpE (args := [Value.pointer b_]) (R := fun v w' => v = Value.tuple #[] ∧ R w') Tryz.func53 (c := c_towpathlaw01_Book_growEvent_0) (by kernel_rfl) 42 (by kernel_rfl) (by kernel_rfl) [(0, Value.pointer b_)] (by kernel_rfl) ?_) ?_
  · refine wpE_seq (x := c_towpathlaw01_Book_growEvent_1) (y := c_towpathlaw01_Book_growEvent_3) (by kernel_rfl) ?_
    refine wpE_region (id := 0) (ops := r_towpathlaw01_Book_growEvent_1) (by kernel_rfl) ?_
    refine reg_run [.plain] 1 [(0, [], Value.pointer b_), (2, [], Value.int .i64 0)] (by kernel_rfl) (by kernel_rfl) ?_
    refine reg_end [(0, Value.pointer b_), (2, Value.int .i64 0)] (by kernel_rfl) (by kernel_rfl) ?_
    change WpE _ _ c_towpathlaw01_Book_growEvent_3 _ _ _
    refine wpE_block (id := 0) (x := c_towpathlaw01_Book_growEvent_4) (by kernel_rfl) ?_
    obtain ⟨I, μ, h0, hr⟩ := h
    refine wpE_loop (x := c_towpathlaw01_Book_growEvent_5) (by kernel_rfl) (fun m l w => ∃ (i : Int), l = [(0, Value.pointer b_), (2, Value.int .i64 i)] ∧ I i w ∧ μ i w = m) (l' := [(0, Value.pointer b_), (2, Value.int .i64 0)]) (Sub.mk (by kernel_rfl)) ⟨0, rfl, h0, rfl⟩ ?_
    rintro _ _ w1 ⟨i, rfl, hI, rfl⟩
    obtain ⟨again_, again__h, h⟩ : ∃ again_ : Int → World → Prop, (∀ i' w', again_ i' w' → I i' w' ∧ μ i' w' < μ i w1) ∧ F_towpathlaw01_Book_growEvent_L0 b_ R again_ i w1 := ⟨_, fun _ _ h => h, hr i w1 hI⟩
    clear h0 hI
    unfold F_towpathlaw01_Book_growEvent_L0 at h
    refine wpE_seq (x := c_towpathlaw01_Book_growEvent_6) (y := c_towpathlaw01_Book_growEvent_12) (by kernel_rfl) ?_
    refine wpE_seq (x := c_towpathlaw01_Book_growEvent_7) (y := c_towpathlaw01_Book_growEvent_9) (by kernel_rfl) ?_
    refine wpE_region (id := 1) (ops := r_towpathlaw01_Book_growEvent_7) (by kernel_rfl) ?_
    refine reg_run [.plain, .plain] 2 [(0, [], Value.pointer b_), (2, [], Value.int .i64 i), (6, [], Value.int .i64 i), (7, [], Value.pointer b_)] (by kernel_rfl) (by kernel_rfl) ?_
    obtain ⟨hp_3, h⟩ := h
    refine reg_conv [(0, [], Value.pointer b_), (2, [], Value.int .i64 i), (6, [], Value.int .i64 i), (7, [], Value.pointer (some ⟨(pblk b_), (poff b_), none⟩))] (congrArg (fun pp => ([(0, [], Value.pointer b_), (2, [], Value.int .i64 i), (6, [], Value.int .i64 i), (7, [], Value.pointer pp)] : GEnv)) hp_3) ?_
    refine reg_run [.plain] 3 [(0, [], Value.pointer b_), (2, [], Value.int .i64 i), (6, [], Value.int .i64 i), (7, [], Value.pointer (some ⟨(pblk b_), (poff b_), none⟩)), (8, [], Value.pointer (some ⟨(pblk b_), (poff b_), none⟩))] (by kernel_rfl) (by kernel_rfl) ?_
    refine reg_run [.plain] 4 [(0, [], Value.pointer b_), (2, [], Value.int .i64 i), (6, [], Value.int .i64 i), (9, [], Value.pointer (some ⟨(pblk b_), (poff b_) + 10, none⟩))] (by kernel_rfl) (by kernel_rfl) ?_
    obtain ⟨v10, hc, h⟩ := h
    refine reg_load1 (t := 40) (a := (Go.Operand.tmp 9)) (b := (pblk b_)) (o := ((poff b_) + 10)) (ty := 40) (dst := some 10) (by kernel_rfl) (by kernel_rfl) (by kernel_rfl) hc ?_
    refine reg_run [.plain, .plain] 7 [(0, [], Value.pointer b_), (2, [], Value.int .i64 i), (12, [], Value.bool (decide (i < ((v10.len : Nat) : Int))))] (by kernel_rfl) (by kernel_rfl) ?_
    refine reg_end [(0, Value.pointer b_), (2, Value.int .i64 i), (12, Value.bool (decide (i < ((v10.len : Nat) : Int))))] (by kernel_rfl) (by kernel_rfl) ?_
    change WpE _ _ c_towpathlaw01_Book_growEvent_9 _ _ _
    refine wpE_cond (o := (Operand.tmp 12)) (b := (decide (i < ((v10.len : Nat) : Int)))) (x := c_towpathlaw01_Book_growEvent_10) (y := c_towpathlaw01_Book_growEvent_11) (by kernel_rfl) (by kernel_rfl) (fun hb => ?_) (fun hb => ?_)
    · replace h := h.1 hb
      exact h.elim
    · replace h := h.2 hb
      refine wpE_exit (id := 0) (by kernel_rfl) ?_
      repeat (first | refine seqQ_exit ?_ | refine loopQ_exit ?_ | refine cutQ_exit ?_ | refine blockQ_hit ?_ | refine blockQ_miss (by kernel_rfl) ?_)
      refine retQ_normal ?_
      repeat (first | refine seqQ_ret ?_ | refine blockQ_ret ?_ | refine loopQ_ret ?_ | refine cutQ_ret ?_)
      exact retT (rs := []) (vs := []) (by kernel_rfl) (trivial) (by kernel_rfl) ⟨rfl, h⟩
  · rintro e w' ⟨v, rfl, rfl, h⟩; exact ⟨rfl, h⟩

/-! ### (*towpath/towpathlaw01.Book).growAnswer (function 54) -/
noncomputable def c_towpathlaw01_Book_growAnswer_0 : Code := (Tryz.f54.body).getD Code.skip
noncomputable def c_towpathlaw01_Book_growAnswer_1 : Code := Code.l c_towpathlaw01_Book_growAnswer_0
noncomputable def r_towpathlaw01_Book_growAnswer_1 : Array Oper := Code.ops c_towpathlaw01_Book_growAnswer_1
noncomputable def c_towpathlaw01_Book_growAnswer_3 : Code := Code.r c_towpathlaw01_Book_growAnswer_0
noncomputable def c_towpathlaw01_Book_growAnswer_4 : Code := Code.l c_towpathlaw01_Book_growAnswer_3
noncomputable def c_towpathlaw01_Book_growAnswer_5 : Code := Code.l c_towpathlaw01_Book_growAnswer_4
noncomputable def c_towpathlaw01_Book_growAnswer_6 : Code := Code.l c_towpathlaw01_Book_growAnswer_5
noncomputable def c_towpathlaw01_Book_growAnswer_7 : Code := Code.l c_towpathlaw01_Book_growAnswer_6
noncomputable def r_towpathlaw01_Book_growAnswer_7 : Array Oper := Code.ops c_towpathlaw01_Book_growAnswer_7
noncomputable def c_towpathlaw01_Book_growAnswer_9 : Code := Code.r c_towpathlaw01_Book_growAnswer_6
noncomputable def c_towpathlaw01_Book_growAnswer_10 : Code := Code.l c_towpathlaw01_Book_growAnswer_9
noncomputable def c_towpathlaw01_Book_growAnswer_11 : Code := Code.r c_towpathlaw01_Book_growAnswer_9
noncomputable def c_towpathlaw01_Book_growAnswer_12 : Code := Code.r c_towpathlaw01_Book_growAnswer_5
noncomputable def c_towpathlaw01_Book_growAnswer_13 : Code := Code.l c_towpathlaw01_Book_growAnswer_12
noncomputable def c_towpathlaw01_Book_growAnswer_14 : Code := Code.l c_towpathlaw01_Book_growAnswer_13
noncomputable def c_towpathlaw01_Book_growAnswer_15 : Code := Code.l c_towpathlaw01_Book_growAnswer_14
noncomputable def r_towpathlaw01_Book_growAnswer_15 : Array Oper := Code.ops c_towpathlaw01_Book_growAnswer_15
noncomputable def c_towpathlaw01_Book_growAnswer_17 : Code := Code.r c_towpathlaw01_Book_growAnswer_14
noncomputable def c_towpathlaw01_Book_growAnswer_18 : Code := Code.l c_towpathlaw01_Book_growAnswer_17
noncomputable def r_towpathlaw01_Book_growAnswer_18 : Array Oper := Code.ops c_towpathlaw01_Book_growAnswer_18
noncomputable def c_towpathlaw01_Book_growAnswer_20 : Code := Code.r c_towpathlaw01_Book_growAnswer_17
noncomputable def c_towpathlaw01_Book_growAnswer_21 : Code := Code.l c_towpathlaw01_Book_growAnswer_20
noncomputable def c_towpathlaw01_Book_growAnswer_22 : Code := Code.l c_towpathlaw01_Book_growAnswer_21
noncomputable def r_towpathlaw01_Book_growAnswer_22 : Array Oper := Code.ops c_towpathlaw01_Book_growAnswer_22
noncomputable def c_towpathlaw01_Book_growAnswer_24 : Code := Code.r c_towpathlaw01_Book_growAnswer_21
noncomputable def c_towpathlaw01_Book_growAnswer_25 : Code := Code.l c_towpathlaw01_Book_growAnswer_24
noncomputable def c_towpathlaw01_Book_growAnswer_26 : Code := Code.l c_towpathlaw01_Book_growAnswer_25
noncomputable def c_towpathlaw01_Book_growAnswer_27 : Code := Code.l c_towpathlaw01_Book_growAnswer_26
noncomputable def c_towpathlaw01_Book_growAnswer_28 : Code := Code.l c_towpathlaw01_Book_growAnswer_27
noncomputable def r_towpathlaw01_Book_growAnswer_28 : Array Oper := Code.ops c_towpathlaw01_Book_growAnswer_28
noncomputable def c_towpathlaw01_Book_growAnswer_30 : Code := Code.r c_towpathlaw01_Book_growAnswer_27
noncomputable def c_towpathlaw01_Book_growAnswer_31 : Code := Code.l c_towpathlaw01_Book_growAnswer_30
noncomputable def c_towpathlaw01_Book_growAnswer_32 : Code := Code.r c_towpathlaw01_Book_growAnswer_30
noncomputable def c_towpathlaw01_Book_growAnswer_33 : Code := Code.r c_towpathlaw01_Book_growAnswer_26
noncomputable def c_towpathlaw01_Book_growAnswer_34 : Code := Code.l c_towpathlaw01_Book_growAnswer_33
noncomputable def c_towpathlaw01_Book_growAnswer_35 : Code := Code.l c_towpathlaw01_Book_growAnswer_34
noncomputable def r_towpathlaw01_Book_growAnswer_35 : Array Oper := Code.ops c_towpathlaw01_Book_growAnswer_35
noncomputable def c_towpathlaw01_Book_growAnswer_37 : Code := Code.r c_towpathlaw01_Book_growAnswer_33
noncomputable def r_towpathlaw01_Book_growAnswer_37 : Array Oper := Code.ops c_towpathlaw01_Book_growAnswer_37
noncomputable def c_towpathlaw01_Book_growAnswer_39 : Code := Code.r c_towpathlaw01_Book_growAnswer_20
noncomputable def r_towpathlaw01_Book_growAnswer_39 : Array Oper := Code.ops c_towpathlaw01_Book_growAnswer_39
noncomputable def c_towpathlaw01_Book_growAnswer_41 : Code := Code.r c_towpathlaw01_Book_growAnswer_12
noncomputable def r_towpathlaw01_Book_growAnswer_41 : Array Oper := Code.ops c_towpathlaw01_Book_growAnswer_41

set_option maxRecDepth 100000 in
set_option maxHeartbeats 4000000 in
theorem S_towpathlaw01_Book_growAnswer {b_ : Option Addr} {w : World} {R : World → Prop} (h : F_towpathlaw01_Book_growAnswer b_ R w) : C_towpathlaw01_Book_growAnswer b_ w R := by
  unfold F_towpathlaw01_Book_growAnswer at h
  unfold C_towpathlaw01_Book_growAnswer
  refine Calls.mono (calls_of_wpE (args := [Value.pointer b_]) (R := fun v w' => v = Value.tuple #[] ∧ R w') Tryz.func54 (c := c_towpathlaw01_Book_growAnswer_0) (by kernel_rfl) 42 (by kernel_rfl) (by kernel_rfl) [(0, Value.pointer b_)] (by kernel_rfl) ?_) ?_
  · refine wpE_seq (x := c_towpathlaw01_Book_growAnswer_1) (y := c_towpathlaw01_Book_growAnswer_3) (by kernel_rfl) ?_
    refine wpE_region (id := 0) (ops := r_towpathlaw01_Book_growAnswer_1) (by kernel_rfl) ?_
    refine reg_run [.plain] 1 [(0, [], Value.pointer b_), (2, [], Value.int .i64 0)] (by kernel_rfl) (by kernel_rfl) ?_
    refine reg_end [(0, Value.pointer b_), (2, Value.int .i64 0)] (by kernel_rfl) (by kernel_rfl) ?_
    change WpE _ _ c_towpathlaw01_Book_growAnswer_3 _ _ _
    refine wpE_block (id := 0) (x := c_towpathlaw01_Book_growAnswer_4) (by kernel_rfl) ?_
    obtain ⟨I, μ, h0, hr⟩ := h
    refine wpE_loop (x := c_towpathlaw01_Book_growAnswer_5) (by kernel_rfl) (fun m l w => ∃ (i : Int), l = [(0, Value.pointer b_), (2, Value.int .i64 i)] ∧ I i w ∧ μ i w = m) (l' := [(0, Value.pointer b_), (2, Value.int .i64 0)]) (Sub.mk (by kernel_rfl)) ⟨0, rfl, h0, rfl⟩ ?_
    rintro _ _ w1 ⟨i, rfl, hI, rfl⟩
    obtain ⟨again_, again__h, h⟩ : ∃ again_ : Int → World → Prop, (∀ i' w', again_ i' w' → I i' w' ∧ μ i' w' < μ i w1) ∧ F_towpathlaw01_Book_growAnswer_L0 b_ R again_ i w1 := ⟨_, fun _ _ h => h, hr i w1 hI⟩
    clear h0 hI
    unfold F_towpathlaw01_Book_growAnswer_L0 at h
    refine wpE_seq (x := c_towpathlaw01_Book_growAnswer_6) (y := c_towpathlaw01_Book_growAnswer_12) (by kernel_rfl) ?_
    refine wpE_seq (x := c_towpathlaw01_Book_growAnswer_7) (y := c_towpathlaw01_Book_growAnswer_9) (by kernel_rfl) ?_
    refine wpE_region (id := 1) (ops := r_towpathlaw01_Book_growAnswer_7) (by kernel_rfl) ?_
    refine reg_run [.plain, .plain] 2 [(0, [], Value.pointer b_), (2, [], Value.int .i64 i), (6, [], Value.int .i64 i), (7, [], Value.pointer b_)] (by kernel_rfl) (by kernel_rfl) ?_
    obtain ⟨hp_3, h⟩ := h
    refine reg_conv [(0, [], Value.pointer b_), (2, [], Value.int .i64 i), (6, [], Value.int .i64 i), (7, [], Value.pointer (some ⟨(pblk b_), (poff b_), none⟩))] (congrArg (fun pp => ([(0, [], Value.pointer b_), (2, [], Value.int .i64 i), (6, [], Value.int .i64 i), (7, [], Value.pointer pp)] : GEnv)) hp_3) ?_
    refine reg_run [.plain] 3 [(0, [], Value.pointer b_), (2, [], Value.int .i64 i), (6, [], Value.int .i64 i), (7, [], Value.pointer (some ⟨(pblk b_), (poff b_), none⟩)), (8, [], Value.pointer (some ⟨(pblk b_), (poff b_), none⟩))] (by kernel_rfl) (by kernel_rfl) ?_
    refine reg_run [.plain] 4 [(0, [], Value.pointer b_), (2, [], Value.int .i64 i), (6, [], Value.int .i64 i), (9, [], Value.pointer (some ⟨(pblk b_), (poff b_) + 11, none⟩))] (by kernel_rfl) (by kernel_rfl) ?_
    obtain ⟨v10, hc, h⟩ := h
    refine reg_load1 (t := 41) (a := (Go.Operand.tmp 9)) (b := (pblk b_)) (o := ((poff b_) + 11)) (ty := 41) (dst := some 10) (by kernel_rfl) (by kernel_rfl) (by kernel_rfl) hc ?_
    refine reg_run [.plain, .plain] 7 [(0, [], Value.pointer b_), (2, [], Value.int .i64 i), (12, [], Value.bool (decide (i < ((v10.len : Nat) : Int))))] (by kernel_rfl) (by kernel_rfl) ?_
    refine reg_end [(0, Value.pointer b_), (2, Value.int .i64 i), (12, Value.bool (decide (i < ((v10.len : Nat) : Int))))] (by kernel_rfl) (by kernel_rfl) ?_
    change WpE _ _ c_towpathlaw01_Book_growAnswer_9 _ _ _
    refine wpE_cond (o := (Operand.tmp 12)) (b := (decide (i < ((v10.len : Nat) : Int)))) (x := c_towpathlaw01_Book_growAnswer_10) (y := c_towpathlaw01_Book_growAnswer_11) (by kernel_rfl) (by kernel_rfl) (fun hb => ?_) (fun hb => ?_)
    · replace h := h.1 hb
      exact h.elim
    · replace h := h.2 hb
      refine wpE_exit (id := 0) (by kernel_rfl) ?_
      repeat (first | refine seqQ_exit ?_ | refine loopQ_exit ?_ | refine cutQ_exit ?_ | refine blockQ_hit ?_ | refine blockQ_miss (by kernel_rfl) ?_)
      refine retQ_normal ?_
      repeat (first | refine seqQ_ret ?_ | refine blockQ_ret ?_ | refine loopQ_ret ?_ | refine cutQ_ret ?_)
      exact retT (rs := []) (vs := []) (by kernel_rfl) (trivial) (by kernel_rfl) ⟨rfl, h⟩
  · rintro e w' ⟨v, rfl, rfl, h⟩; exact ⟨rfl, h⟩

/-! ### (*towpath/towpathlaw01.Book).lookByte (function 55) -/
noncomputable def c_towpathlaw01_Book_lookByte_0 : Code := (Tryz.f55.body).getD Code.skip
noncomputable def c_towpathlaw01_Book_lookByte_1 : Code := Code.l c_towpathlaw01_Book_lookByte_0
noncomputable def r_towpathlaw01_Book_lookByte_1 : Array Oper := Code.ops c_towpathlaw01_Book_lookByte_1
noncomputable def c_towpathlaw01_Book_lookByte_3 : Code := Code.r c_towpathlaw01_Book_lookByte_0
noncomputable def c_towpathlaw01_Book_lookByte_4 : Code := Code.l c_towpathlaw01_Book_lookByte_3
noncomputable def c_towpathlaw01_Book_lookByte_5 : Code := Code.l c_towpathlaw01_Book_lookByte_4
noncomputable def r_towpathlaw01_Book_lookByte_5 : Array Oper := Code.ops c_towpathlaw01_Book_lookByte_5
noncomputable def c_towpathlaw01_Book_lookByte_7 : Code := Code.r c_towpathlaw01_Book_lookByte_4
noncomputable def c_towpathlaw01_Book_lookByte_8 : Code := Code.l c_towpathlaw01_Book_lookByte_7
noncomputable def c_towpathlaw01_Book_lookByte_9 : Code := Code.l c_towpathlaw01_Book_lookByte_8
noncomputable def c_towpathlaw01_Book_lookByte_10 : Code := Code.l c_towpathlaw01_Book_lookByte_9
noncomputable def c_towpathlaw01_Book_lookByte_11 : Code := Code.l c_towpathlaw01_Book_lookByte_10
noncomputable def r_towpathlaw01_Book_lookByte_11 : Array Oper := Code.ops c_towpathlaw01_Book_lookByte_11
noncomputable def c_towpathlaw01_Book_lookByte_13 : Code := Code.r c_towpathlaw01_Book_lookByte_10
noncomputable def c_towpathlaw01_Book_lookByte_14 : Code := Code.l c_towpathlaw01_Book_lookByte_13
noncomputable def c_towpathlaw01_Book_lookByte_15 : Code := Code.r c_towpathlaw01_Book_lookByte_13
noncomputable def c_towpathlaw01_Book_lookByte_16 : Code := Code.r c_towpathlaw01_Book_lookByte_9
noncomputable def c_towpathlaw01_Book_lookByte_17 : Code := Code.l c_towpathlaw01_Book_lookByte_16
noncomputable def c_towpathlaw01_Book_lookByte_18 : Code := Code.l c_towpathlaw01_Book_lookByte_17
noncomputable def c_towpathlaw01_Book_lookByte_19 : Code := Code.l c_towpathlaw01_Book_lookByte_18
noncomputable def r_towpathlaw01_Book_lookByte_19 : Array Oper := Code.ops c_towpathlaw01_Book_lookByte_19
noncomputable def c_towpathlaw01_Book_lookByte_21 : Code := Code.r c_towpathlaw01_Book_lookByte_18
noncomputable def c_towpathlaw01_Book_lookByte_22 : Code := Code.l c_towpathlaw01_Book_lookByte_21
noncomputable def c_towpathlaw01_Book_lookByte_23 : Code := Code.l c_towpathlaw01_Book_lookByte_22
noncomputable def r_towpathlaw01_Book_lookByte_23 : Array Oper := Code.ops c_towpathlaw01_Book_lookByte_23
noncomputable def c_towpathlaw01_Book_lookByte_25 : Code := Code.r c_towpathlaw01_Book_lookByte_22
noncomputable def c_towpathlaw01_Book_lookByte_26 : Code := Code.l c_towpathlaw01_Book_lookByte_25
noncomputable def c_towpathlaw01_Book_lookByte_27 : Code := Code.l c_towpathlaw01_Book_lookByte_26
noncomputable def r_towpathlaw01_Book_lookByte_27 : Array Oper := Code.ops c_towpathlaw01_Book_lookByte_27
noncomputable def c_towpathlaw01_Book_lookByte_29 : Code := Code.r c_towpathlaw01_Book_lookByte_26
noncomputable def c_towpathlaw01_Book_lookByte_30 : Code := Code.r c_towpathlaw01_Book_lookByte_25
noncomputable def c_towpathlaw01_Book_lookByte_31 : Code := Code.r c_towpathlaw01_Book_lookByte_21
noncomputable def c_towpathlaw01_Book_lookByte_32 : Code := Code.l c_towpathlaw01_Book_lookByte_31
noncomputable def r_towpathlaw01_Book_lookByte_32 : Array Oper := Code.ops c_towpathlaw01_Book_lookByte_32
noncomputable def c_towpathlaw01_Book_lookByte_34 : Code := Code.r c_towpathlaw01_Book_lookByte_31
noncomputable def c_towpathlaw01_Book_lookByte_35 : Code := Code.l c_towpathlaw01_Book_lookByte_34
noncomputable def c_towpathlaw01_Book_lookByte_36 : Code := Code.l c_towpathlaw01_Book_lookByte_35
noncomputable def c_towpathlaw01_Book_lookByte_37 : Code := Code.l c_towpathlaw01_Book_lookByte_36
noncomputable def c_towpathlaw01_Book_lookByte_38 : Code := Code.l c_towpathlaw01_Book_lookByte_37
noncomputable def r_towpathlaw01_Book_lookByte_38 : Array Oper := Code.ops c_towpathlaw01_Book_lookByte_38
noncomputable def c_towpathlaw01_Book_lookByte_40 : Code := Code.r c_towpathlaw01_Book_lookByte_37
noncomputable def c_towpathlaw01_Book_lookByte_41 : Code := Code.l c_towpathlaw01_Book_lookByte_40
noncomputable def c_towpathlaw01_Book_lookByte_42 : Code := Code.r c_towpathlaw01_Book_lookByte_40
noncomputable def c_towpathlaw01_Book_lookByte_43 : Code := Code.r c_towpathlaw01_Book_lookByte_36
noncomputable def c_towpathlaw01_Book_lookByte_44 : Code := Code.l c_towpathlaw01_Book_lookByte_43
noncomputable def c_towpathlaw01_Book_lookByte_45 : Code := Code.l c_towpathlaw01_Book_lookByte_44
noncomputable def c_towpathlaw01_Book_lookByte_46 : Code := Code.l c_towpathlaw01_Book_lookByte_45
noncomputable def r_towpathlaw01_Book_lookByte_46 : Array Oper := Code.ops c_towpathlaw01_Book_lookByte_46
noncomputable def c_towpathlaw01_Book_lookByte_48 : Code := Code.r c_towpathlaw01_Book_lookByte_45
noncomputable def c_towpathlaw01_Book_lookByte_49 : Code := Code.l c_towpathlaw01_Book_lookByte_48
noncomputable def c_towpathlaw01_Book_lookByte_50 : Code := Code.l c_towpathlaw01_Book_lookByte_49
noncomputable def r_towpathlaw01_Book_lookByte_50 : Array Oper := Code.ops c_towpathlaw01_Book_lookByte_50
noncomputable def c_towpathlaw01_Book_lookByte_52 : Code := Code.r c_towpathlaw01_Book_lookByte_49
noncomputable def c_towpathlaw01_Book_lookByte_53 : Code := Code.r c_towpathlaw01_Book_lookByte_48
noncomputable def c_towpathlaw01_Book_lookByte_54 : Code := Code.r c_towpathlaw01_Book_lookByte_43
noncomputable def r_towpathlaw01_Book_lookByte_54 : Array Oper := Code.ops c_towpathlaw01_Book_lookByte_54
noncomputable def c_towpathlaw01_Book_lookByte_56 : Code := Code.r c_towpathlaw01_Book_lookByte_16
noncomputable def r_towpathlaw01_Book_lookByte_56 : Array Oper := Code.ops c_towpathlaw01_Book_lookByte_56
noncomputable def c_towpathlaw01_Book_lookByte_58 : Code := Code.r c_towpathlaw01_Book_lookByte_3
noncomputable def c_towpathlaw01_Book_lookByte_59 : Code := Code.l c_towpathlaw01_Book_lookByte_58
noncomputable def r_towpathlaw01_Book_lookByte_59 : Array Oper := Code.ops c_towpathlaw01_Book_lookByte_59
noncomputable def c_towpathlaw01_Book_lookByte_61 : Code := Code.r c_towpathlaw01_Book_lookByte_58

set_option maxRecDepth 100000 in
set_option maxHeartbeats 4000000 in
theorem S_towpathlaw01_Book_lookByte {b_ : Option Addr} {w : World} {R : Bool → World → Prop} (h : F_towpathlaw01_Book_lookByte b_ R w) : C_towpathlaw01_Book_lookByte b_ w R := by
  unfold F_towpathlaw01_Book_lookByte at h
  unfold C_towpathlaw01_Book_lookByte
  refine Calls.mono (calls_of_wpE (args := [Value.pointer b_]) (R := fun v w' => ∃ (r0 : Bool), v = Value.bool r0 ∧ R r0 w') Tryz.func55 (c := c_towpathlaw01_Book_lookByte_0) (by kernel_rfl) 64 (by kernel_rfl) (by kernel_rfl) [(0, Value.pointer b_)] (by kernel_rfl) ?_) ?_
  · refine wpE_seq (x := c_towpathlaw01_Book_lookByte_1) (y := c_towpathlaw01_Book_lookByte_3) (by kernel_rfl) ?_
    refine wpE_region (id := 0) (ops := r_towpathlaw01_Book_lookByte_1) (by kernel_rfl) ?_
    refine reg_run [.plain] 1 [(0, [], Value.pointer b_)] (by kernel_rfl) (by kernel_rfl) ?_
    refine reg_end [(0, Value.pointer b_)] (by kernel_rfl) (by kernel_rfl) ?_
    change WpE _ _ c_towpathlaw01_Book_lookByte_3 _ _ _
    refine wpE_seq (x := c_towpathlaw01_Book_lookByte_4) (y := c_towpathlaw01_Book_lookByte_58) (by kernel_rfl) ?_
    refine wpE_seq (x := c_towpathlaw01_Book_lookByte_5) (y := c_towpathlaw01_Book_lookByte_7) (by kernel_rfl) ?_
    refine wpE_region (id := 1) (ops := r_towpathlaw01_Book_lookByte_5) (by kernel_rfl) ?_
    refine reg_run [.plain] 1 [(0, [], Value.pointer b_), (3, [], Value.int .i64 0)] (by kernel_rfl) (by kernel_rfl) ?_
    refine reg_end [(0, Value.pointer b_), (3, Value.int .i64 0)] (by kernel_rfl) (by kernel_rfl) ?_
    change WpE _ _ c_towpathlaw01_Book_lookByte_7 _ _ _
    refine wpE_block (id := 0) (x := c_towpathlaw01_Book_lookByte_8) (by kernel_rfl) ?_
    obtain ⟨I, μ, h0, hr⟩ := h
    refine wpE_loop (x := c_towpathlaw01_Book_lookByte_9) (by kernel_rfl) (fun m l w => ∃ (i : Int), l = [(0, Value.pointer b_), (3, Value.int .i64 i)] ∧ I i w ∧ μ i w = m) (l' := [(0, Value.pointer b_), (3, Value.int .i64 0)]) (Sub.mk (by kernel_rfl)) ⟨0, rfl, h0, rfl⟩ ?_
    rintro _ _ w1 ⟨i, rfl, hI, rfl⟩
    obtain ⟨again_, again__h, h⟩ : ∃ again_ : Int → World → Prop, (∀ i' w', again_ i' w' → I i' w' ∧ μ i' w' < μ i w1) ∧ F_towpathlaw01_Book_lookByte_L0 b_ R again_ i w1 := ⟨_, fun _ _ h => h, hr i w1 hI⟩
    clear h0 hI
    unfold F_towpathlaw01_Book_lookByte_L0 at h
    refine wpE_seq (x := c_towpathlaw01_Book_lookByte_10) (y := c_towpathlaw01_Book_lookByte_16) (by kernel_rfl) ?_
    refine wpE_seq (x := c_towpathlaw01_Book_lookByte_11) (y := c_towpathlaw01_Book_lookByte_13) (by kernel_rfl) ?_
    refine wpE_region (id := 2) (ops := r_towpathlaw01_Book_lookByte_11) (by kernel_rfl) ?_
    refine reg_run [.plain, .plain] 2 [(0, [], Value.pointer b_), (3, [], Value.int .i64 i), (6, [], Value.int .i64 i), (7, [], Value.pointer b_)] (by kernel_rfl) (by kernel_rfl) ?_
    obtain ⟨hp_31, h⟩ := h
    refine reg_conv [(0, [], Value.pointer b_), (3, [], Value.int .i64 i), (6, [], Value.int .i64 i), (7, [], Value.pointer (some ⟨(pblk b_), (poff b_), none⟩))] (congrArg (fun pp => ([(0, [], Value.pointer b_), (3, [], Value.int .i64 i), (6, [], Value.int .i64 i), (7, [], Value.pointer pp)] : GEnv)) hp_31) ?_
    refine reg_run [.plain] 3 [(0, [], Value.pointer b_), (3, [], Value.int .i64 i), (6, [], Value.int .i64 i), (7, [], Value.pointer (some ⟨(pblk b_), (poff b_), none⟩)), (8, [], Value.pointer (some ⟨(pblk b_), (poff b_), none⟩))] (by kernel_rfl) (by kernel_rfl) ?_
    refine reg_run [.plain] 4 [(0, [], Value.pointer b_), (3, [], Value.int .i64 i), (6, [], Value.int .i64 i), (9, [], Value.pointer (some ⟨(pblk b_), (poff b_) + 1, none⟩))] (by kernel_rfl) (by kernel_rfl) ?_
    obtain ⟨v10, hc, h⟩ := h
    refine reg_load1 (t := 31) (a := (Go.Operand.tmp 9)) (b := (pblk b_)) (o := ((poff b_) + 1)) (ty := 31) (dst := some 10) (by kernel_rfl) (by kernel_rfl) (by kernel_rfl) hc ?_
    refine reg_run [.plain, .plain] 7 [(0, [], Value.pointer b_), (3, [], Value.int .i64 i), (12, [], Value.bool (decide (i < ((v10.len : Nat) : Int))))] (by kernel_rfl) (by kernel_rfl) ?_
    refine reg_end [(0, Value.pointer b_), (3, Value.int .i64 i), (12, Value.bool (decide (i < ((v10.len : Nat) : Int))))] (by kernel_rfl) (by kernel_rfl) ?_
    change WpE _ _ c_towpathlaw01_Book_lookByte_13 _ _ _
    refine wpE_cond (o := (Operand.tmp 12)) (b := (decide (i < ((v10.len : Nat) : Int)))) (x := c_towpathlaw01_Book_lookByte_14) (y := c_towpathlaw01_Book_lookByte_15) (by kernel_rfl) (by kernel_rfl) (fun hb => ?_) (fun hb => ?_)
    · replace h := h.1 hb
      refine wpE_skip (by kernel_rfl) ?_
      change WpE _ _ c_towpathlaw01_Book_lookByte_16 _ _ _
      refine wpE_seq (x := c_towpathlaw01_Book_lookByte_17) (y := c_towpathlaw01_Book_lookByte_56) (by kernel_rfl) ?_
      refine wpE_block (id := 1) (x := c_towpathlaw01_Book_lookByte_18) (by kernel_rfl) ?_
      refine wpE_seq (x := c_towpathlaw01_Book_lookByte_19) (y := c_towpathlaw01_Book_lookByte_21) (by kernel_rfl) ?_
      refine wpE_region (id := 4) (ops := r_towpathlaw01_Book_lookByte_19) (by kernel_rfl) ?_
      refine reg_run [.plain] 1 [(0, [], Value.pointer b_), (3, [], Value.int .i64 i), (15, [], Value.pointer b_)] (by kernel_rfl) (by kernel_rfl) ?_
      obtain ⟨hp_46, h⟩ := h
      refine reg_conv [(0, [], Value.pointer b_), (3, [], Value.int .i64 i), (15, [], Value.pointer (some ⟨(pblk b_), (poff b_), none⟩))] (congrArg (fun pp => ([(0, [], Value.pointer b_), (3, [], Value.int .i64 i), (15, [], Value.pointer pp)] : GEnv)) hp_46) ?_
      refine reg_run [.plain] 2 [(0, [], Value.pointer b_), (3, [], Value.int .i64 i), (15, [], Value.pointer (some ⟨(pblk b_), (poff b_), none⟩)), (16, [], Value.pointer (some ⟨(pblk b_), (poff b_), none⟩))] (by kernel_rfl) (by kernel_rfl) ?_
      refine reg_run [.plain] 3 [(0, [], Value.pointer b_), (3, [], Value.int .i64 i), (17, [], Value.pointer (some ⟨(pblk b_), (poff b_) + 1, none⟩))] (by kernel_rfl) (by kernel_rfl) ?_
      obtain ⟨v18, hc, h⟩ := h
      refine reg_load1 (t := 31) (a := (Go.Operand.tmp 17)) (b := (pblk b_)) (o := ((poff b_) + 1)) (ty := 31) (dst := some 18) (by kernel_rfl) (by kernel_rfl) (by kernel_rfl) hc ?_
      refine reg_run [.plain] 5 [(0, [], Value.pointer b_), (3, [], Value.int .i64 i), (18, [], Value.slice v18.ptr v18.len v18.cap), (19, [], Value.int .i64 i)] (by kernel_rfl) (by kernel_rfl) ?_
      obtain ⟨hp_47, h⟩ := h
      refine reg_conv [(0, [], Value.pointer b_), (3, [], Value.int .i64 i), (18, [], Value.slice (some ⟨(pblk v18.ptr), (poff v18.ptr), none⟩) v18.len v18.cap), (19, [], Value.int .i64 i)] (congrArg (fun pp => ([(0, [], Value.pointer b_), (3, [], Value.int .i64 i), (18, [], Value.slice pp v18.len v18.cap), (19, [], Value.int .i64 i)] : GEnv)) hp_47) ?_
      obtain ⟨h0, h1, h⟩ := h
      refine reg_indexS (t := 31) (e := 67) (x := (Go.Operand.tmp 18)) (ix := (Go.Operand.tmp 19)) (b := (pblk v18.ptr)) (o := (poff v18.ptr)) (l := v18.len) (c := v18.cap) (k := .i64) (j := i) (ty := 0) (dst := some 20) (sz := 3) (by kernel_rfl) (by kernel_rfl) (by kernel_rfl) (by kernel_rfl) (by kernel_rfl) h0 h1 ?_
      refine reg_run [] 6 [(0, [], Value.pointer b_), (3, [], Value.int .i64 i), (20, [], Value.pointer (some ⟨(pblk v18.ptr), (poff v18.ptr) + i.toNat * 3, none⟩))] (by kernel_rfl) (by kernel_rfl) ?_
      obtain ⟨v21, hc, h⟩ := h
      refine reg_loadN (t := 67) (a := (Go.Operand.tmp 20)) (b := (pblk v18.ptr)) (o := ((poff v18.ptr) + i.toNat * 3)) (ty := 67) (dst := some 21) [Value.slice v21.l.ptr v21.l.len v21.l.cap, Value.slice v21.long.ptr v21.long.len v21.long.cap, Value.int .i64 v21.n] (by kernel_rfl) (by kernel_rfl) (by kernel_rfl) (k := 3) (by kernel_rfl) (by kernel_rfl) hc ?_
      refine reg_run [] 7 [(0, [], Value.pointer b_), (3, [], Value.int .i64 i), (21, [], Value.agg #[Value.slice v21.l.ptr v21.l.len v21.l.cap, Value.slice v21.long.ptr v21.long.len v21.long.cap, Value.int .i64 v21.n])] (by kernel_rfl) (by kernel_rfl) ?_
      refine reg_new (op := (Go.Op.alloc 67)) (ty := 0) (dst := some 4) (fun bb => Value.pointer (some ⟨bb, 0, none⟩)) (Obj.cells ([Value.slice none 0 0, Value.slice none 0 0, Value.int .i64 0]).toArray ty_towpathlaw01_heldByte (0, 0)) (by kernel_rfl) (by kernel_rfl) (fun b_1 w2 hb hw => ?_)
      replace h := h b_1 w2 hb hw
      clear hb hw
      refine reg_run [] 8 [(0, [], Value.pointer b_), (3, [], Value.int .i64 i), (4, [], Value.pointer (some ⟨b_1, 0, none⟩)), (21, [], Value.agg #[Value.slice v21.l.ptr v21.l.len v21.l.cap, Value.slice v21.long.ptr v21.long.len v21.long.cap, Value.int .i64 v21.n])] (by kernel_rfl) (by kernel_rfl) ?_
      obtain ⟨hc, h⟩ := h
      refine reg_store (t := 67) (a := (Go.Operand.tmp 4)) (x := (Go.Operand.tmp 21)) (b := b_1) (o := 0) (ty := 0) (dst := none) [Value.slice v21.l.ptr v21.l.len v21.l.cap, Value.slice v21.long.ptr v21.long.len v21.long.cap, Value.int .i64 v21.n] (by kernel_rfl) (by kernel_rfl) (by kernel_rfl) (k := 3) (by kernel_rfl) (by kernel_rfl) (by kernel_rfl) hc (fun w3 hw => ?_)
      replace h := h w3 hw
      clear hw
      refine reg_end [(0, Value.pointer b_), (3, Value.int .i64 i), (4, Value.pointer (some ⟨b_1, 0, none⟩))] (by kernel_rfl) (by kernel_rfl) ?_
      change WpE _ _ c_towpathlaw01_Book_lookByte_21 _ _ _
      refine wpE_seq (x := c_towpathlaw01_Book_lookByte_22) (y := c_towpathlaw01_Book_lookByte_31) (by kernel_rfl) ?_
      refine wpE_seq (x := c_towpathlaw01_Book_lookByte_23) (y := c_towpathlaw01_Book_lookByte_25) (by kernel_rfl) ?_
      refine wpE_region (id := 5) (ops := r_towpathlaw01_Book_lookByte_23) (by kernel_rfl) ?_
      refine reg_run [.plain] 1 [(0, [], Value.pointer b_), (3, [], Value.int .i64 i), (4, [], Value.pointer (some ⟨b_1, 0, none⟩)), (22, [], Value.pointer (some ⟨b_1, 1, none⟩))] (by kernel_rfl) (by kernel_rfl) ?_
      obtain ⟨v23, hc, h⟩ := h
      refine reg_load1 (t := 45) (a := (Go.Operand.tmp 22)) (b := b_1) (o := 1) (ty := 45) (dst := some 23) (by kernel_rfl) (by kernel_rfl) (by kernel_rfl) hc ?_
      refine reg_run [.plain, .plain] 4 [(0, [], Value.pointer b_), (3, [], Value.int .i64 i), (4, [], Value.pointer (some ⟨b_1, 0, none⟩)), (24, [], Value.int .i64 ((v23.len : Nat) : Int)), (25, [], Value.pointer (some ⟨b_1, 0, none⟩))] (by kernel_rfl) (by kernel_rfl) ?_
      obtain ⟨v26, hc, h⟩ := h
      refine reg_load1 (t := 45) (a := (Go.Operand.tmp 25)) (b := b_1) (o := 0) (ty := 45) (dst := some 26) (by kernel_rfl) (by kernel_rfl) (by kernel_rfl) hc ?_
      refine reg_run [.plain, .plain, .plain] 8 [(0, [], Value.pointer b_), (3, [], Value.int .i64 i), (4, [], Value.pointer (some ⟨b_1, 0, none⟩)), (29, [], Value.bool (((v23.len : Nat) : Int) != (IntKind.i64.wrap (((v26.len : Nat) : Int) + 70))))] (by kernel_rfl) (by kernel_rfl) ?_
      refine reg_end [(0, Value.pointer b_), (3, Value.int .i64 i), (4, Value.pointer (some ⟨b_1, 0, none⟩)), (29, Value.bool (((v23.len : Nat) : Int) != (IntKind.i64.wrap (((v26.len : Nat) : Int) + 70))))] (by kernel_rfl) (by kernel_rfl) ?_
      change WpE _ _ c_towpathlaw01_Book_lookByte_25 _ _ _
      refine wpE_cond (o := (Operand.tmp 29)) (b := (((v23.len : Nat) : Int) != (IntKind.i64.wrap (((v26.len : Nat) : Int) + 70)))) (x := c_towpathlaw01_Book_lookByte_26) (y := c_towpathlaw01_Book_lookByte_30) (by kernel_rfl) (by kernel_rfl) (fun hb => ?_) (fun hb => ?_)
      · replace h := h.1 hb
        refine wpE_seq (x := c_towpathlaw01_Book_lookByte_27) (y := c_towpathlaw01_Book_lookByte_29) (by kernel_rfl) ?_
        refine wpE_region (id := 6) (ops := r_towpathlaw01_Book_lookByte_27) (by kernel_rfl) ?_
        refine reg_run [.plain] 1 [(2, [], Value.bool false)] (by kernel_rfl) (by kernel_rfl) ?_
        refine reg_end [(2, Value.bool false)] (by kernel_rfl) (by kernel_rfl) ?_
        change WpE _ _ c_towpathlaw01_Book_lookByte_29 _ _ _
        refine wpE_ret (by kernel_rfl) ?_
        repeat (first | refine seqQ_ret ?_ | refine blockQ_ret ?_ | refine loopQ_ret ?_ | refine cutQ_ret ?_)
        exact retS (rs := [(Go.ResultVar.tmp 2)]) (v := Value.bool false) (by kernel_rfl) (⟨by kernel_rfl, trivial⟩) ⟨false, rfl, h⟩
      · replace h := h.2 hb
        refine wpE_skip (by kernel_rfl) ?_
        change WpE _ _ c_towpathlaw01_Book_lookByte_31 _ _ _
        refine wpE_seq (x := c_towpathlaw01_Book_lookByte_32) (y := c_towpathlaw01_Book_lookByte_34) (by kernel_rfl) ?_
        refine wpE_region (id := 7) (ops := r_towpathlaw01_Book_lookByte_32) (by kernel_rfl) ?_
        refine reg_run [.plain] 1 [(0, [], Value.pointer b_), (3, [], Value.int .i64 i), (4, [], Value.pointer (some ⟨b_1, 0, none⟩)), (5, [], Value.int .i64 0)] (by kernel_rfl) (by kernel_rfl) ?_
        refine reg_end [(0, Value.pointer b_), (3, Value.int .i64 i), (4, Value.pointer (some ⟨b_1, 0, none⟩)), (5, Value.int .i64 0)] (by kernel_rfl) (by kernel_rfl) ?_
        change WpE _ _ c_towpathlaw01_Book_lookByte_34 _ _ _
        refine wpE_block (id := 2) (x := c_towpathlaw01_Book_lookByte_35) (by kernel_rfl) ?_
        obtain ⟨I, μ, h0, hr⟩ := h
        refine wpE_loop (x := c_towpathlaw01_Book_lookByte_36) (by kernel_rfl) (fun m l w => ∃ (k : Int), l = [(0, Value.pointer b_), (3, Value.int .i64 i), (4, Value.pointer (some ⟨b_1, 0, none⟩)), (5, Value.int .i64 k)] ∧ I k w ∧ μ k w = m) (l' := [(0, Value.pointer b_), (3, Value.int .i64 i), (4, Value.pointer (some ⟨b_1, 0, none⟩)), (5, Value.int .i64 0)]) (Sub.mk (by kernel_rfl)) ⟨0, rfl, h0, rfl⟩ ?_
        rintro _ _ w4 ⟨k, rfl, hI, rfl⟩
        obtain ⟨again_1, again_1_h, h⟩ : ∃ again_1 : Int → World → Prop, (∀ k' w', again_1 k' w' → I k' w' ∧ μ k' w' < μ k w4) ∧ F_towpathlaw01_Book_lookByte_L1 R i again_ b_1 again_1 k w4 := ⟨_, fun _ _ h => h, hr k w4 hI⟩
        clear h0 hI
        unfold F_towpathlaw01_Book_lookByte_L1 at h
        refine wpE_seq (x := c_towpathlaw01_Book_lookByte_37) (y := c_towpathlaw01_Book_lookByte_43) (by kernel_rfl) ?_
        refine wpE_seq (x := c_towpathlaw01_Book_lookByte_38) (y := c_towpathlaw01_Book_lookByte_40) (by kernel_rfl) ?_
        refine wpE_region (id := 8) (ops := r_towpathlaw01_Book_lookByte_38) (by kernel_rfl) ?_
        refine reg_run [.plain, .plain] 2 [(0, [], Value.pointer b_), (3, [], Value.int .i64 i), (4, [], Value.pointer (some ⟨b_1, 0, none⟩)), (5, [], Value.int .i64 k), (30, [], Value.int .i64 k), (31, [], Value.pointer (some ⟨b_1, 1, none⟩))] (by kernel_rfl) (by kernel_rfl) ?_
        obtain ⟨v32, hc, h⟩ := h
        refine reg_load1 (t := 45) (a := (Go.Operand.tmp 31)) (b := b_1) (o := 1) (ty := 45) (dst := some 32) (by kernel_rfl) (by kernel_rfl) (by kernel_rfl) hc ?_
        refine reg_run [.plain, .plain] 5 [(0, [], Value.pointer b_), (3, [], Value.int .i64 i), (4, [], Value.pointer (some ⟨b_1, 0, none⟩)), (5, [], Value.int .i64 k), (34, [], Value.bool (decide (k < ((v32.len : Nat) : Int))))] (by kernel_rfl) (by kernel_rfl) ?_
        refine reg_end [(0, Value.pointer b_), (3, Value.int .i64 i), (4, Value.pointer (some ⟨b_1, 0, none⟩)), (5, Value.int .i64 k), (34, Value.bool (decide (k < ((v32.len : Nat) : Int))))] (by kernel_rfl) (by kernel_rfl) ?_
        change WpE _ _ c_towpathlaw01_Book_lookByte_40 _ _ _
        refine wpE_cond (o := (Operand.tmp 34)) (b := (decide (k < ((v32.len : Nat) : Int)))) (x := c_towpathlaw01_Book_lookByte_41) (y := c_towpathlaw01_Book_lookByte_42) (by kernel_rfl) (by kernel_rfl) (fun hb => ?_) (fun hb => ?_)
        · replace h := h.1 hb
          refine wpE_skip (by kernel_rfl) ?_
          change WpE _ _ c_towpathlaw01_Book_lookByte_43 _ _ _
          refine wpE_seq (x := c_towpathlaw01_Book_lookByte_44) (y := c_towpathlaw01_Book_lookByte_54) (by kernel_rfl) ?_
          refine wpE_block (id := 3) (x := c_towpathlaw01_Book_lookByte_45) (by kernel_rfl) ?_
          refine wpE_seq_cut (x := c_towpathlaw01_Book_lookByte_46) (y := c_towpathlaw01_Book_lookByte_48) (by kernel_rfl) (fun l w => ∃ (t63 : Bool), l = [(0, Value.pointer b_), (3, Value.int .i64 i), (4, Value.pointer (some ⟨b_1, 0, none⟩)), (5, Value.int .i64 k), (63, Value.bool t63)] ∧ F_towpathlaw01_Book_lookByte_k2 R k again_1 t63 w) ?_ ?_
          · refine wpE_drawregion (id := 10) (ops := r_towpathlaw01_Book_lookByte_46) (by kernel_rfl) (by kernel_rfl) (by kernel_rfl) ?_
            refine qreg_run [.plain] 1 [(0, [], Value.pointer b_), (3, [], Value.int .i64 i), (4, [], Value.pointer (some ⟨b_1, 0, none⟩)), (5, [], Value.int .i64 k), (37, [], Value.pointer (some ⟨b_1, 1, none⟩))] (by kernel_rfl) (by kernel_rfl) ?_
            obtain ⟨v38, hc, h⟩ := h
            refine qreg_load1 (t := 45) (a := (Go.Operand.tmp 37)) (b := b_1) (o := 1) (ty := 45) (dst := some 38) (by kernel_rfl) (by kernel_rfl) (by kernel_rfl) hc ?_
            refine qreg_run [.plain] 3 [(0, [], Value.pointer b_), (3, [], Value.int .i64 i), (4, [], Value.pointer (some ⟨b_1, 0, none⟩)), (5, [], Value.int .i64 k), (38, [], Value.slice v38.ptr v38.len v38.cap), (39, [], Value.int .i64 k)] (by kernel_rfl) (by kernel_rfl) ?_
            obtain ⟨hp_54, h⟩ := h
            refine qreg_conv [(0, [], Value.pointer b_), (3, [], Value.int .i64 i), (4, [], Value.pointer (some ⟨b_1, 0, none⟩)), (5, [], Value.int .i64 k), (38, [], Value.slice (some ⟨(pblk v38.ptr), (poff v38.ptr), none⟩) v38.len v38.cap), (39, [], Value.int .i64 k)] (congrArg (fun pp => ([(0, [], Value.pointer b_), (3, [], Value.int .i64 i), (4, [], Value.pointer (some ⟨b_1, 0, none⟩)), (5, [], Value.int .i64 k), (38, [], Value.slice pp v38.len v38.cap), (39, [], Value.int .i64 k)] : GEnv)) hp_54) ?_
            obtain ⟨h0, h1, h⟩ := h
            refine qreg_indexS1 (t := 45) (e := 5) (x := (Go.Operand.tmp 38)) (ix := (Go.Operand.tmp 39)) (b := (pblk v38.ptr)) (o := (poff v38.ptr)) (l := v38.len) (c := v38.cap) (k := .i64) (j := k) (ty := 0) (dst := some 40) (by kernel_rfl) (by kernel_rfl) (by kernel_rfl) (by kernel_rfl) (by kernel_rfl) h0 h1 ?_
            refine qreg_run [] 4 [(0, [], Value.pointer b_), (3, [], Value.int .i64 i), (4, [], Value.pointer (some ⟨b_1, 0, none⟩)), (5, [], Value.int .i64 k), (40, [], Value.pointer (some ⟨(pblk v38.ptr), (poff v38.ptr) + k.toNat, none⟩))] (by kernel_rfl) (by kernel_rfl) ?_
            obtain ⟨v41, hc, h⟩ := h
            refine qreg_load1 (t := 5) (a := (Go.Operand.tmp 40)) (b := (pblk v38.ptr)) (o := ((poff v38.ptr) + k.toNat)) (ty := 5) (dst := some 41) (by kernel_rfl) (by kernel_rfl) (by kernel_rfl) hc ?_
            refine qreg_run [.plain] 6 [(0, [], Value.pointer b_), (3, [], Value.int .i64 i), (4, [], Value.pointer (some ⟨b_1, 0, none⟩)), (5, [], Value.int .i64 k), (41, [], Value.int .u8 v41), (42, [], Value.pointer (some ⟨b_1, 2, none⟩))] (by kernel_rfl) (by kernel_rfl) ?_
            obtain ⟨v43, hc, h⟩ := h
            refine qreg_load1 (t := 3) (a := (Go.Operand.tmp 42)) (b := b_1) (o := 2) (ty := 3) (dst := some 43) (by kernel_rfl) (by kernel_rfl) (by kernel_rfl) hc ?_
            refine qreg_run [] 7 [(0, [], Value.pointer b_), (3, [], Value.int .i64 i), (4, [], Value.pointer (some ⟨b_1, 0, none⟩)), (5, [], Value.int .i64 k), (41, [], Value.int .u8 v41), (43, [], Value.int .i64 v43)] (by kernel_rfl) (by kernel_rfl) ?_
            obtain ⟨v44, hq, h⟩ := h
            refine qreg_enter (op := (Go.Op.call (Go.Call.mk (Go.Callee.value (Go.Operand.func 79)) #[(Go.Operand.tmp 41), (Go.Operand.tmp 43)] #[5, 3]))) (ty := 4) (dst := some 44) 79 #[Value.int .u8 v41, Value.int .i64 v43] (Value.bool v44) (by kernel_rfl) (fun ww => by kernel_rfl) (fun w' he => Calls.mono (hq w' he) (by rintro _ w'' ⟨_, rfl, rfl, hE⟩; exact ⟨rfl, hE⟩)) ?_
            clear hq
            refine qreg_run [.plain, .plain, .plain, .plain] 12 [(0, [], Value.pointer b_), (3, [], Value.int .i64 i), (4, [], Value.pointer (some ⟨b_1, 0, none⟩)), (5, [], Value.int .i64 k), (46, [], Value.bool (!v44)), (47, [(46, false)], Value.int .i64 k), (48, [(46, false)], Value.pointer (some ⟨b_1, 0, none⟩))] (by kernel_rfl) (by kernel_rfl) ?_
            refine qreg_split 46 (!v44) (by kernel_rfl) (fun hb => ?_) (fun hb => ?_)
            · replace h := h.1 hb
              refine qreg_run [] 12 [(0, [], Value.pointer b_), (3, [], Value.int .i64 i), (4, [], Value.pointer (some ⟨b_1, 0, none⟩)), (5, [], Value.int .i64 k), (46, [], Value.bool true), (47, [], undef), (48, [], undef)] (by kernel_rfl) (by kernel_rfl) ?_
              refine qreg_run [.skip, .skip, .skip, .skip, .skip, .skip, .skip, .skip, .skip, .skip, .skip, .skip, .skip, .skip, .plain] 27 [(0, [], Value.pointer b_), (3, [], Value.int .i64 i), (4, [], Value.pointer (some ⟨b_1, 0, none⟩)), (5, [], Value.int .i64 k), (63, [], Value.bool true)] (by kernel_rfl) (by kernel_rfl) ?_
              refine qreg_end [(0, Value.pointer b_), (3, Value.int .i64 i), (4, Value.pointer (some ⟨b_1, 0, none⟩)), (5, Value.int .i64 k), (63, Value.bool true)] (by kernel_rfl) (by kernel_rfl) (fun w7 hw => ?_)
              replace h := h w7 hw
              clear hw
              exact ⟨[(0, Value.pointer b_), (3, Value.int .i64 i), (4, Value.pointer (some ⟨b_1, 0, none⟩)), (5, Value.int .i64 k), (63, Value.bool true)], Sub.mk (by kernel_rfl), true, rfl, h⟩
            · replace h := h.2 hb
              refine qreg_run [] 12 [(0, [], Value.pointer b_), (3, [], Value.int .i64 i), (4, [], Value.pointer (some ⟨b_1, 0, none⟩)), (5, [], Value.int .i64 k), (46, [], Value.bool false), (47, [], Value.int .i64 k), (48, [], Value.pointer (some ⟨b_1, 0, none⟩))] (by kernel_rfl) (by kernel_rfl) ?_
              refine qreg_run [] 12 [(0, [], Value.pointer b_), (3, [], Value.int .i64 i), (4, [], Value.pointer (some ⟨b_1, 0, none⟩)), (5, [], Value.int .i64 k), (46, [], Value.bool false), (47, [], Value.int .i64 k), (48, [], Value.pointer (some ⟨b_1, 0, none⟩))] (by kernel_rfl) (by kernel_rfl) ?_
              obtain ⟨v49, hc, h⟩ := h
              refine qreg_load1 (t := 45) (a := (Go.Operand.tmp 48)) (b := b_1) (o := 0) (ty := 45) (dst := some 49) (by kernel_rfl) (by kernel_rfl) (by kernel_rfl) hc ?_
              refine qreg_run [.sure, .sure, .sure, .plain] 17 [(0, [], Value.pointer b_), (3, [], Value.int .i64 i), (4, [], Value.pointer (some ⟨b_1, 0, none⟩)), (5, [], Value.int .i64 k), (46, [], Value.bool false), (52, [], Value.bool (decide (k < ((v49.len : Nat) : Int)))), (53, [(52, true)], Value.pointer (some ⟨b_1, 0, none⟩))] (by kernel_rfl) (by kernel_rfl) ?_
              refine qreg_split 52 (decide (k < ((v49.len : Nat) : Int))) (by kernel_rfl) (fun hb => ?_) (fun hb => ?_)
              · replace h := h.1 hb
                refine qreg_run [] 17 [(0, [], Value.pointer b_), (3, [], Value.int .i64 i), (4, [], Value.pointer (some ⟨b_1, 0, none⟩)), (5, [], Value.int .i64 k), (46, [], Value.bool false), (52, [], Value.bool true), (53, [], Value.pointer (some ⟨b_1, 0, none⟩))] (by kernel_rfl) (by kernel_rfl) ?_
                refine qreg_run [] 17 [(0, [], Value.pointer b_), (3, [], Value.int .i64 i), (4, [], Value.pointer (some ⟨b_1, 0, none⟩)), (5, [], Value.int .i64 k), (46, [], Value.bool false), (52, [], Value.bool true), (53, [], Value.pointer (some ⟨b_1, 0, none⟩))] (by kernel_rfl) (by kernel_rfl) ?_
                obtain ⟨v54, hc, h⟩ := h
                refine qreg_load1 (t := 45) (a := (Go.Operand.tmp 53)) (b := b_1) (o := 0) (ty := 45) (dst := some 54) (by kernel_rfl) (by kernel_rfl) (by kernel_rfl) hc ?_
                refine qreg_run [.sure] 19 [(0, [], Value.pointer b_), (3, [], Value.int .i64 i), (4, [], Value.pointer (some ⟨b_1, 0, none⟩)), (5, [], Value.int .i64 k), (46, [], Value.bool false), (52, [], Value.bool true), (54, [], Value.slice v54.ptr v54.len v54.cap), (55, [], Value.int .i64 k)] (by kernel_rfl) (by kernel_rfl) ?_
                obtain ⟨hp_55, h⟩ := h
                refine qreg_conv [(0, [], Value.pointer b_), (3, [], Value.int .i64 i), (4, [], Value.pointer (some ⟨b_1, 0, none⟩)), (5, [], Value.int .i64 k), (46, [], Value.bool false), (52, [], Value.bool true), (54, [], Value.slice (some ⟨(pblk v54.ptr), (poff v54.ptr), none⟩) v54.len v54.cap), (55, [], Value.int .i64 k)] (congrArg (fun pp => ([(0, [], Value.pointer b_), (3, [], Value.int .i64 i), (4, [], Value.pointer (some ⟨b_1, 0, none⟩)), (5, [], Value.int .i64 k), (46, [], Value.bool false), (52, [], Value.bool true), (54, [], Value.slice pp v54.len v54.cap), (55, [], Value.int .i64 k)] : GEnv)) hp_55) ?_
                obtain ⟨h0, h1, h⟩ := h
                refine qreg_indexS1 (t := 45) (e := 5) (x := (Go.Operand.tmp 54)) (ix := (Go.Operand.tmp 55)) (b := (pblk v54.ptr)) (o := (poff v54.ptr)) (l := v54.len) (c := v54.cap) (k := .i64) (j := k) (ty := 0) (dst := some 56) (by kernel_rfl) (by kernel_rfl) (by kernel_rfl) (by kernel_rfl) (by kernel_rfl) h0 h1 ?_
                refine qreg_run [] 20 [(0, [], Value.pointer b_), (3, [], Value.int .i64 i), (4, [], Value.pointer (some ⟨b_1, 0, none⟩)), (5, [], Value.int .i64 k), (46, [], Value.bool false), (52, [], Value.bool true), (56, [], Value.pointer (some ⟨(pblk v54.ptr), (poff v54.ptr) + k.toNat, none⟩))] (by kernel_rfl) (by kernel_rfl) ?_
                obtain ⟨v57, hc, h⟩ := h
                refine qreg_load1 (t := 5) (a := (Go.Operand.tmp 56)) (b := (pblk v54.ptr)) (o := ((poff v54.ptr) + k.toNat)) (ty := 5) (dst := some 57) (by kernel_rfl) (by kernel_rfl) (by kernel_rfl) hc ?_
                refine qreg_run [.sure] 22 [(0, [], Value.pointer b_), (3, [], Value.int .i64 i), (4, [], Value.pointer (some ⟨b_1, 0, none⟩)), (5, [], Value.int .i64 k), (46, [], Value.bool false), (52, [], Value.bool true), (57, [], Value.int .u8 v57), (58, [], Value.pointer (some ⟨b_1, 2, none⟩))] (by kernel_rfl) (by kernel_rfl) ?_
                obtain ⟨v59, hc, h⟩ := h
                refine qreg_load1 (t := 3) (a := (Go.Operand.tmp 58)) (b := b_1) (o := 2) (ty := 3) (dst := some 59) (by kernel_rfl) (by kernel_rfl) (by kernel_rfl) hc ?_
                refine qreg_run [] 23 [(0, [], Value.pointer b_), (3, [], Value.int .i64 i), (4, [], Value.pointer (some ⟨b_1, 0, none⟩)), (5, [], Value.int .i64 k), (46, [], Value.bool false), (52, [], Value.bool true), (57, [], Value.int .u8 v57), (59, [], Value.int .i64 v59)] (by kernel_rfl) (by kernel_rfl) ?_
                obtain ⟨v60, hq, h⟩ := h
                refine qreg_enter (op := (Go.Op.call (Go.Call.mk (Go.Callee.value (Go.Operand.func 79)) #[(Go.Operand.tmp 57), (Go.Operand.tmp 59)] #[5, 3]))) (ty := 4) (dst := some 60) 79 #[Value.int .u8 v57, Value.int .i64 v59] (Value.bool v60) (by kernel_rfl) (fun ww => by kernel_rfl) (fun w' he => Calls.mono (hq w' he) (by rintro _ w'' ⟨_, rfl, rfl, hE⟩; exact ⟨rfl, hE⟩)) ?_
                clear hq
                refine qreg_run [.sure, .sure, .plain] 27 [(0, [], Value.pointer b_), (3, [], Value.int .i64 i), (4, [], Value.pointer (some ⟨b_1, 0, none⟩)), (5, [], Value.int .i64 k), (63, [], Value.bool (!v60))] (by kernel_rfl) (by kernel_rfl) ?_
                refine qreg_end [(0, Value.pointer b_), (3, Value.int .i64 i), (4, Value.pointer (some ⟨b_1, 0, none⟩)), (5, Value.int .i64 k), (63, Value.bool (!v60))] (by kernel_rfl) (by kernel_rfl) (fun w9 hw => ?_)
                replace h := h w9 hw
                clear hw
                exact ⟨[(0, Value.pointer b_), (3, Value.int .i64 i), (4, Value.pointer (some ⟨b_1, 0, none⟩)), (5, Value.int .i64 k), (63, Value.bool (!v60))], Sub.mk (by kernel_rfl), (!v60), rfl, h⟩
              · replace h := h.2 hb
                refine qreg_run [] 17 [(0, [], Value.pointer b_), (3, [], Value.int .i64 i), (4, [], Value.pointer (some ⟨b_1, 0, none⟩)), (5, [], Value.int .i64 k), (46, [], Value.bool false), (52, [], Value.bool false), (53, [], undef)] (by kernel_rfl) (by kernel_rfl) ?_
                refine qreg_run [.skip, .skip, .skip, .skip, .skip, .skip, .skip, .skip, .sure, .plain] 27 [(0, [], Value.pointer b_), (3, [], Value.int .i64 i), (4, [], Value.pointer (some ⟨b_1, 0, none⟩)), (5, [], Value.int .i64 k), (63, [], Value.bool false)] (by kernel_rfl) (by kernel_rfl) ?_
                refine qreg_end [(0, Value.pointer b_), (3, Value.int .i64 i), (4, Value.pointer (some ⟨b_1, 0, none⟩)), (5, Value.int .i64 k), (63, Value.bool false)] (by kernel_rfl) (by kernel_rfl) (fun w10 hw => ?_)
                replace h := h w10 hw
                clear hw
                exact ⟨[(0, Value.pointer b_), (3, Value.int .i64 i), (4, Value.pointer (some ⟨b_1, 0, none⟩)), (5, Value.int .i64 k), (63, Value.bool false)], Sub.mk (by kernel_rfl), false, rfl, h⟩
          · rintro _ w5 ⟨t63, rfl, h⟩
            unfold F_towpathlaw01_Book_lookByte_k2 at h
            refine wpE_cond (o := (Operand.tmp 63)) (b := t63) (x := c_towpathlaw01_Book_lookByte_49) (y := c_towpathlaw01_Book_lookByte_53) (by kernel_rfl) (by kernel_rfl) (fun hb => ?_) (fun hb => ?_)
            · replace h := h.1 hb
              refine wpE_seq (x := c_towpathlaw01_Book_lookByte_50) (y := c_towpathlaw01_Book_lookByte_52) (by kernel_rfl) ?_
              refine wpE_region (id := 11) (ops := r_towpathlaw01_Book_lookByte_50) (by kernel_rfl) ?_
              refine reg_run [.plain] 1 [(2, [], Value.bool false)] (by kernel_rfl) (by kernel_rfl) ?_
              refine reg_end [(2, Value.bool false)] (by kernel_rfl) (by kernel_rfl) ?_
              change WpE _ _ c_towpathlaw01_Book_lookByte_52 _ _ _
              refine wpE_ret (by kernel_rfl) ?_
              repeat (first | refine seqQ_ret ?_ | refine blockQ_ret ?_ | refine loopQ_ret ?_ | refine cutQ_ret ?_)
              exact retS (rs := [(Go.ResultVar.tmp 2)]) (v := Value.bool false) (by kernel_rfl) (⟨by kernel_rfl, trivial⟩) ⟨false, rfl, h⟩
            · replace h := h.2 hb
              refine wpE_skip (by kernel_rfl) ?_
              change WpE _ _ c_towpathlaw01_Book_lookByte_54 _ _ _
              refine wpE_region (id := 9) (ops := r_towpathlaw01_Book_lookByte_54) (by kernel_rfl) ?_
              refine reg_run [.plain, .plain, .plain] 3 [(0, [], Value.pointer b_), (3, [], Value.int .i64 i), (4, [], Value.pointer (some ⟨b_1, 0, none⟩)), (5, [], Value.int .i64 (IntKind.i64.wrap (k + 1)))] (by kernel_rfl) (by kernel_rfl) ?_
              refine reg_end [(0, Value.pointer b_), (3, Value.int .i64 i), (4, Value.pointer (some ⟨b_1, 0, none⟩)), (5, Value.int .i64 (IntKind.i64.wrap (k + 1)))] (by kernel_rfl) (by kernel_rfl) ?_
              have hb_ := again_1_h _ _ h
              exact ⟨_, hb_.2, [(0, Value.pointer b_), (3, Value.int .i64 i), (4, Value.pointer (some ⟨b_1, 0, none⟩)), (5, Value.int .i64 (IntKind.i64.wrap (k + 1)))], Sub.mk (by kernel_rfl), (IntKind.i64.wrap (k + 1)), rfl, hb_.1, rfl⟩
        · replace h := h.2 hb
          refine wpE_exit (id := 2) (by kernel_rfl) ?_
          change WpE _ _ c_towpathlaw01_Book_lookByte_56 _ _ _
          refine wpE_region (id := 3) (ops := r_towpathlaw01_Book_lookByte_56) (by kernel_rfl) ?_
          refine reg_run [.plain, .plain, .plain] 3 [(0, [], Value.pointer b_), (3, [], Value.int .i64 (IntKind.i64.wrap (i + 1)))] (by kernel_rfl) (by kernel_rfl) ?_
          refine reg_end [(0, Value.pointer b_), (3, Value.int .i64 (IntKind.i64.wrap (i + 1)))] (by kernel_rfl) (by kernel_rfl) ?_
          have hb_ := again__h _ _ h
          exact ⟨_, hb_.2, [(0, Value.pointer b_), (3, Value.int .i64 (IntKind.i64.wrap (i + 1)))], Sub.mk (by kernel_rfl), (IntKind.i64.wrap (i + 1)), rfl, hb_.1, rfl⟩
    · replace h := h.2 hb
      refine wpE_exit (id := 0) (by kernel_rfl) ?_
      change WpE _ _ c_towpathlaw01_Book_lookByte_58 _ _ _
      refine wpE_seq (x := c_towpathlaw01_Book_lookByte_59) (y := c_towpathlaw01_Book_lookByte_61) (by kernel_rfl) ?_
      refine wpE_region (id := 12) (ops := r_towpathlaw01_Book_lookByte_59) (by kernel_rfl) ?_
      refine reg_run [.plain] 1 [(2, [], Value.bool true)] (by kernel_rfl) (by kernel_rfl) ?_
      refine reg_end [(2, Value.bool true)] (by kernel_rfl) (by kernel_rfl) ?_
      change WpE _ _ c_towpathlaw01_Book_lookByte_61 _ _ _
      refine wpE_ret (by kernel_rfl) ?_
      repeat (first | refine seqQ_ret ?_ | refine blockQ_ret ?_ | refine loopQ_ret ?_ | refine cutQ_ret ?_)
      exact retS (rs := [(Go.ResultVar.tmp 2)]) (v := Value.bool true) (by kernel_rfl) (⟨by kernel_rfl, trivial⟩) ⟨true, rfl, h⟩
  · rintro e w' ⟨v, rfl, r0, rfl, h⟩; exact ⟨r0, rfl, h⟩

/-! ### (*towpath/towpathlaw01.Book).lookInt (function 56) -/
noncomputable def c_towpathlaw01_Book_lookInt_0 : Code := (Tryz.f56.body).getD Code.skip
noncomputable def c_towpathlaw01_Book_lookInt_1 : Code := Code.l c_towpathlaw01_Book_lookInt_0
noncomputable def r_towpathlaw01_Book_lookInt_1 : Array Oper := Code.ops c_towpathlaw01_Book_lookInt_1
noncomputable def c_towpathlaw01_Book_lookInt_3 : Code := Code.r c_towpathlaw01_Book_lookInt_0
noncomputable def c_towpathlaw01_Book_lookInt_4 : Code := Code.l c_towpathlaw01_Book_lookInt_3
noncomputable def c_towpathlaw01_Book_lookInt_5 : Code := Code.l c_towpathlaw01_Book_lookInt_4
noncomputable def r_towpathlaw01_Book_lookInt_5 : Array Oper := Code.ops c_towpathlaw01_Book_lookInt_5
noncomputable def c_towpathlaw01_Book_lookInt_7 : Code := Code.r c_towpathlaw01_Book_lookInt_4
noncomputable def c_towpathlaw01_Book_lookInt_8 : Code := Code.l c_towpathlaw01_Book_lookInt_7
noncomputable def c_towpathlaw01_Book_lookInt_9 : Code := Code.l c_towpathlaw01_Book_lookInt_8
noncomputable def c_towpathlaw01_Book_lookInt_10 : Code := Code.l c_towpathlaw01_Book_lookInt_9
noncomputable def c_towpathlaw01_Book_lookInt_11 : Code := Code.l c_towpathlaw01_Book_lookInt_10
noncomputable def r_towpathlaw01_Book_lookInt_11 : Array Oper := Code.ops c_towpathlaw01_Book_lookInt_11
noncomputable def c_towpathlaw01_Book_lookInt_13 : Code := Code.r c_towpathlaw01_Book_lookInt_10
noncomputable def c_towpathlaw01_Book_lookInt_14 : Code := Code.l c_towpathlaw01_Book_lookInt_13
noncomputable def c_towpathlaw01_Book_lookInt_15 : Code := Code.r c_towpathlaw01_Book_lookInt_13
noncomputable def c_towpathlaw01_Book_lookInt_16 : Code := Code.r c_towpathlaw01_Book_lookInt_9
noncomputable def c_towpathlaw01_Book_lookInt_17 : Code := Code.l c_towpathlaw01_Book_lookInt_16
noncomputable def c_towpathlaw01_Book_lookInt_18 : Code := Code.l c_towpathlaw01_Book_lookInt_17
noncomputable def c_towpathlaw01_Book_lookInt_19 : Code := Code.l c_towpathlaw01_Book_lookInt_18
noncomputable def r_towpathlaw01_Book_lookInt_19 : Array Oper := Code.ops c_towpathlaw01_Book_lookInt_19
noncomputable def c_towpathlaw01_Book_lookInt_21 : Code := Code.r c_towpathlaw01_Book_lookInt_18
noncomputable def c_towpathlaw01_Book_lookInt_22 : Code := Code.l c_towpathlaw01_Book_lookInt_21
noncomputable def c_towpathlaw01_Book_lookInt_23 : Code := Code.l c_towpathlaw01_Book_lookInt_22
noncomputable def r_towpathlaw01_Book_lookInt_23 : Array Oper := Code.ops c_towpathlaw01_Book_lookInt_23
noncomputable def c_towpathlaw01_Book_lookInt_25 : Code := Code.r c_towpathlaw01_Book_lookInt_22
noncomputable def c_towpathlaw01_Book_lookInt_26 : Code := Code.l c_towpathlaw01_Book_lookInt_25
noncomputable def c_towpathlaw01_Book_lookInt_27 : Code := Code.l c_towpathlaw01_Book_lookInt_26
noncomputable def r_towpathlaw01_Book_lookInt_27 : Array Oper := Code.ops c_towpathlaw01_Book_lookInt_27
noncomputable def c_towpathlaw01_Book_lookInt_29 : Code := Code.r c_towpathlaw01_Book_lookInt_26
noncomputable def c_towpathlaw01_Book_lookInt_30 : Code := Code.r c_towpathlaw01_Book_lookInt_25
noncomputable def c_towpathlaw01_Book_lookInt_31 : Code := Code.r c_towpathlaw01_Book_lookInt_21
noncomputable def c_towpathlaw01_Book_lookInt_32 : Code := Code.l c_towpathlaw01_Book_lookInt_31
noncomputable def r_towpathlaw01_Book_lookInt_32 : Array Oper := Code.ops c_towpathlaw01_Book_lookInt_32
noncomputable def c_towpathlaw01_Book_lookInt_34 : Code := Code.r c_towpathlaw01_Book_lookInt_31
noncomputable def c_towpathlaw01_Book_lookInt_35 : Code := Code.l c_towpathlaw01_Book_lookInt_34
noncomputable def c_towpathlaw01_Book_lookInt_36 : Code := Code.l c_towpathlaw01_Book_lookInt_35
noncomputable def c_towpathlaw01_Book_lookInt_37 : Code := Code.l c_towpathlaw01_Book_lookInt_36
noncomputable def c_towpathlaw01_Book_lookInt_38 : Code := Code.l c_towpathlaw01_Book_lookInt_37
noncomputable def r_towpathlaw01_Book_lookInt_38 : Array Oper := Code.ops c_towpathlaw01_Book_lookInt_38
noncomputable def c_towpathlaw01_Book_lookInt_40 : Code := Code.r c_towpathlaw01_Book_lookInt_37
noncomputable def c_towpathlaw01_Book_lookInt_41 : Code := Code.l c_towpathlaw01_Book_lookInt_40
noncomputable def c_towpathlaw01_Book_lookInt_42 : Code := Code.r c_towpathlaw01_Book_lookInt_40
noncomputable def c_towpathlaw01_Book_lookInt_43 : Code := Code.r c_towpathlaw01_Book_lookInt_36
noncomputable def c_towpathlaw01_Book_lookInt_44 : Code := Code.l c_towpathlaw01_Book_lookInt_43
noncomputable def c_towpathlaw01_Book_lookInt_45 : Code := Code.l c_towpathlaw01_Book_lookInt_44
noncomputable def c_towpathlaw01_Book_lookInt_46 : Code := Code.l c_towpathlaw01_Book_lookInt_45
noncomputable def r_towpathlaw01_Book_lookInt_46 : Array Oper := Code.ops c_towpathlaw01_Book_lookInt_46
noncomputable def c_towpathlaw01_Book_lookInt_48 : Code := Code.r c_towpathlaw01_Book_lookInt_45
noncomputable def c_towpathlaw01_Book_lookInt_49 : Code := Code.l c_towpathlaw01_Book_lookInt_48
noncomputable def c_towpathlaw01_Book_lookInt_50 : Code := Code.l c_towpathlaw01_Book_lookInt_49
noncomputable def r_towpathlaw01_Book_lookInt_50 : Array Oper := Code.ops c_towpathlaw01_Book_lookInt_50
noncomputable def c_towpathlaw01_Book_lookInt_52 : Code := Code.r c_towpathlaw01_Book_lookInt_49
noncomputable def c_towpathlaw01_Book_lookInt_53 : Code := Code.r c_towpathlaw01_Book_lookInt_48
noncomputable def c_towpathlaw01_Book_lookInt_54 : Code := Code.r c_towpathlaw01_Book_lookInt_43
noncomputable def r_towpathlaw01_Book_lookInt_54 : Array Oper := Code.ops c_towpathlaw01_Book_lookInt_54
noncomputable def c_towpathlaw01_Book_lookInt_56 : Code := Code.r c_towpathlaw01_Book_lookInt_16
noncomputable def r_towpathlaw01_Book_lookInt_56 : Array Oper := Code.ops c_towpathlaw01_Book_lookInt_56
noncomputable def c_towpathlaw01_Book_lookInt_58 : Code := Code.r c_towpathlaw01_Book_lookInt_3
noncomputable def c_towpathlaw01_Book_lookInt_59 : Code := Code.l c_towpathlaw01_Book_lookInt_58
noncomputable def r_towpathlaw01_Book_lookInt_59 : Array Oper := Code.ops c_towpathlaw01_Book_lookInt_59
noncomputable def c_towpathlaw01_Book_lookInt_61 : Code := Code.r c_towpathlaw01_Book_lookInt_58

set_option maxRecDepth 100000 in
set_option maxHeartbeats 4000000 in
theorem S_towpathlaw01_Book_lookInt {b_ : Option Addr} {w : World} {R : Bool → World → Prop} (h : F_towpathlaw01_Book_lookInt b_ R w) : C_towpathlaw01_Book_lookInt b_ w R := by
  unfold F_towpathlaw01_Book_lookInt at h
  unfold C_towpathlaw01_Book_lookInt
  refine Calls.mono (calls_of_wpE (args := [Value.pointer b_]) (R := fun v w' => ∃ (r0 : Bool), v = Value.bool r0 ∧ R r0 w') Tryz.func56 (c := c_towpathlaw01_Book_lookInt_0) (by kernel_rfl) 64 (by kernel_rfl) (by kernel_rfl) [(0, Value.pointer b_)] (by kernel_rfl) ?_) ?_
  · refine wpE_seq (x := c_towpathlaw01_Book_lookInt_1) (y := c_towpathlaw01_Book_lookInt_3) (by kernel_rfl) ?_
    refine wpE_region (id := 0) (ops := r_towpathlaw01_Book_lookInt_1) (by kernel_rfl) ?_
    refine reg_run [.plain] 1 [(0, [], Value.pointer b_)] (by kernel_rfl) (by kernel_rfl) ?_
    refine reg_end [(0, Value.pointer b_)] (by kernel_rfl) (by kernel_rfl) ?_
    change WpE _ _ c_towpathlaw01_Book_lookInt_3 _ _ _
    refine wpE_seq (x := c_towpathlaw01_Book_lookInt_4) (y := c_towpathlaw01_Book_lookInt_58) (by kernel_rfl) ?_
    refine wpE_seq (x := c_towpathlaw01_Book_lookInt_5) (y := c_towpathlaw01_Book_lookInt_7) (by kernel_rfl) ?_
    refine wpE_region (id := 1) (ops := r_towpathlaw01_Book_lookInt_5) (by kernel_rfl) ?_
    refine reg_run [.plain] 1 [(0, [], Value.pointer b_), (3, [], Value.int .i64 0)] (by kernel_rfl) (by kernel_rfl) ?_
    refine reg_end [(0, Value.pointer b_), (3, Value.int .i64 0)] (by kernel_rfl) (by kernel_rfl) ?_
    change WpE _ _ c_towpathlaw01_Book_lookInt_7 _ _ _
    refine wpE_block (id := 0) (x := c_towpathlaw01_Book_lookInt_8) (by kernel_rfl) ?_
    obtain ⟨I, μ, h0, hr⟩ := h
    refine wpE_loop (x := c_towpathlaw01_Book_lookInt_9) (by kernel_rfl) (fun m l w => ∃ (i : Int), l = [(0, Value.pointer b_), (3, Value.int .i64 i)] ∧ I i w ∧ μ i w = m) (l' := [(0, Value.pointer b_), (3, Value.int .i64 0)]) (Sub.mk (by kernel_rfl)) ⟨0, rfl, h0, rfl⟩ ?_
    rintro _ _ w1 ⟨i, rfl, hI, rfl⟩
    obtain ⟨again_, again__h, h⟩ : ∃ again_ : Int → World → Prop, (∀ i' w', again_ i' w' → I i' w' ∧ μ i' w' < μ i w1) ∧ F_towpathlaw01_Book_lookInt_L0 b_ R again_ i w1 := ⟨_, fun _ _ h => h, hr i w1 hI⟩
    clear h0 hI
    unfold F_towpathlaw01_Book_lookInt_L0 at h
    refine wpE_seq (x := c_towpathlaw01_Book_lookInt_10) (y := c_towpathlaw01_Book_lookInt_16) (by kernel_rfl) ?_
    refine wpE_seq (x := c_towpathlaw01_Book_lookInt_11) (y := c_towpathlaw01_Book_lookInt_13) (by kernel_rfl) ?_
    refine wpE_region (id := 2) (ops := r_towpathlaw01_Book_lookInt_11) (by kernel_rfl) ?_
    refine reg_run [.plain, .plain] 2 [(0, [], Value.pointer b_), (3, [], Value.int .i64 i), (6, [], Value.int .i64 i), (7, [], Value.pointer b_)] (by kernel_rfl) (by kernel_rfl) ?_
    obtain ⟨hp_7, h⟩ := h
    refine reg_conv [(0, [], Value.pointer b_), (3, [], Value.int .i64 i), (6, [], Value.int .i64 i), (7, [], Value.pointer (some ⟨(pblk b_), (poff b_), none⟩))] (congrArg (fun pp => ([(0, [], Value.pointer b_), (3, [], Value.int .i64 i), (6, [], Value.int .i64 i), (7, [], Value.pointer pp)] : GEnv)) hp_7) ?_
    refine reg_run [.plain] 3 [(0, [], Value.pointer b_), (3, [], Value.int .i64 i), (6, [], Value.int .i64 i), (7, [], Value.pointer (some ⟨(pblk b_), (poff b_), none⟩)), (8, [], Value.pointer (some ⟨(pblk b_), (poff b_), none⟩))] (by kernel_rfl) (by kernel_rfl) ?_
    refine reg_run [.plain] 4 [(0, [], Value.pointer b_), (3, [], Value.int .i64 i), (6, [], Value.int .i64 i), (9, [], Value.pointer (some ⟨(pblk b_), (poff b_) + 2, none⟩))] (by kernel_rfl) (by kernel_rfl) ?_
    obtain ⟨v10, hc, h⟩ := h
    refine reg_load1 (t := 32) (a := (Go.Operand.tmp 9)) (b := (pblk b_)) (o := ((poff b_) + 2)) (ty := 32) (dst := some 10) (by kernel_rfl) (by kernel_rfl) (by kernel_rfl) hc ?_
    refine reg_run [.plain, .plain] 7 [(0, [], Value.pointer b_), (3, [], Value.int .i64 i), (12, [], Value.bool (decide (i < ((v10.len : Nat) : Int))))] (by kernel_rfl) (by kernel_rfl) ?_
    refine reg_end [(0, Value.pointer b_), (3, Value.int .i64 i), (12, Value.bool (decide (i < ((v10.len : Nat) : Int))))] (by kernel_rfl) (by kernel_rfl) ?_
    change WpE _ _ c_towpathlaw01_Book_lookInt_13 _ _ _
    refine wpE_cond (o := (Operand.tmp 12)) (b := (decide (i < ((v10.len : Nat) : Int)))) (x := c_towpathlaw01_Book_lookInt_14) (y := c_towpathlaw01_Book_lookInt_15) (by kernel_rfl) (by kernel_rfl) (fun hb => ?_) (fun hb => ?_)
    · replace h := h.1 hb
      exact h.elim
    · replace h := h.2 hb
      refine wpE_exit (id := 0) (by kernel_rfl) ?_
      change WpE _ _ c_towpathlaw01_Book_lookInt_58 _ _ _
      refine wpE_seq (x := c_towpathlaw01_Book_lookInt_59) (y := c_towpathlaw01_Book_lookInt_61) (by kernel_rfl) ?_
      refine wpE_region (id := 12) (ops := r_towpathlaw01_Book_lookInt_59) (by kernel_rfl) ?_
      refine reg_run [.plain] 1 [(2, [], Value.bool true)] (by kernel_rfl) (by kernel_rfl) ?_
      refine reg_end [(2, Value.bool true)] (by kernel_rfl) (by kernel_rfl) ?_
      change WpE _ _ c_towpathlaw01_Book_lookInt_61 _ _ _
      refine wpE_ret (by kernel_rfl) ?_
      repeat (first | refine seqQ_ret ?_ | refine blockQ_ret ?_ | refine loopQ_ret ?_ | refine cutQ_ret ?_)
      exact retS (rs := [(Go.ResultVar.tmp 2)]) (v := Value.bool true) (by kernel_rfl) (⟨by kernel_rfl, trivial⟩) ⟨true, rfl, h⟩
  · rintro e w' ⟨v, rfl, r0, rfl, h⟩; exact ⟨r0, rfl, h⟩

/-! ### (*towpath/towpathlaw01.Book).lookText (function 57) -/
noncomputable def c_towpathlaw01_Book_lookText_0 : Code := (Tryz.f57.body).getD Code.skip
noncomputable def c_towpathlaw01_Book_lookText_1 : Code := Code.l c_towpathlaw01_Book_lookText_0
noncomputable def r_towpathlaw01_Book_lookText_1 : Array Oper := Code.ops c_towpathlaw01_Book_lookText_1
noncomputable def c_towpathlaw01_Book_lookText_3 : Code := Code.r c_towpathlaw01_Book_lookText_0
noncomputable def c_towpathlaw01_Book_lookText_4 : Code := Code.l c_towpathlaw01_Book_lookText_3
noncomputable def c_towpathlaw01_Book_lookText_5 : Code := Code.l c_towpathlaw01_Book_lookText_4
noncomputable def r_towpathlaw01_Book_lookText_5 : Array Oper := Code.ops c_towpathlaw01_Book_lookText_5
noncomputable def c_towpathlaw01_Book_lookText_7 : Code := Code.r c_towpathlaw01_Book_lookText_4
noncomputable def c_towpathlaw01_Book_lookText_8 : Code := Code.l c_towpathlaw01_Book_lookText_7
noncomputable def c_towpathlaw01_Book_lookText_9 : Code := Code.l c_towpathlaw01_Book_lookText_8
noncomputable def c_towpathlaw01_Book_lookText_10 : Code := Code.l c_towpathlaw01_Book_lookText_9
noncomputable def c_towpathlaw01_Book_lookText_11 : Code := Code.l c_towpathlaw01_Book_lookText_10
noncomputable def r_towpathlaw01_Book_lookText_11 : Array Oper := Code.ops c_towpathlaw01_Book_lookText_11
noncomputable def c_towpathlaw01_Book_lookText_13 : Code := Code.r c_towpathlaw01_Book_lookText_10
noncomputable def c_towpathlaw01_Book_lookText_14 : Code := Code.l c_towpathlaw01_Book_lookText_13
noncomputable def c_towpathlaw01_Book_lookText_15 : Code := Code.r c_towpathlaw01_Book_lookText_13
noncomputable def c_towpathlaw01_Book_lookText_16 : Code := Code.r c_towpathlaw01_Book_lookText_9
noncomputable def c_towpathlaw01_Book_lookText_17 : Code := Code.l c_towpathlaw01_Book_lookText_16
noncomputable def c_towpathlaw01_Book_lookText_18 : Code := Code.l c_towpathlaw01_Book_lookText_17
noncomputable def c_towpathlaw01_Book_lookText_19 : Code := Code.l c_towpathlaw01_Book_lookText_18
noncomputable def r_towpathlaw01_Book_lookText_19 : Array Oper := Code.ops c_towpathlaw01_Book_lookText_19
noncomputable def c_towpathlaw01_Book_lookText_21 : Code := Code.r c_towpathlaw01_Book_lookText_18
noncomputable def c_towpathlaw01_Book_lookText_22 : Code := Code.l c_towpathlaw01_Book_lookText_21
noncomputable def c_towpathlaw01_Book_lookText_23 : Code := Code.l c_towpathlaw01_Book_lookText_22
noncomputable def r_towpathlaw01_Book_lookText_23 : Array Oper := Code.ops c_towpathlaw01_Book_lookText_23
noncomputable def c_towpathlaw01_Book_lookText_25 : Code := Code.r c_towpathlaw01_Book_lookText_22
noncomputable def c_towpathlaw01_Book_lookText_26 : Code := Code.l c_towpathlaw01_Book_lookText_25
noncomputable def c_towpathlaw01_Book_lookText_27 : Code := Code.l c_towpathlaw01_Book_lookText_26
noncomputable def r_towpathlaw01_Book_lookText_27 : Array Oper := Code.ops c_towpathlaw01_Book_lookText_27
noncomputable def c_towpathlaw01_Book_lookText_29 : Code := Code.r c_towpathlaw01_Book_lookText_26
noncomputable def c_towpathlaw01_Book_lookText_30 : Code := Code.r c_towpathlaw01_Book_lookText_25
noncomputable def c_towpathlaw01_Book_lookText_31 : Code := Code.r c_towpathlaw01_Book_lookText_21
noncomputable def c_towpathlaw01_Book_lookText_32 : Code := Code.l c_towpathlaw01_Book_lookText_31
noncomputable def r_towpathlaw01_Book_lookText_32 : Array Oper := Code.ops c_towpathlaw01_Book_lookText_32
noncomputable def c_towpathlaw01_Book_lookText_34 : Code := Code.r c_towpathlaw01_Book_lookText_31
noncomputable def c_towpathlaw01_Book_lookText_35 : Code := Code.l c_towpathlaw01_Book_lookText_34
noncomputable def c_towpathlaw01_Book_lookText_36 : Code := Code.l c_towpathlaw01_Book_lookText_35
noncomputable def c_towpathlaw01_Book_lookText_37 : Code := Code.l c_towpathlaw01_Book_lookText_36
noncomputable def c_towpathlaw01_Book_lookText_38 : Code := Code.l c_towpathlaw01_Book_lookText_37
noncomputable def r_towpathlaw01_Book_lookText_38 : Array Oper := Code.ops c_towpathlaw01_Book_lookText_38
noncomputable def c_towpathlaw01_Book_lookText_40 : Code := Code.r c_towpathlaw01_Book_lookText_37
noncomputable def c_towpathlaw01_Book_lookText_41 : Code := Code.l c_towpathlaw01_Book_lookText_40
noncomputable def c_towpathlaw01_Book_lookText_42 : Code := Code.r c_towpathlaw01_Book_lookText_40
noncomputable def c_towpathlaw01_Book_lookText_43 : Code := Code.r c_towpathlaw01_Book_lookText_36
noncomputable def c_towpathlaw01_Book_lookText_44 : Code := Code.l c_towpathlaw01_Book_lookText_43
noncomputable def c_towpathlaw01_Book_lookText_45 : Code := Code.l c_towpathlaw01_Book_lookText_44
noncomputable def c_towpathlaw01_Book_lookText_46 : Code := Code.l c_towpathlaw01_Book_lookText_45
noncomputable def r_towpathlaw01_Book_lookText_46 : Array Oper := Code.ops c_towpathlaw01_Book_lookText_46
noncomputable def c_towpathlaw01_Book_lookText_48 : Code := Code.r c_towpathlaw01_Book_lookText_45
noncomputable def c_towpathlaw01_Book_lookText_49 : Code := Code.l c_towpathlaw01_Book_lookText_48
noncomputable def c_towpathlaw01_Book_lookText_50 : Code := Code.l c_towpathlaw01_Book_lookText_49
noncomputable def r_towpathlaw01_Book_lookText_50 : Array Oper := Code.ops c_towpathlaw01_Book_lookText_50
noncomputable def c_towpathlaw01_Book_lookText_52 : Code := Code.r c_towpathlaw01_Book_lookText_49
noncomputable def c_towpathlaw01_Book_lookText_53 : Code := Code.r c_towpathlaw01_Book_lookText_48
noncomputable def c_towpathlaw01_Book_lookText_54 : Code := Code.r c_towpathlaw01_Book_lookText_43
noncomputable def r_towpathlaw01_Book_lookText_54 : Array Oper := Code.ops c_towpathlaw01_Book_lookText_54
noncomputable def c_towpathlaw01_Book_lookText_56 : Code := Code.r c_towpathlaw01_Book_lookText_16
noncomputable def r_towpathlaw01_Book_lookText_56 : Array Oper := Code.ops c_towpathlaw01_Book_lookText_56
noncomputable def c_towpathlaw01_Book_lookText_58 : Code := Code.r c_towpathlaw01_Book_lookText_3
noncomputable def c_towpathlaw01_Book_lookText_59 : Code := Code.l c_towpathlaw01_Book_lookText_58
noncomputable def r_towpathlaw01_Book_lookText_59 : Array Oper := Code.ops c_towpathlaw01_Book_lookText_59
noncomputable def c_towpathlaw01_Book_lookText_61 : Code := Code.r c_towpathlaw01_Book_lookText_58

set_option maxRecDepth 100000 in
set_option maxHeartbeats 4000000 in
theorem S_towpathlaw01_Book_lookText {b_ : Option Addr} {w : World} {R : Bool → World → Prop} (h : F_towpathlaw01_Book_lookText b_ R w) : C_towpathlaw01_Book_lookText b_ w R := by
  unfold F_towpathlaw01_Book_lookText at h
  unfold C_towpathlaw01_Book_lookText
  refine Calls.mono (calls_of_wpE (args := [Value.pointer b_]) (R := fun v w' => ∃ (r0 : Bool), v = Value.bool r0 ∧ R r0 w') Tryz.func57 (c := c_towpathlaw01_Book_lookText_0) (by kernel_rfl) 64 (by kernel_rfl) (by kernel_rfl) [(0, Value.pointer b_)] (by kernel_rfl) ?_) ?_
  · refine wpE_seq (x := c_towpathlaw01_Book_lookText_1) (y := c_towpathlaw01_Book_lookText_3) (by kernel_rfl) ?_
    refine wpE_region (id := 0) (ops := r_towpathlaw01_Book_lookText_1) (by kernel_rfl) ?_
    refine reg_run [.plain] 1 [(0, [], Value.pointer b_)] (by kernel_rfl) (by kernel_rfl) ?_
    refine reg_end [(0, Value.pointer b_)] (by kernel_rfl) (by kernel_rfl) ?_
    change WpE _ _ c_towpathlaw01_Book_lookText_3 _ _ _
    refine wpE_seq (x := c_towpathlaw01_Book_lookText_4) (y := c_towpathlaw01_Book_lookText_58) (by kernel_rfl) ?_
    refine wpE_seq (x := c_towpathlaw01_Book_lookText_5) (y := c_towpathlaw01_Book_lookText_7) (by kernel_rfl) ?_
    refine wpE_region (id := 1) (ops := r_towpathlaw01_Book_lookText_5) (by kernel_rfl) ?_
    refine reg_run [.plain] 1 [(0, [], Value.pointer b_), (3, [], Value.int .i64 0)] (by kernel_rfl) (by kernel_rfl) ?_
    refine reg_end [(0, Value.pointer b_), (3, Value.int .i64 0)] (by kernel_rfl) (by kernel_rfl) ?_
    change WpE _ _ c_towpathlaw01_Book_lookText_7 _ _ _
    refine wpE_block (id := 0) (x := c_towpathlaw01_Book_lookText_8) (by kernel_rfl) ?_
    obtain ⟨I, μ, h0, hr⟩ := h
    refine wpE_loop (x := c_towpathlaw01_Book_lookText_9) (by kernel_rfl) (fun m l w => ∃ (i : Int), l = [(0, Value.pointer b_), (3, Value.int .i64 i)] ∧ I i w ∧ μ i w = m) (l' := [(0, Value.pointer b_), (3, Value.int .i64 0)]) (Sub.mk (by kernel_rfl)) ⟨0, rfl, h0, rfl⟩ ?_
    rintro _ _ w1 ⟨i, rfl, hI, rfl⟩
    obtain ⟨again_, again__h, h⟩ : ∃ again_ : Int → World → Prop, (∀ i' w', again_ i' w' → I i' w' ∧ μ i' w' < μ i w1) ∧ F_towpathlaw01_Book_lookText_L0 b_ R again_ i w1 := ⟨_, fun _ _ h => h, hr i w1 hI⟩
    clear h0 hI
    unfold F_towpathlaw01_Book_lookText_L0 at h
    refine wpE_seq (x := c_towpathlaw01_Book_lookText_10) (y := c_towpathlaw01_Book_lookText_16) (by kernel_rfl) ?_
    refine wpE_seq (x := c_towpathlaw01_Book_lookText_11) (y := c_towpathlaw01_Book_lookText_13) (by kernel_rfl) ?_
    refine wpE_region (id := 2) (ops := r_towpathlaw01_Book_lookText_11) (by kernel_rfl) ?_
    refine reg_run [.plain, .plain] 2 [(0, [], Value.pointer b_), (3, [], Value.int .i64 i), (6, [], Value.int .i64 i), (7, [], Value.pointer b_)] (by kernel_rfl) (by kernel_rfl) ?_
    obtain ⟨hp_7, h⟩ := h
    refine reg_conv [(0, [], Value.pointer b_), (3, [], Value.int .i64 i), (6, [], Value.int .i64 i), (7, [], Value.pointer (some ⟨(pblk b_), (poff b_), none⟩))] (congrArg (fun pp => ([(0, [], Value.pointer b_), (3, [], Value.int .i64 i), (6, [], Value.int .i64 i), (7, [], Value.pointer pp)] : GEnv)) hp_7) ?_
    refine reg_run [.plain] 3 [(0, [], Value.pointer b_), (3, [], Value.int .i64 i), (6, [], Value.int .i64 i), (7, [], Value.pointer (some ⟨(pblk b_), (poff b_), none⟩)), (8, [], Value.pointer (some ⟨(pblk b_), (poff b_), none⟩))] (by kernel_rfl) (by kernel_rfl) ?_
    refine reg_run [.plain] 4 [(0, [], Value.pointer b_), (3, [], Value.int .i64 i), (6, [], Value.int .i64 i), (9, [], Value.pointer (some ⟨(pblk b_), (poff b_) + 3, none⟩))] (by kernel_rfl) (by kernel_rfl) ?_
    obtain ⟨v10, hc, h⟩ := h
    refine reg_load1 (t := 33) (a := (Go.Operand.tmp 9)) (b := (pblk b_)) (o := ((poff b_) + 3)) (ty := 33) (dst := some 10) (by kernel_rfl) (by kernel_rfl) (by kernel_rfl) hc ?_
    refine reg_run [.plain, .plain] 7 [(0, [], Value.pointer b_), (3, [], Value.int .i64 i), (12, [], Value.bool (decide (i < ((v10.len : Nat) : Int))))] (by kernel_rfl) (by kernel_rfl) ?_
    refine reg_end [(0, Value.pointer b_), (3, Value.int .i64 i), (12, Value.bool (decide (i < ((v10.len : Nat) : Int))))] (by kernel_rfl) (by kernel_rfl) ?_
    change WpE _ _ c_towpathlaw01_Book_lookText_13 _ _ _
    refine wpE_cond (o := (Operand.tmp 12)) (b := (decide (i < ((v10.len : Nat) : Int)))) (x := c_towpathlaw01_Book_lookText_14) (y := c_towpathlaw01_Book_lookText_15) (by kernel_rfl) (by kernel_rfl) (fun hb => ?_) (fun hb => ?_)
    · replace h := h.1 hb
      exact h.elim
    · replace h := h.2 hb
      refine wpE_exit (id := 0) (by kernel_rfl) ?_
      change WpE _ _ c_towpathlaw01_Book_lookText_58 _ _ _
      refine wpE_seq (x := c_towpathlaw01_Book_lookText_59) (y := c_towpathlaw01_Book_lookText_61) (by kernel_rfl) ?_
      refine wpE_region (id := 12) (ops := r_towpathlaw01_Book_lookText_59) (by kernel_rfl) ?_
      refine reg_run [.plain] 1 [(2, [], Value.bool true)] (by kernel_rfl) (by kernel_rfl) ?_
      refine reg_end [(2, Value.bool true)] (by kernel_rfl) (by kernel_rfl) ?_
      change WpE _ _ c_towpathlaw01_Book_lookText_61 _ _ _
      refine wpE_ret (by kernel_rfl) ?_
      repeat (first | refine seqQ_ret ?_ | refine blockQ_ret ?_ | refine loopQ_ret ?_ | refine cutQ_ret ?_)
      exact retS (rs := [(Go.ResultVar.tmp 2)]) (v := Value.bool true) (by kernel_rfl) (⟨by kernel_rfl, trivial⟩) ⟨true, rfl, h⟩
  · rintro e w' ⟨v, rfl, r0, rfl, h⟩; exact ⟨r0, rfl, h⟩

/-! ### (*towpath/towpathlaw01.Book).lookWrite (function 58) -/
noncomputable def c_towpathlaw01_Book_lookWrite_0 : Code := (Tryz.f58.body).getD Code.skip
noncomputable def c_towpathlaw01_Book_lookWrite_1 : Code := Code.l c_towpathlaw01_Book_lookWrite_0
noncomputable def r_towpathlaw01_Book_lookWrite_1 : Array Oper := Code.ops c_towpathlaw01_Book_lookWrite_1
noncomputable def c_towpathlaw01_Book_lookWrite_3 : Code := Code.r c_towpathlaw01_Book_lookWrite_0
noncomputable def c_towpathlaw01_Book_lookWrite_4 : Code := Code.l c_towpathlaw01_Book_lookWrite_3
noncomputable def c_towpathlaw01_Book_lookWrite_5 : Code := Code.l c_towpathlaw01_Book_lookWrite_4
noncomputable def r_towpathlaw01_Book_lookWrite_5 : Array Oper := Code.ops c_towpathlaw01_Book_lookWrite_5
noncomputable def c_towpathlaw01_Book_lookWrite_7 : Code := Code.r c_towpathlaw01_Book_lookWrite_4
noncomputable def c_towpathlaw01_Book_lookWrite_8 : Code := Code.l c_towpathlaw01_Book_lookWrite_7
noncomputable def c_towpathlaw01_Book_lookWrite_9 : Code := Code.l c_towpathlaw01_Book_lookWrite_8
noncomputable def c_towpathlaw01_Book_lookWrite_10 : Code := Code.l c_towpathlaw01_Book_lookWrite_9
noncomputable def c_towpathlaw01_Book_lookWrite_11 : Code := Code.l c_towpathlaw01_Book_lookWrite_10
noncomputable def r_towpathlaw01_Book_lookWrite_11 : Array Oper := Code.ops c_towpathlaw01_Book_lookWrite_11
noncomputable def c_towpathlaw01_Book_lookWrite_13 : Code := Code.r c_towpathlaw01_Book_lookWrite_10
noncomputable def c_towpathlaw01_Book_lookWrite_14 : Code := Code.l c_towpathlaw01_Book_lookWrite_13
noncomputable def c_towpathlaw01_Book_lookWrite_15 : Code := Code.r c_towpathlaw01_Book_lookWrite_13
noncomputable def c_towpathlaw01_Book_lookWrite_16 : Code := Code.r c_towpathlaw01_Book_lookWrite_9
noncomputable def c_towpathlaw01_Book_lookWrite_17 : Code := Code.l c_towpathlaw01_Book_lookWrite_16
noncomputable def c_towpathlaw01_Book_lookWrite_18 : Code := Code.l c_towpathlaw01_Book_lookWrite_17
noncomputable def c_towpathlaw01_Book_lookWrite_19 : Code := Code.l c_towpathlaw01_Book_lookWrite_18
noncomputable def r_towpathlaw01_Book_lookWrite_19 : Array Oper := Code.ops c_towpathlaw01_Book_lookWrite_19
noncomputable def c_towpathlaw01_Book_lookWrite_21 : Code := Code.r c_towpathlaw01_Book_lookWrite_18
noncomputable def c_towpathlaw01_Book_lookWrite_22 : Code := Code.l c_towpathlaw01_Book_lookWrite_21
noncomputable def c_towpathlaw01_Book_lookWrite_23 : Code := Code.l c_towpathlaw01_Book_lookWrite_22
noncomputable def r_towpathlaw01_Book_lookWrite_23 : Array Oper := Code.ops c_towpathlaw01_Book_lookWrite_23
noncomputable def c_towpathlaw01_Book_lookWrite_25 : Code := Code.r c_towpathlaw01_Book_lookWrite_22
noncomputable def c_towpathlaw01_Book_lookWrite_26 : Code := Code.l c_towpathlaw01_Book_lookWrite_25
noncomputable def c_towpathlaw01_Book_lookWrite_27 : Code := Code.l c_towpathlaw01_Book_lookWrite_26
noncomputable def r_towpathlaw01_Book_lookWrite_27 : Array Oper := Code.ops c_towpathlaw01_Book_lookWrite_27
noncomputable def c_towpathlaw01_Book_lookWrite_29 : Code := Code.r c_towpathlaw01_Book_lookWrite_26
noncomputable def c_towpathlaw01_Book_lookWrite_30 : Code := Code.r c_towpathlaw01_Book_lookWrite_25
noncomputable def c_towpathlaw01_Book_lookWrite_31 : Code := Code.r c_towpathlaw01_Book_lookWrite_21
noncomputable def c_towpathlaw01_Book_lookWrite_32 : Code := Code.l c_towpathlaw01_Book_lookWrite_31
noncomputable def r_towpathlaw01_Book_lookWrite_32 : Array Oper := Code.ops c_towpathlaw01_Book_lookWrite_32
noncomputable def c_towpathlaw01_Book_lookWrite_34 : Code := Code.r c_towpathlaw01_Book_lookWrite_31
noncomputable def c_towpathlaw01_Book_lookWrite_35 : Code := Code.l c_towpathlaw01_Book_lookWrite_34
noncomputable def c_towpathlaw01_Book_lookWrite_36 : Code := Code.l c_towpathlaw01_Book_lookWrite_35
noncomputable def c_towpathlaw01_Book_lookWrite_37 : Code := Code.l c_towpathlaw01_Book_lookWrite_36
noncomputable def c_towpathlaw01_Book_lookWrite_38 : Code := Code.l c_towpathlaw01_Book_lookWrite_37
noncomputable def r_towpathlaw01_Book_lookWrite_38 : Array Oper := Code.ops c_towpathlaw01_Book_lookWrite_38
noncomputable def c_towpathlaw01_Book_lookWrite_40 : Code := Code.r c_towpathlaw01_Book_lookWrite_37
noncomputable def c_towpathlaw01_Book_lookWrite_41 : Code := Code.l c_towpathlaw01_Book_lookWrite_40
noncomputable def c_towpathlaw01_Book_lookWrite_42 : Code := Code.r c_towpathlaw01_Book_lookWrite_40
noncomputable def c_towpathlaw01_Book_lookWrite_43 : Code := Code.r c_towpathlaw01_Book_lookWrite_36
noncomputable def c_towpathlaw01_Book_lookWrite_44 : Code := Code.l c_towpathlaw01_Book_lookWrite_43
noncomputable def c_towpathlaw01_Book_lookWrite_45 : Code := Code.l c_towpathlaw01_Book_lookWrite_44
noncomputable def c_towpathlaw01_Book_lookWrite_46 : Code := Code.l c_towpathlaw01_Book_lookWrite_45
noncomputable def r_towpathlaw01_Book_lookWrite_46 : Array Oper := Code.ops c_towpathlaw01_Book_lookWrite_46
noncomputable def c_towpathlaw01_Book_lookWrite_48 : Code := Code.r c_towpathlaw01_Book_lookWrite_45
noncomputable def c_towpathlaw01_Book_lookWrite_49 : Code := Code.l c_towpathlaw01_Book_lookWrite_48
noncomputable def c_towpathlaw01_Book_lookWrite_50 : Code := Code.l c_towpathlaw01_Book_lookWrite_49
noncomputable def r_towpathlaw01_Book_lookWrite_50 : Array Oper := Code.ops c_towpathlaw01_Book_lookWrite_50
noncomputable def c_towpathlaw01_Book_lookWrite_52 : Code := Code.r c_towpathlaw01_Book_lookWrite_49
noncomputable def c_towpathlaw01_Book_lookWrite_53 : Code := Code.r c_towpathlaw01_Book_lookWrite_48
noncomputable def c_towpathlaw01_Book_lookWrite_54 : Code := Code.r c_towpathlaw01_Book_lookWrite_43
noncomputable def r_towpathlaw01_Book_lookWrite_54 : Array Oper := Code.ops c_towpathlaw01_Book_lookWrite_54
noncomputable def c_towpathlaw01_Book_lookWrite_56 : Code := Code.r c_towpathlaw01_Book_lookWrite_16
noncomputable def r_towpathlaw01_Book_lookWrite_56 : Array Oper := Code.ops c_towpathlaw01_Book_lookWrite_56
noncomputable def c_towpathlaw01_Book_lookWrite_58 : Code := Code.r c_towpathlaw01_Book_lookWrite_3
noncomputable def c_towpathlaw01_Book_lookWrite_59 : Code := Code.l c_towpathlaw01_Book_lookWrite_58
noncomputable def r_towpathlaw01_Book_lookWrite_59 : Array Oper := Code.ops c_towpathlaw01_Book_lookWrite_59
noncomputable def c_towpathlaw01_Book_lookWrite_61 : Code := Code.r c_towpathlaw01_Book_lookWrite_58

set_option maxRecDepth 100000 in
set_option maxHeartbeats 4000000 in
theorem S_towpathlaw01_Book_lookWrite {b_ : Option Addr} {w : World} {R : Bool → World → Prop} (h : F_towpathlaw01_Book_lookWrite b_ R w) : C_towpathlaw01_Book_lookWrite b_ w R := by
  unfold F_towpathlaw01_Book_lookWrite at h
  unfold C_towpathlaw01_Book_lookWrite
  refine Calls.mono (calls_of_wpE (args := [Value.pointer b_]) (R := fun v w' => ∃ (r0 : Bool), v = Value.bool r0 ∧ R r0 w') Tryz.func58 (c := c_towpathlaw01_Book_lookWrite_0) (by kernel_rfl) 64 (by kernel_rfl) (by kernel_rfl) [(0, Value.pointer b_)] (by kernel_rfl) ?_) ?_
  · refine wpE_seq (x := c_towpathlaw01_Book_lookWrite_1) (y := c_towpathlaw01_Book_lookWrite_3) (by kernel_rfl) ?_
    refine wpE_region (id := 0) (ops := r_towpathlaw01_Book_lookWrite_1) (by kernel_rfl) ?_
    refine reg_run [.plain] 1 [(0, [], Value.pointer b_)] (by kernel_rfl) (by kernel_rfl) ?_
    refine reg_end [(0, Value.pointer b_)] (by kernel_rfl) (by kernel_rfl) ?_
    change WpE _ _ c_towpathlaw01_Book_lookWrite_3 _ _ _
    refine wpE_seq (x := c_towpathlaw01_Book_lookWrite_4) (y := c_towpathlaw01_Book_lookWrite_58) (by kernel_rfl) ?_
    refine wpE_seq (x := c_towpathlaw01_Book_lookWrite_5) (y := c_towpathlaw01_Book_lookWrite_7) (by kernel_rfl) ?_
    refine wpE_region (id := 1) (ops := r_towpathlaw01_Book_lookWrite_5) (by kernel_rfl) ?_
    refine reg_run [.plain] 1 [(0, [], Value.pointer b_), (3, [], Value.int .i64 0)] (by kernel_rfl) (by kernel_rfl) ?_
    refine reg_end [(0, Value.pointer b_), (3, Value.int .i64 0)] (by kernel_rfl) (by kernel_rfl) ?_
    change WpE _ _ c_towpathlaw01_Book_lookWrite_7 _ _ _
    refine wpE_block (id := 0) (x := c_towpathlaw01_Book_lookWrite_8) (by kernel_rfl) ?_
    obtain ⟨I, μ, h0, hr⟩ := h
    refine wpE_loop (x := c_towpathlaw01_Book_lookWrite_9) (by kernel_rfl) (fun m l w => ∃ (i : Int), l = [(0, Value.pointer b_), (3, Value.int .i64 i)] ∧ I i w ∧ μ i w = m) (l' := [(0, Value.pointer b_), (3, Value.int .i64 0)]) (Sub.mk (by kernel_rfl)) ⟨0, rfl, h0, rfl⟩ ?_
    rintro _ _ w1 ⟨i, rfl, hI, rfl⟩
    obtain ⟨again_, again__h, h⟩ : ∃ again_ : Int → World → Prop, (∀ i' w', again_ i' w' → I i' w' ∧ μ i' w' < μ i w1) ∧ F_towpathlaw01_Book_lookWrite_L0 b_ R again_ i w1 := ⟨_, fun _ _ h => h, hr i w1 hI⟩
    clear h0 hI
    unfold F_towpathlaw01_Book_lookWrite_L0 at h
    refine wpE_seq (x := c_towpathlaw01_Book_lookWrite_10) (y := c_towpathlaw01_Book_lookWrite_16) (by kernel_rfl) ?_
    refine wpE_seq (x := c_towpathlaw01_Book_lookWrite_11) (y := c_towpathlaw01_Book_lookWrite_13) (by kernel_rfl) ?_
    refine wpE_region (id := 2) (ops := r_towpathlaw01_Book_lookWrite_11) (by kernel_rfl) ?_
    refine reg_run [.plain, .plain] 2 [(0, [], Value.pointer b_), (3, [], Value.int .i64 i), (6, [], Value.int .i64 i), (7, [], Value.pointer b_)] (by kernel_rfl) (by kernel_rfl) ?_
    obtain ⟨hp_7, h⟩ := h
    refine reg_conv [(0, [], Value.pointer b_), (3, [], Value.int .i64 i), (6, [], Value.int .i64 i), (7, [], Value.pointer (some ⟨(pblk b_), (poff b_), none⟩))] (congrArg (fun pp => ([(0, [], Value.pointer b_), (3, [], Value.int .i64 i), (6, [], Value.int .i64 i), (7, [], Value.pointer pp)] : GEnv)) hp_7) ?_
    refine reg_run [.plain] 3 [(0, [], Value.pointer b_), (3, [], Value.int .i64 i), (6, [], Value.int .i64 i), (7, [], Value.pointer (some ⟨(pblk b_), (poff b_), none⟩)), (8, [], Value.pointer (some ⟨(pblk b_), (poff b_), none⟩))] (by kernel_rfl) (by kernel_rfl) ?_
    refine reg_run [.plain] 4 [(0, [], Value.pointer b_), (3, [], Value.int .i64 i), (6, [], Value.int .i64 i), (9, [], Value.pointer (some ⟨(pblk b_), (poff b_) + 4, none⟩))] (by kernel_rfl) (by kernel_rfl) ?_
    obtain ⟨v10, hc, h⟩ := h
    refine reg_load1 (t := 34) (a := (Go.Operand.tmp 9)) (b := (pblk b_)) (o := ((poff b_) + 4)) (ty := 34) (dst := some 10) (by kernel_rfl) (by kernel_rfl) (by kernel_rfl) hc ?_
    refine reg_run [.plain, .plain] 7 [(0, [], Value.pointer b_), (3, [], Value.int .i64 i), (12, [], Value.bool (decide (i < ((v10.len : Nat) : Int))))] (by kernel_rfl) (by kernel_rfl) ?_
    refine reg_end [(0, Value.pointer b_), (3, Value.int .i64 i), (12, Value.bool (decide (i < ((v10.len : Nat) : Int))))] (by kernel_rfl) (by kernel_rfl) ?_
    change WpE _ _ c_towpathlaw01_Book_lookWrite_13 _ _ _
    refine wpE_cond (o := (Operand.tmp 12)) (b := (decide (i < ((v10.len : Nat) : Int)))) (x := c_towpathlaw01_Book_lookWrite_14) (y := c_towpathlaw01_Book_lookWrite_15) (by kernel_rfl) (by kernel_rfl) (fun hb => ?_) (fun hb => ?_)
    · replace h := h.1 hb
      exact h.elim
    · replace h := h.2 hb
      refine wpE_exit (id := 0) (by kernel_rfl) ?_
      change WpE _ _ c_towpathlaw01_Book_lookWrite_58 _ _ _
      refine wpE_seq (x := c_towpathlaw01_Book_lookWrite_59) (y := c_towpathlaw01_Book_lookWrite_61) (by kernel_rfl) ?_
      refine wpE_region (id := 12) (ops := r_towpathlaw01_Book_lookWrite_59) (by kernel_rfl) ?_
      refine reg_run [.plain] 1 [(2, [], Value.bool true)] (by kernel_rfl) (by kernel_rfl) ?_
      refine reg_end [(2, Value.bool true)] (by kernel_rfl) (by kernel_rfl) ?_
      change WpE _ _ c_towpathlaw01_Book_lookWrite_61 _ _ _
      refine wpE_ret (by kernel_rfl) ?_
      repeat (first | refine seqQ_ret ?_ | refine blockQ_ret ?_ | refine loopQ_ret ?_ | refine cutQ_ret ?_)
      exact retS (rs := [(Go.ResultVar.tmp 2)]) (v := Value.bool true) (by kernel_rfl) (⟨by kernel_rfl, trivial⟩) ⟨true, rfl, h⟩
  · rintro e w' ⟨v, rfl, r0, rfl, h⟩; exact ⟨r0, rfl, h⟩

/-! ### (*towpath/towpathlaw01.Book).lookEntry (function 59) -/
noncomputable def c_towpathlaw01_Book_lookEntry_0 : Code := (Tryz.f59.body).getD Code.skip
noncomputable def c_towpathlaw01_Book_lookEntry_1 : Code := Code.l c_towpathlaw01_Book_lookEntry_0
noncomputable def r_towpathlaw01_Book_lookEntry_1 : Array Oper := Code.ops c_towpathlaw01_Book_lookEntry_1
noncomputable def c_towpathlaw01_Book_lookEntry_3 : Code := Code.r c_towpathlaw01_Book_lookEntry_0
noncomputable def c_towpathlaw01_Book_lookEntry_4 : Code := Code.l c_towpathlaw01_Book_lookEntry_3
noncomputable def c_towpathlaw01_Book_lookEntry_5 : Code := Code.l c_towpathlaw01_Book_lookEntry_4
noncomputable def r_towpathlaw01_Book_lookEntry_5 : Array Oper := Code.ops c_towpathlaw01_Book_lookEntry_5
noncomputable def c_towpathlaw01_Book_lookEntry_7 : Code := Code.r c_towpathlaw01_Book_lookEntry_4
noncomputable def c_towpathlaw01_Book_lookEntry_8 : Code := Code.l c_towpathlaw01_Book_lookEntry_7
noncomputable def c_towpathlaw01_Book_lookEntry_9 : Code := Code.l c_towpathlaw01_Book_lookEntry_8
noncomputable def c_towpathlaw01_Book_lookEntry_10 : Code := Code.l c_towpathlaw01_Book_lookEntry_9
noncomputable def c_towpathlaw01_Book_lookEntry_11 : Code := Code.l c_towpathlaw01_Book_lookEntry_10
noncomputable def r_towpathlaw01_Book_lookEntry_11 : Array Oper := Code.ops c_towpathlaw01_Book_lookEntry_11
noncomputable def c_towpathlaw01_Book_lookEntry_13 : Code := Code.r c_towpathlaw01_Book_lookEntry_10
noncomputable def c_towpathlaw01_Book_lookEntry_14 : Code := Code.l c_towpathlaw01_Book_lookEntry_13
noncomputable def c_towpathlaw01_Book_lookEntry_15 : Code := Code.r c_towpathlaw01_Book_lookEntry_13
noncomputable def c_towpathlaw01_Book_lookEntry_16 : Code := Code.r c_towpathlaw01_Book_lookEntry_9
noncomputable def c_towpathlaw01_Book_lookEntry_17 : Code := Code.l c_towpathlaw01_Book_lookEntry_16
noncomputable def c_towpathlaw01_Book_lookEntry_18 : Code := Code.l c_towpathlaw01_Book_lookEntry_17
noncomputable def c_towpathlaw01_Book_lookEntry_19 : Code := Code.l c_towpathlaw01_Book_lookEntry_18
noncomputable def r_towpathlaw01_Book_lookEntry_19 : Array Oper := Code.ops c_towpathlaw01_Book_lookEntry_19
noncomputable def c_towpathlaw01_Book_lookEntry_21 : Code := Code.r c_towpathlaw01_Book_lookEntry_18
noncomputable def c_towpathlaw01_Book_lookEntry_22 : Code := Code.l c_towpathlaw01_Book_lookEntry_21
noncomputable def c_towpathlaw01_Book_lookEntry_23 : Code := Code.l c_towpathlaw01_Book_lookEntry_22
noncomputable def r_towpathlaw01_Book_lookEntry_23 : Array Oper := Code.ops c_towpathlaw01_Book_lookEntry_23
noncomputable def c_towpathlaw01_Book_lookEntry_25 : Code := Code.r c_towpathlaw01_Book_lookEntry_22
noncomputable def c_towpathlaw01_Book_lookEntry_26 : Code := Code.l c_towpathlaw01_Book_lookEntry_25
noncomputable def c_towpathlaw01_Book_lookEntry_27 : Code := Code.l c_towpathlaw01_Book_lookEntry_26
noncomputable def r_towpathlaw01_Book_lookEntry_27 : Array Oper := Code.ops c_towpathlaw01_Book_lookEntry_27
noncomputable def c_towpathlaw01_Book_lookEntry_29 : Code := Code.r c_towpathlaw01_Book_lookEntry_26
noncomputable def c_towpathlaw01_Book_lookEntry_30 : Code := Code.r c_towpathlaw01_Book_lookEntry_25
noncomputable def c_towpathlaw01_Book_lookEntry_31 : Code := Code.r c_towpathlaw01_Book_lookEntry_21
noncomputable def c_towpathlaw01_Book_lookEntry_32 : Code := Code.l c_towpathlaw01_Book_lookEntry_31
noncomputable def r_towpathlaw01_Book_lookEntry_32 : Array Oper := Code.ops c_towpathlaw01_Book_lookEntry_32
noncomputable def c_towpathlaw01_Book_lookEntry_34 : Code := Code.r c_towpathlaw01_Book_lookEntry_31
noncomputable def c_towpathlaw01_Book_lookEntry_35 : Code := Code.l c_towpathlaw01_Book_lookEntry_34
noncomputable def c_towpathlaw01_Book_lookEntry_36 : Code := Code.l c_towpathlaw01_Book_lookEntry_35
noncomputable def c_towpathlaw01_Book_lookEntry_37 : Code := Code.l c_towpathlaw01_Book_lookEntry_36
noncomputable def c_towpathlaw01_Book_lookEntry_38 : Code := Code.l c_towpathlaw01_Book_lookEntry_37
noncomputable def r_towpathlaw01_Book_lookEntry_38 : Array Oper := Code.ops c_towpathlaw01_Book_lookEntry_38
noncomputable def c_towpathlaw01_Book_lookEntry_40 : Code := Code.r c_towpathlaw01_Book_lookEntry_37
noncomputable def c_towpathlaw01_Book_lookEntry_41 : Code := Code.l c_towpathlaw01_Book_lookEntry_40
noncomputable def c_towpathlaw01_Book_lookEntry_42 : Code := Code.r c_towpathlaw01_Book_lookEntry_40
noncomputable def c_towpathlaw01_Book_lookEntry_43 : Code := Code.r c_towpathlaw01_Book_lookEntry_36
noncomputable def c_towpathlaw01_Book_lookEntry_44 : Code := Code.l c_towpathlaw01_Book_lookEntry_43
noncomputable def c_towpathlaw01_Book_lookEntry_45 : Code := Code.l c_towpathlaw01_Book_lookEntry_44
noncomputable def c_towpathlaw01_Book_lookEntry_46 : Code := Code.l c_towpathlaw01_Book_lookEntry_45
noncomputable def r_towpathlaw01_Book_lookEntry_46 : Array Oper := Code.ops c_towpathlaw01_Book_lookEntry_46
noncomputable def c_towpathlaw01_Book_lookEntry_48 : Code := Code.r c_towpathlaw01_Book_lookEntry_45
noncomputable def c_towpathlaw01_Book_lookEntry_49 : Code := Code.l c_towpathlaw01_Book_lookEntry_48
noncomputable def c_towpathlaw01_Book_lookEntry_50 : Code := Code.l c_towpathlaw01_Book_lookEntry_49
noncomputable def r_towpathlaw01_Book_lookEntry_50 : Array Oper := Code.ops c_towpathlaw01_Book_lookEntry_50
noncomputable def c_towpathlaw01_Book_lookEntry_52 : Code := Code.r c_towpathlaw01_Book_lookEntry_49
noncomputable def c_towpathlaw01_Book_lookEntry_53 : Code := Code.r c_towpathlaw01_Book_lookEntry_48
noncomputable def c_towpathlaw01_Book_lookEntry_54 : Code := Code.r c_towpathlaw01_Book_lookEntry_43
noncomputable def r_towpathlaw01_Book_lookEntry_54 : Array Oper := Code.ops c_towpathlaw01_Book_lookEntry_54
noncomputable def c_towpathlaw01_Book_lookEntry_56 : Code := Code.r c_towpathlaw01_Book_lookEntry_16
noncomputable def r_towpathlaw01_Book_lookEntry_56 : Array Oper := Code.ops c_towpathlaw01_Book_lookEntry_56
noncomputable def c_towpathlaw01_Book_lookEntry_58 : Code := Code.r c_towpathlaw01_Book_lookEntry_3
noncomputable def c_towpathlaw01_Book_lookEntry_59 : Code := Code.l c_towpathlaw01_Book_lookEntry_58
noncomputable def r_towpathlaw01_Book_lookEntry_59 : Array Oper := Code.ops c_towpathlaw01_Book_lookEntry_59
noncomputable def c_towpathlaw01_Book_lookEntry_61 : Code := Code.r c_towpathlaw01_Book_lookEntry_58

set_option maxRecDepth 100000 in
set_option maxHeartbeats 4000000 in
theorem S_towpathlaw01_Book_lookEntry {b_ : Option Addr} {w : World} {R : Bool → World → Prop} (h : F_towpathlaw01_Book_lookEntry b_ R w) : C_towpathlaw01_Book_lookEntry b_ w R := by
  unfold F_towpathlaw01_Book_lookEntry at h
  unfold C_towpathlaw01_Book_lookEntry
  refine Calls.mono (calls_of_wpE (args := [Value.pointer b_]) (R := fun v w' => ∃ (r0 : Bool), v = Value.bool r0 ∧ R r0 w') Tryz.func59 (c := c_towpathlaw01_Book_lookEntry_0) (by kernel_rfl) 64 (by kernel_rfl) (by kernel_rfl) [(0, Value.pointer b_)] (by kernel_rfl) ?_) ?_
  · refine wpE_seq (x := c_towpathlaw01_Book_lookEntry_1) (y := c_towpathlaw01_Book_lookEntry_3) (by kernel_rfl) ?_
    refine wpE_region (id := 0) (ops := r_towpathlaw01_Book_lookEntry_1) (by kernel_rfl) ?_
    refine reg_run [.plain] 1 [(0, [], Value.pointer b_)] (by kernel_rfl) (by kernel_rfl) ?_
    refine reg_end [(0, Value.pointer b_)] (by kernel_rfl) (by kernel_rfl) ?_
    change WpE _ _ c_towpathlaw01_Book_lookEntry_3 _ _ _
    refine wpE_seq (x := c_towpathlaw01_Book_lookEntry_4) (y := c_towpathlaw01_Book_lookEntry_58) (by kernel_rfl) ?_
    refine wpE_seq (x := c_towpathlaw01_Book_lookEntry_5) (y := c_towpathlaw01_Book_lookEntry_7) (by kernel_rfl) ?_
    refine wpE_region (id := 1) (ops := r_towpathlaw01_Book_lookEntry_5) (by kernel_rfl) ?_
    refine reg_run [.plain] 1 [(0, [], Value.pointer b_), (3, [], Value.int .i64 0)] (by kernel_rfl) (by kernel_rfl) ?_
    refine reg_end [(0, Value.pointer b_), (3, Value.int .i64 0)] (by kernel_rfl) (by kernel_rfl) ?_
    change WpE _ _ c_towpathlaw01_Book_lookEntry_7 _ _ _
    refine wpE_block (id := 0) (x := c_towpathlaw01_Book_lookEntry_8) (by kernel_rfl) ?_
    obtain ⟨I, μ, h0, hr⟩ := h
    refine wpE_loop (x := c_towpathlaw01_Book_lookEntry_9) (by kernel_rfl) (fun m l w => ∃ (i : Int), l = [(0, Value.pointer b_), (3, Value.int .i64 i)] ∧ I i w ∧ μ i w = m) (l' := [(0, Value.pointer b_), (3, Value.int .i64 0)]) (Sub.mk (by kernel_rfl)) ⟨0, rfl, h0, rfl⟩ ?_
    rintro _ _ w1 ⟨i, rfl, hI, rfl⟩
    obtain ⟨again_, again__h, h⟩ : ∃ again_ : Int → World → Prop, (∀ i' w', again_ i' w' → I i' w' ∧ μ i' w' < μ i w1) ∧ F_towpathlaw01_Book_lookEntry_L0 b_ R again_ i w1 := ⟨_, fun _ _ h => h, hr i w1 hI⟩
    clear h0 hI
    unfold F_towpathlaw01_Book_lookEntry_L0 at h
    refine wpE_seq (x := c_towpathlaw01_Book_lookEntry_10) (y := c_towpathlaw01_Book_lookEntry_16) (by kernel_rfl) ?_
    refine wpE_seq (x := c_towpathlaw01_Book_lookEntry_11) (y := c_towpathlaw01_Book_lookEntry_13) (by kernel_rfl) ?_
    refine wpE_region (id := 2) (ops := r_towpathlaw01_Book_lookEntry_11) (by kernel_rfl) ?_
    refine reg_run [.plain, .plain] 2 [(0, [], Value.pointer b_), (3, [], Value.int .i64 i), (6, [], Value.int .i64 i), (7, [], Value.pointer b_)] (by kernel_rfl) (by kernel_rfl) ?_
    obtain ⟨hp_7, h⟩ := h
    refine reg_conv [(0, [], Value.pointer b_), (3, [], Value.int .i64 i), (6, [], Value.int .i64 i), (7, [], Value.pointer (some ⟨(pblk b_), (poff b_), none⟩))] (congrArg (fun pp => ([(0, [], Value.pointer b_), (3, [], Value.int .i64 i), (6, [], Value.int .i64 i), (7, [], Value.pointer pp)] : GEnv)) hp_7) ?_
    refine reg_run [.plain] 3 [(0, [], Value.pointer b_), (3, [], Value.int .i64 i), (6, [], Value.int .i64 i), (7, [], Value.pointer (some ⟨(pblk b_), (poff b_), none⟩)), (8, [], Value.pointer (some ⟨(pblk b_), (poff b_), none⟩))] (by kernel_rfl) (by kernel_rfl) ?_
    refine reg_run [.plain] 4 [(0, [], Value.pointer b_), (3, [], Value.int .i64 i), (6, [], Value.int .i64 i), (9, [], Value.pointer (some ⟨(pblk b_), (poff b_) + 5, none⟩))] (by kernel_rfl) (by kernel_rfl) ?_
    obtain ⟨v10, hc, h⟩ := h
    refine reg_load1 (t := 35) (a := (Go.Operand.tmp 9)) (b := (pblk b_)) (o := ((poff b_) + 5)) (ty := 35) (dst := some 10) (by kernel_rfl) (by kernel_rfl) (by kernel_rfl) hc ?_
    refine reg_run [.plain, .plain] 7 [(0, [], Value.pointer b_), (3, [], Value.int .i64 i), (12, [], Value.bool (decide (i < ((v10.len : Nat) : Int))))] (by kernel_rfl) (by kernel_rfl) ?_
    refine reg_end [(0, Value.pointer b_), (3, Value.int .i64 i), (12, Value.bool (decide (i < ((v10.len : Nat) : Int))))] (by kernel_rfl) (by kernel_rfl) ?_
    change WpE _ _ c_towpathlaw01_Book_lookEntry_13 _ _ _
    refine wpE_cond (o := (Operand.tmp 12)) (b := (decide (i < ((v10.len : Nat) : Int)))) (x := c_towpathlaw01_Book_lookEntry_14) (y := c_towpathlaw01_Book_lookEntry_15) (by kernel_rfl) (by kernel_rfl) (fun hb => ?_) (fun hb => ?_)
    · replace h := h.1 hb
      exact h.elim
    · replace h := h.2 hb
      refine wpE_exit (id := 0) (by kernel_rfl) ?_
      change WpE _ _ c_towpathlaw01_Book_lookEntry_58 _ _ _
      refine wpE_seq (x := c_towpathlaw01_Book_lookEntry_59) (y := c_towpathlaw01_Book_lookEntry_61) (by kernel_rfl) ?_
      refine wpE_region (id := 12) (ops := r_towpathlaw01_Book_lookEntry_59) (by kernel_rfl) ?_
      refine reg_run [.plain] 1 [(2, [], Value.bool true)] (by kernel_rfl) (by kernel_rfl) ?_
      refine reg_end [(2, Value.bool true)] (by kernel_rfl) (by kernel_rfl) ?_
      change WpE _ _ c_towpathlaw01_Book_lookEntry_61 _ _ _
      refine wpE_ret (by kernel_rfl) ?_
      repeat (first | refine seqQ_ret ?_ | refine blockQ_ret ?_ | refine loopQ_ret ?_ | refine cutQ_ret ?_)
      exact retS (rs := [(Go.ResultVar.tmp 2)]) (v := Value.bool true) (by kernel_rfl) (⟨by kernel_rfl, trivial⟩) ⟨true, rfl, h⟩
  · rintro e w' ⟨v, rfl, r0, rfl, h⟩; exact ⟨r0, rfl, h⟩

/-! ### (*towpath/towpathlaw01.Book).lookVersion (function 60) -/
noncomputable def c_towpathlaw01_Book_lookVersion_0 : Code := (Tryz.f60.body).getD Code.skip
noncomputable def c_towpathlaw01_Book_lookVersion_1 : Code := Code.l c_towpathlaw01_Book_lookVersion_0
noncomputable def r_towpathlaw01_Book_lookVersion_1 : Array Oper := Code.ops c_towpathlaw01_Book_lookVersion_1
noncomputable def c_towpathlaw01_Book_lookVersion_3 : Code := Code.r c_towpathlaw01_Book_lookVersion_0
noncomputable def c_towpathlaw01_Book_lookVersion_4 : Code := Code.l c_towpathlaw01_Book_lookVersion_3
noncomputable def c_towpathlaw01_Book_lookVersion_5 : Code := Code.l c_towpathlaw01_Book_lookVersion_4
noncomputable def r_towpathlaw01_Book_lookVersion_5 : Array Oper := Code.ops c_towpathlaw01_Book_lookVersion_5
noncomputable def c_towpathlaw01_Book_lookVersion_7 : Code := Code.r c_towpathlaw01_Book_lookVersion_4
noncomputable def c_towpathlaw01_Book_lookVersion_8 : Code := Code.l c_towpathlaw01_Book_lookVersion_7
noncomputable def c_towpathlaw01_Book_lookVersion_9 : Code := Code.l c_towpathlaw01_Book_lookVersion_8
noncomputable def c_towpathlaw01_Book_lookVersion_10 : Code := Code.l c_towpathlaw01_Book_lookVersion_9
noncomputable def c_towpathlaw01_Book_lookVersion_11 : Code := Code.l c_towpathlaw01_Book_lookVersion_10
noncomputable def r_towpathlaw01_Book_lookVersion_11 : Array Oper := Code.ops c_towpathlaw01_Book_lookVersion_11
noncomputable def c_towpathlaw01_Book_lookVersion_13 : Code := Code.r c_towpathlaw01_Book_lookVersion_10
noncomputable def c_towpathlaw01_Book_lookVersion_14 : Code := Code.l c_towpathlaw01_Book_lookVersion_13
noncomputable def c_towpathlaw01_Book_lookVersion_15 : Code := Code.r c_towpathlaw01_Book_lookVersion_13
noncomputable def c_towpathlaw01_Book_lookVersion_16 : Code := Code.r c_towpathlaw01_Book_lookVersion_9
noncomputable def c_towpathlaw01_Book_lookVersion_17 : Code := Code.l c_towpathlaw01_Book_lookVersion_16
noncomputable def c_towpathlaw01_Book_lookVersion_18 : Code := Code.l c_towpathlaw01_Book_lookVersion_17
noncomputable def c_towpathlaw01_Book_lookVersion_19 : Code := Code.l c_towpathlaw01_Book_lookVersion_18
noncomputable def r_towpathlaw01_Book_lookVersion_19 : Array Oper := Code.ops c_towpathlaw01_Book_lookVersion_19
noncomputable def c_towpathlaw01_Book_lookVersion_21 : Code := Code.r c_towpathlaw01_Book_lookVersion_18
noncomputable def c_towpathlaw01_Book_lookVersion_22 : Code := Code.l c_towpathlaw01_Book_lookVersion_21
noncomputable def c_towpathlaw01_Book_lookVersion_23 : Code := Code.l c_towpathlaw01_Book_lookVersion_22
noncomputable def r_towpathlaw01_Book_lookVersion_23 : Array Oper := Code.ops c_towpathlaw01_Book_lookVersion_23
noncomputable def c_towpathlaw01_Book_lookVersion_25 : Code := Code.r c_towpathlaw01_Book_lookVersion_22
noncomputable def c_towpathlaw01_Book_lookVersion_26 : Code := Code.l c_towpathlaw01_Book_lookVersion_25
noncomputable def c_towpathlaw01_Book_lookVersion_27 : Code := Code.l c_towpathlaw01_Book_lookVersion_26
noncomputable def r_towpathlaw01_Book_lookVersion_27 : Array Oper := Code.ops c_towpathlaw01_Book_lookVersion_27
noncomputable def c_towpathlaw01_Book_lookVersion_29 : Code := Code.r c_towpathlaw01_Book_lookVersion_26
noncomputable def c_towpathlaw01_Book_lookVersion_30 : Code := Code.r c_towpathlaw01_Book_lookVersion_25
noncomputable def c_towpathlaw01_Book_lookVersion_31 : Code := Code.r c_towpathlaw01_Book_lookVersion_21
noncomputable def c_towpathlaw01_Book_lookVersion_32 : Code := Code.l c_towpathlaw01_Book_lookVersion_31
noncomputable def r_towpathlaw01_Book_lookVersion_32 : Array Oper := Code.ops c_towpathlaw01_Book_lookVersion_32
noncomputable def c_towpathlaw01_Book_lookVersion_34 : Code := Code.r c_towpathlaw01_Book_lookVersion_31
noncomputable def c_towpathlaw01_Book_lookVersion_35 : Code := Code.l c_towpathlaw01_Book_lookVersion_34
noncomputable def c_towpathlaw01_Book_lookVersion_36 : Code := Code.l c_towpathlaw01_Book_lookVersion_35
noncomputable def c_towpathlaw01_Book_lookVersion_37 : Code := Code.l c_towpathlaw01_Book_lookVersion_36
noncomputable def c_towpathlaw01_Book_lookVersion_38 : Code := Code.l c_towpathlaw01_Book_lookVersion_37
noncomputable def r_towpathlaw01_Book_lookVersion_38 : Array Oper := Code.ops c_towpathlaw01_Book_lookVersion_38
noncomputable def c_towpathlaw01_Book_lookVersion_40 : Code := Code.r c_towpathlaw01_Book_lookVersion_37
noncomputable def c_towpathlaw01_Book_lookVersion_41 : Code := Code.l c_towpathlaw01_Book_lookVersion_40
noncomputable def c_towpathlaw01_Book_lookVersion_42 : Code := Code.r c_towpathlaw01_Book_lookVersion_40
noncomputable def c_towpathlaw01_Book_lookVersion_43 : Code := Code.r c_towpathlaw01_Book_lookVersion_36
noncomputable def c_towpathlaw01_Book_lookVersion_44 : Code := Code.l c_towpathlaw01_Book_lookVersion_43
noncomputable def c_towpathlaw01_Book_lookVersion_45 : Code := Code.l c_towpathlaw01_Book_lookVersion_44
noncomputable def c_towpathlaw01_Book_lookVersion_46 : Code := Code.l c_towpathlaw01_Book_lookVersion_45
noncomputable def r_towpathlaw01_Book_lookVersion_46 : Array Oper := Code.ops c_towpathlaw01_Book_lookVersion_46
noncomputable def c_towpathlaw01_Book_lookVersion_48 : Code := Code.r c_towpathlaw01_Book_lookVersion_45
noncomputable def c_towpathlaw01_Book_lookVersion_49 : Code := Code.l c_towpathlaw01_Book_lookVersion_48
noncomputable def c_towpathlaw01_Book_lookVersion_50 : Code := Code.l c_towpathlaw01_Book_lookVersion_49
noncomputable def r_towpathlaw01_Book_lookVersion_50 : Array Oper := Code.ops c_towpathlaw01_Book_lookVersion_50
noncomputable def c_towpathlaw01_Book_lookVersion_52 : Code := Code.r c_towpathlaw01_Book_lookVersion_49
noncomputable def c_towpathlaw01_Book_lookVersion_53 : Code := Code.r c_towpathlaw01_Book_lookVersion_48
noncomputable def c_towpathlaw01_Book_lookVersion_54 : Code := Code.r c_towpathlaw01_Book_lookVersion_43
noncomputable def r_towpathlaw01_Book_lookVersion_54 : Array Oper := Code.ops c_towpathlaw01_Book_lookVersion_54
noncomputable def c_towpathlaw01_Book_lookVersion_56 : Code := Code.r c_towpathlaw01_Book_lookVersion_16
noncomputable def r_towpathlaw01_Book_lookVersion_56 : Array Oper := Code.ops c_towpathlaw01_Book_lookVersion_56
noncomputable def c_towpathlaw01_Book_lookVersion_58 : Code := Code.r c_towpathlaw01_Book_lookVersion_3
noncomputable def c_towpathlaw01_Book_lookVersion_59 : Code := Code.l c_towpathlaw01_Book_lookVersion_58
noncomputable def r_towpathlaw01_Book_lookVersion_59 : Array Oper := Code.ops c_towpathlaw01_Book_lookVersion_59
noncomputable def c_towpathlaw01_Book_lookVersion_61 : Code := Code.r c_towpathlaw01_Book_lookVersion_58

set_option maxRecDepth 100000 in
set_option maxHeartbeats 4000000 in
theorem S_towpathlaw01_Book_lookVersion {b_ : Option Addr} {w : World} {R : Bool → World → Prop} (h : F_towpathlaw01_Book_lookVersion b_ R w) : C_towpathlaw01_Book_lookVersion b_ w R := by
  unfold F_towpathlaw01_Book_lookVersion at h
  unfold C_towpathlaw01_Book_lookVersion
  refine Calls.mono (calls_of_wpE (args := [Value.pointer b_]) (R := fun v w' => ∃ (r0 : Bool), v = Value.bool r0 ∧ R r0 w') Tryz.func60 (c := c_towpathlaw01_Book_lookVersion_0) (by kernel_rfl) 64 (by kernel_rfl) (by kernel_rfl) [(0, Value.pointer b_)] (by kernel_rfl) ?_) ?_
  · refine wpE_seq (x := c_towpathlaw01_Book_lookVersion_1) (y := c_towpathlaw01_Book_lookVersion_3) (by kernel_rfl) ?_
    refine wpE_region (id := 0) (ops := r_towpathlaw01_Book_lookVersion_1) (by kernel_rfl) ?_
    refine reg_run [.plain] 1 [(0, [], Value.pointer b_)] (by kernel_rfl) (by kernel_rfl) ?_
    refine reg_end [(0, Value.pointer b_)] (by kernel_rfl) (by kernel_rfl) ?_
    change WpE _ _ c_towpathlaw01_Book_lookVersion_3 _ _ _
    refine wpE_seq (x := c_towpathlaw01_Book_lookVersion_4) (y := c_towpathlaw01_Book_lookVersion_58) (by kernel_rfl) ?_
    refine wpE_seq (x := c_towpathlaw01_Book_lookVersion_5) (y := c_towpathlaw01_Book_lookVersion_7) (by kernel_rfl) ?_
    refine wpE_region (id := 1) (ops := r_towpathlaw01_Book_lookVersion_5) (by kernel_rfl) ?_
    refine reg_run [.plain] 1 [(0, [], Value.pointer b_), (3, [], Value.int .i64 0)] (by kernel_rfl) (by kernel_rfl) ?_
    refine reg_end [(0, Value.pointer b_), (3, Value.int .i64 0)] (by kernel_rfl) (by kernel_rfl) ?_
    change WpE _ _ c_towpathlaw01_Book_lookVersion_7 _ _ _
    refine wpE_block (id := 0) (x := c_towpathlaw01_Book_lookVersion_8) (by kernel_rfl) ?_
    obtain ⟨I, μ, h0, hr⟩ := h
    refine wpE_loop (x := c_towpathlaw01_Book_lookVersion_9) (by kernel_rfl) (fun m l w => ∃ (i : Int), l = [(0, Value.pointer b_), (3, Value.int .i64 i)] ∧ I i w ∧ μ i w = m) (l' := [(0, Value.pointer b_), (3, Value.int .i64 0)]) (Sub.mk (by kernel_rfl)) ⟨0, rfl, h0, rfl⟩ ?_
    rintro _ _ w1 ⟨i, rfl, hI, rfl⟩
    obtain ⟨again_, again__h, h⟩ : ∃ again_ : Int → World → Prop, (∀ i' w', again_ i' w' → I i' w' ∧ μ i' w' < μ i w1) ∧ F_towpathlaw01_Book_lookVersion_L0 b_ R again_ i w1 := ⟨_, fun _ _ h => h, hr i w1 hI⟩
    clear h0 hI
    unfold F_towpathlaw01_Book_lookVersion_L0 at h
    refine wpE_seq (x := c_towpathlaw01_Book_lookVersion_10) (y := c_towpathlaw01_Book_lookVersion_16) (by kernel_rfl) ?_
    refine wpE_seq (x := c_towpathlaw01_Book_lookVersion_11) (y := c_towpathlaw01_Book_lookVersion_13) (by kernel_rfl) ?_
    refine wpE_region (id := 2) (ops := r_towpathlaw01_Book_lookVersion_11) (by kernel_rfl) ?_
    refine reg_run [.plain, .plain] 2 [(0, [], Value.pointer b_), (3, [], Value.int .i64 i), (6, [], Value.int .i64 i), (7, [], Value.pointer b_)] (by kernel_rfl) (by kernel_rfl) ?_
    obtain ⟨hp_7, h⟩ := h
    refine reg_conv [(0, [], Value.pointer b_), (3, [], Value.int .i64 i), (6, [], Value.int .i64 i), (7, [], Value.pointer (some ⟨(pblk b_), (poff b_), none⟩))] (congrArg (fun pp => ([(0, [], Value.pointer b_), (3, [], Value.int .i64 i), (6, [], Value.int .i64 i), (7, [], Value.pointer pp)] : GEnv)) hp_7) ?_
    refine reg_run [.plain] 3 [(0, [], Value.pointer b_), (3, [], Value.int .i64 i), (6, [], Value.int .i64 i), (7, [], Value.pointer (some ⟨(pblk b_), (poff b_), none⟩)), (8, [], Value.pointer (some ⟨(pblk b_), (poff b_), none⟩))] (by kernel_rfl) (by kernel_rfl) ?_
    refine reg_run [.plain] 4 [(0, [], Value.pointer b_), (3, [], Value.int .i64 i), (6, [], Value.int .i64 i), (9, [], Value.pointer (some ⟨(pblk b_), (poff b_) + 6, none⟩))] (by kernel_rfl) (by kernel_rfl) ?_
    obtain ⟨v10, hc, h⟩ := h
    refine reg_load1 (t := 36) (a := (Go.Operand.tmp 9)) (b := (pblk b_)) (o := ((poff b_) + 6)) (ty := 36) (dst := some 10) (by kernel_rfl) (by kernel_rfl) (by kernel_rfl) hc ?_
    refine reg_run [.plain, .plain] 7 [(0, [], Value.pointer b_), (3, [], Value.int .i64 i), (12, [], Value.bool (decide (i < ((v10.len : Nat) : Int))))] (by kernel_rfl) (by kernel_rfl) ?_
    refine reg_end [(0, Value.pointer b_), (3, Value.int .i64 i), (12, Value.bool (decide (i < ((v10.len : Nat) : Int))))] (by kernel_rfl) (by kernel_rfl) ?_
    change WpE _ _ c_towpathlaw01_Book_lookVersion_13 _ _ _
    refine wpE_cond (o := (Operand.tmp 12)) (b := (decide (i < ((v10.len : Nat) : Int)))) (x := c_towpathlaw01_Book_lookVersion_14) (y := c_towpathlaw01_Book_lookVersion_15) (by kernel_rfl) (by kernel_rfl) (fun hb => ?_) (fun hb => ?_)
    · replace h := h.1 hb
      exact h.elim
    · replace h := h.2 hb
      refine wpE_exit (id := 0) (by kernel_rfl) ?_
      change WpE _ _ c_towpathlaw01_Book_lookVersion_58 _ _ _
      refine wpE_seq (x := c_towpathlaw01_Book_lookVersion_59) (y := c_towpathlaw01_Book_lookVersion_61) (by kernel_rfl) ?_
      refine wpE_region (id := 12) (ops := r_towpathlaw01_Book_lookVersion_59) (by kernel_rfl) ?_
      refine reg_run [.plain] 1 [(2, [], Value.bool true)] (by kernel_rfl) (by kernel_rfl) ?_
      refine reg_end [(2, Value.bool true)] (by kernel_rfl) (by kernel_rfl) ?_
      change WpE _ _ c_towpathlaw01_Book_lookVersion_61 _ _ _
      refine wpE_ret (by kernel_rfl) ?_
      repeat (first | refine seqQ_ret ?_ | refine blockQ_ret ?_ | refine loopQ_ret ?_ | refine cutQ_ret ?_)
      exact retS (rs := [(Go.ResultVar.tmp 2)]) (v := Value.bool true) (by kernel_rfl) (⟨by kernel_rfl, trivial⟩) ⟨true, rfl, h⟩
  · rintro e w' ⟨v, rfl, r0, rfl, h⟩; exact ⟨r0, rfl, h⟩

/-! ### (*towpath/towpathlaw01.Book).lookTxn (function 61) -/
noncomputable def c_towpathlaw01_Book_lookTxn_0 : Code := (Tryz.f61.body).getD Code.skip
noncomputable def c_towpathlaw01_Book_lookTxn_1 : Code := Code.l c_towpathlaw01_Book_lookTxn_0
noncomputable def r_towpathlaw01_Book_lookTxn_1 : Array Oper := Code.ops c_towpathlaw01_Book_lookTxn_1
noncomputable def c_towpathlaw01_Book_lookTxn_3 : Code := Code.r c_towpathlaw01_Book_lookTxn_0
noncomputable def c_towpathlaw01_Book_lookTxn_4 : Code := Code.l c_towpathlaw01_Book_lookTxn_3
noncomputable def c_towpathlaw01_Book_lookTxn_5 : Code := Code.l c_towpathlaw01_Book_lookTxn_4
noncomputable def r_towpathlaw01_Book_lookTxn_5 : Array Oper := Code.ops c_towpathlaw01_Book_lookTxn_5
noncomputable def c_towpathlaw01_Book_lookTxn_7 : Code := Code.r c_towpathlaw01_Book_lookTxn_4
noncomputable def c_towpathlaw01_Book_lookTxn_8 : Code := Code.l c_towpathlaw01_Book_lookTxn_7
noncomputable def c_towpathlaw01_Book_lookTxn_9 : Code := Code.l c_towpathlaw01_Book_lookTxn_8
noncomputable def c_towpathlaw01_Book_lookTxn_10 : Code := Code.l c_towpathlaw01_Book_lookTxn_9
noncomputable def c_towpathlaw01_Book_lookTxn_11 : Code := Code.l c_towpathlaw01_Book_lookTxn_10
noncomputable def r_towpathlaw01_Book_lookTxn_11 : Array Oper := Code.ops c_towpathlaw01_Book_lookTxn_11
noncomputable def c_towpathlaw01_Book_lookTxn_13 : Code := Code.r c_towpathlaw01_Book_lookTxn_10
noncomputable def c_towpathlaw01_Book_lookTxn_14 : Code := Code.l c_towpathlaw01_Book_lookTxn_13
noncomputable def c_towpathlaw01_Book_lookTxn_15 : Code := Code.r c_towpathlaw01_Book_lookTxn_13
noncomputable def c_towpathlaw01_Book_lookTxn_16 : Code := Code.r c_towpathlaw01_Book_lookTxn_9
noncomputable def c_towpathlaw01_Book_lookTxn_17 : Code := Code.l c_towpathlaw01_Book_lookTxn_16
noncomputable def c_towpathlaw01_Book_lookTxn_18 : Code := Code.l c_towpathlaw01_Book_lookTxn_17
noncomputable def c_towpathlaw01_Book_lookTxn_19 : Code := Code.l c_towpathlaw01_Book_lookTxn_18
noncomputable def r_towpathlaw01_Book_lookTxn_19 : Array Oper := Code.ops c_towpathlaw01_Book_lookTxn_19
noncomputable def c_towpathlaw01_Book_lookTxn_21 : Code := Code.r c_towpathlaw01_Book_lookTxn_18
noncomputable def c_towpathlaw01_Book_lookTxn_22 : Code := Code.l c_towpathlaw01_Book_lookTxn_21
noncomputable def c_towpathlaw01_Book_lookTxn_23 : Code := Code.l c_towpathlaw01_Book_lookTxn_22
noncomputable def r_towpathlaw01_Book_lookTxn_23 : Array Oper := Code.ops c_towpathlaw01_Book_lookTxn_23
noncomputable def c_towpathlaw01_Book_lookTxn_25 : Code := Code.r c_towpathlaw01_Book_lookTxn_22
noncomputable def c_towpathlaw01_Book_lookTxn_26 : Code := Code.l c_towpathlaw01_Book_lookTxn_25
noncomputable def c_towpathlaw01_Book_lookTxn_27 : Code := Code.l c_towpathlaw01_Book_lookTxn_26
noncomputable def r_towpathlaw01_Book_lookTxn_27 : Array Oper := Code.ops c_towpathlaw01_Book_lookTxn_27
noncomputable def c_towpathlaw01_Book_lookTxn_29 : Code := Code.r c_towpathlaw01_Book_lookTxn_26
noncomputable def c_towpathlaw01_Book_lookTxn_30 : Code := Code.r c_towpathlaw01_Book_lookTxn_25
noncomputable def c_towpathlaw01_Book_lookTxn_31 : Code := Code.r c_towpathlaw01_Book_lookTxn_21
noncomputable def c_towpathlaw01_Book_lookTxn_32 : Code := Code.l c_towpathlaw01_Book_lookTxn_31
noncomputable def r_towpathlaw01_Book_lookTxn_32 : Array Oper := Code.ops c_towpathlaw01_Book_lookTxn_32
noncomputable def c_towpathlaw01_Book_lookTxn_34 : Code := Code.r c_towpathlaw01_Book_lookTxn_31
noncomputable def c_towpathlaw01_Book_lookTxn_35 : Code := Code.l c_towpathlaw01_Book_lookTxn_34
noncomputable def c_towpathlaw01_Book_lookTxn_36 : Code := Code.l c_towpathlaw01_Book_lookTxn_35
noncomputable def c_towpathlaw01_Book_lookTxn_37 : Code := Code.l c_towpathlaw01_Book_lookTxn_36
noncomputable def c_towpathlaw01_Book_lookTxn_38 : Code := Code.l c_towpathlaw01_Book_lookTxn_37
noncomputable def r_towpathlaw01_Book_lookTxn_38 : Array Oper := Code.ops c_towpathlaw01_Book_lookTxn_38
noncomputable def c_towpathlaw01_Book_lookTxn_40 : Code := Code.r c_towpathlaw01_Book_lookTxn_37
noncomputable def c_towpathlaw01_Book_lookTxn_41 : Code := Code.l c_towpathlaw01_Book_lookTxn_40
noncomputable def c_towpathlaw01_Book_lookTxn_42 : Code := Code.r c_towpathlaw01_Book_lookTxn_40
noncomputable def c_towpathlaw01_Book_lookTxn_43 : Code := Code.r c_towpathlaw01_Book_lookTxn_36
noncomputable def c_towpathlaw01_Book_lookTxn_44 : Code := Code.l c_towpathlaw01_Book_lookTxn_43
noncomputable def c_towpathlaw01_Book_lookTxn_45 : Code := Code.l c_towpathlaw01_Book_lookTxn_44
noncomputable def c_towpathlaw01_Book_lookTxn_46 : Code := Code.l c_towpathlaw01_Book_lookTxn_45
noncomputable def r_towpathlaw01_Book_lookTxn_46 : Array Oper := Code.ops c_towpathlaw01_Book_lookTxn_46
noncomputable def c_towpathlaw01_Book_lookTxn_48 : Code := Code.r c_towpathlaw01_Book_lookTxn_45
noncomputable def c_towpathlaw01_Book_lookTxn_49 : Code := Code.l c_towpathlaw01_Book_lookTxn_48
noncomputable def c_towpathlaw01_Book_lookTxn_50 : Code := Code.l c_towpathlaw01_Book_lookTxn_49
noncomputable def r_towpathlaw01_Book_lookTxn_50 : Array Oper := Code.ops c_towpathlaw01_Book_lookTxn_50
noncomputable def c_towpathlaw01_Book_lookTxn_52 : Code := Code.r c_towpathlaw01_Book_lookTxn_49
noncomputable def c_towpathlaw01_Book_lookTxn_53 : Code := Code.r c_towpathlaw01_Book_lookTxn_48
noncomputable def c_towpathlaw01_Book_lookTxn_54 : Code := Code.r c_towpathlaw01_Book_lookTxn_43
noncomputable def r_towpathlaw01_Book_lookTxn_54 : Array Oper := Code.ops c_towpathlaw01_Book_lookTxn_54
noncomputable def c_towpathlaw01_Book_lookTxn_56 : Code := Code.r c_towpathlaw01_Book_lookTxn_16
noncomputable def r_towpathlaw01_Book_lookTxn_56 : Array Oper := Code.ops c_towpathlaw01_Book_lookTxn_56
noncomputable def c_towpathlaw01_Book_lookTxn_58 : Code := Code.r c_towpathlaw01_Book_lookTxn_3
noncomputable def c_towpathlaw01_Book_lookTxn_59 : Code := Code.l c_towpathlaw01_Book_lookTxn_58
noncomputable def r_towpathlaw01_Book_lookTxn_59 : Array Oper := Code.ops c_towpathlaw01_Book_lookTxn_59
noncomputable def c_towpathlaw01_Book_lookTxn_61 : Code := Code.r c_towpathlaw01_Book_lookTxn_58

set_option maxRecDepth 100000 in
set_option maxHeartbeats 4000000 in
theorem S_towpathlaw01_Book_lookTxn {b_ : Option Addr} {w : World} {R : Bool → World → Prop} (h : F_towpathlaw01_Book_lookTxn b_ R w) : C_towpathlaw01_Book_lookTxn b_ w R := by
  unfold F_towpathlaw01_Book_lookTxn at h
  unfold C_towpathlaw01_Book_lookTxn
  refine Calls.mono (calls_of_wpE (args := [Value.pointer b_]) (R := fun v w' => ∃ (r0 : Bool), v = Value.bool r0 ∧ R r0 w') Tryz.func61 (c := c_towpathlaw01_Book_lookTxn_0) (by kernel_rfl) 64 (by kernel_rfl) (by kernel_rfl) [(0, Value.pointer b_)] (by kernel_rfl) ?_) ?_
  · refine wpE_seq (x := c_towpathlaw01_Book_lookTxn_1) (y := c_towpathlaw01_Book_lookTxn_3) (by kernel_rfl) ?_
    refine wpE_region (id := 0) (ops := r_towpathlaw01_Book_lookTxn_1) (by kernel_rfl) ?_
    refine reg_run [.plain] 1 [(0, [], Value.pointer b_)] (by kernel_rfl) (by kernel_rfl) ?_
    refine reg_end [(0, Value.pointer b_)] (by kernel_rfl) (by kernel_rfl) ?_
    change WpE _ _ c_towpathlaw01_Book_lookTxn_3 _ _ _
    refine wpE_seq (x := c_towpathlaw01_Book_lookTxn_4) (y := c_towpathlaw01_Book_lookTxn_58) (by kernel_rfl) ?_
    refine wpE_seq (x := c_towpathlaw01_Book_lookTxn_5) (y := c_towpathlaw01_Book_lookTxn_7) (by kernel_rfl) ?_
    refine wpE_region (id := 1) (ops := r_towpathlaw01_Book_lookTxn_5) (by kernel_rfl) ?_
    refine reg_run [.plain] 1 [(0, [], Value.pointer b_), (3, [], Value.int .i64 0)] (by kernel_rfl) (by kernel_rfl) ?_
    refine reg_end [(0, Value.pointer b_), (3, Value.int .i64 0)] (by kernel_rfl) (by kernel_rfl) ?_
    change WpE _ _ c_towpathlaw01_Book_lookTxn_7 _ _ _
    refine wpE_block (id := 0) (x := c_towpathlaw01_Book_lookTxn_8) (by kernel_rfl) ?_
    obtain ⟨I, μ, h0, hr⟩ := h
    refine wpE_loop (x := c_towpathlaw01_Book_lookTxn_9) (by kernel_rfl) (fun m l w => ∃ (i : Int), l = [(0, Value.pointer b_), (3, Value.int .i64 i)] ∧ I i w ∧ μ i w = m) (l' := [(0, Value.pointer b_), (3, Value.int .i64 0)]) (Sub.mk (by kernel_rfl)) ⟨0, rfl, h0, rfl⟩ ?_
    rintro _ _ w1 ⟨i, rfl, hI, rfl⟩
    obtain ⟨again_, again__h, h⟩ : ∃ again_ : Int → World → Prop, (∀ i' w', again_ i' w' → I i' w' ∧ μ i' w' < μ i w1) ∧ F_towpathlaw01_Book_lookTxn_L0 b_ R again_ i w1 := ⟨_, fun _ _ h => h, hr i w1 hI⟩
    clear h0 hI
    unfold F_towpathlaw01_Book_lookTxn_L0 at h
    refine wpE_seq (x := c_towpathlaw01_Book_lookTxn_10) (y := c_towpathlaw01_Book_lookTxn_16) (by kernel_rfl) ?_
    refine wpE_seq (x := c_towpathlaw01_Book_lookTxn_11) (y := c_towpathlaw01_Book_lookTxn_13) (by kernel_rfl) ?_
    refine wpE_region (id := 2) (ops := r_towpathlaw01_Book_lookTxn_11) (by kernel_rfl) ?_
    refine reg_run [.plain, .plain] 2 [(0, [], Value.pointer b_), (3, [], Value.int .i64 i), (6, [], Value.int .i64 i), (7, [], Value.pointer b_)] (by kernel_rfl) (by kernel_rfl) ?_
    obtain ⟨hp_7, h⟩ := h
    refine reg_conv [(0, [], Value.pointer b_), (3, [], Value.int .i64 i), (6, [], Value.int .i64 i), (7, [], Value.pointer (some ⟨(pblk b_), (poff b_), none⟩))] (congrArg (fun pp => ([(0, [], Value.pointer b_), (3, [], Value.int .i64 i), (6, [], Value.int .i64 i), (7, [], Value.pointer pp)] : GEnv)) hp_7) ?_
    refine reg_run [.plain] 3 [(0, [], Value.pointer b_), (3, [], Value.int .i64 i), (6, [], Value.int .i64 i), (7, [], Value.pointer (some ⟨(pblk b_), (poff b_), none⟩)), (8, [], Value.pointer (some ⟨(pblk b_), (poff b_), none⟩))] (by kernel_rfl) (by kernel_rfl) ?_
    refine reg_run [.plain] 4 [(0, [], Value.pointer b_), (3, [], Value.int .i64 i), (6, [], Value.int .i64 i), (9, [], Value.pointer (some ⟨(pblk b_), (poff b_) + 7, none⟩))] (by kernel_rfl) (by kernel_rfl) ?_
    obtain ⟨v10, hc, h⟩ := h
    refine reg_load1 (t := 37) (a := (Go.Operand.tmp 9)) (b := (pblk b_)) (o := ((poff b_) + 7)) (ty := 37) (dst := some 10) (by kernel_rfl) (by kernel_rfl) (by kernel_rfl) hc ?_
    refine reg_run [.plain, .plain] 7 [(0, [], Value.pointer b_), (3, [], Value.int .i64 i), (12, [], Value.bool (decide (i < ((v10.len : Nat) : Int))))] (by kernel_rfl) (by kernel_rfl) ?_
    refine reg_end [(0, Value.pointer b_), (3, Value.int .i64 i), (12, Value.bool (decide (i < ((v10.len : Nat) : Int))))] (by kernel_rfl) (by kernel_rfl) ?_
    change WpE _ _ c_towpathlaw01_Book_lookTxn_13 _ _ _
    refine wpE_cond (o := (Operand.tmp 12)) (b := (decide (i < ((v10.len : Nat) : Int)))) (x := c_towpathlaw01_Book_lookTxn_14) (y := c_towpathlaw01_Book_lookTxn_15) (by kernel_rfl) (by kernel_rfl) (fun hb => ?_) (fun hb => ?_)
    · replace h := h.1 hb
      exact h.elim
    · replace h := h.2 hb
      refine wpE_exit (id := 0) (by kernel_rfl) ?_
      change WpE _ _ c_towpathlaw01_Book_lookTxn_58 _ _ _
      refine wpE_seq (x := c_towpathlaw01_Book_lookTxn_59) (y := c_towpathlaw01_Book_lookTxn_61) (by kernel_rfl) ?_
      refine wpE_region (id := 12) (ops := r_towpathlaw01_Book_lookTxn_59) (by kernel_rfl) ?_
      refine reg_run [.plain] 1 [(2, [], Value.bool true)] (by kernel_rfl) (by kernel_rfl) ?_
      refine reg_end [(2, Value.bool true)] (by kernel_rfl) (by kernel_rfl) ?_
      change WpE _ _ c_towpathlaw01_Book_lookTxn_61 _ _ _
      refine wpE_ret (by kernel_rfl) ?_
      repeat (first | refine seqQ_ret ?_ | refine blockQ_ret ?_ | refine loopQ_ret ?_ | refine cutQ_ret ?_)
      exact retS (rs := [(Go.ResultVar.tmp 2)]) (v := Value.bool true) (by kernel_rfl) (⟨by kernel_rfl, trivial⟩) ⟨true, rfl, h⟩
  · rintro e w' ⟨v, rfl, r0, rfl, h⟩; exact ⟨r0, rfl, h⟩
end Go.Proofs.YtckmganidgbpgaaGreatDoor
