/- WRITTEN BY PROGRAM (dec.py): for each Go function the clean formula F, the call's contract C, and the proof S that F gives C. -/
import Derived.Test.YtckmganidgbpgaaGreatDoorRows
import Derived.Test.YtckmganidgbpgaaGreatDoorGF
namespace Go.Proofs.YtckmganidgbpgaaGreatDoor
open Go
set_option linter.unusedVariables false

/-! ### (*towpath/towpathlaw01.Book).lookHeld (function 62) -/
noncomputable def c_towpathlaw01_Book_lookHeld_0 : Code := (Tryz.f62.body).getD Code.skip
noncomputable def c_towpathlaw01_Book_lookHeld_1 : Code := Code.l c_towpathlaw01_Book_lookHeld_0
noncomputable def r_towpathlaw01_Book_lookHeld_1 : Array Oper := Code.ops c_towpathlaw01_Book_lookHeld_1
noncomputable def c_towpathlaw01_Book_lookHeld_3 : Code := Code.r c_towpathlaw01_Book_lookHeld_0
noncomputable def c_towpathlaw01_Book_lookHeld_4 : Code := Code.l c_towpathlaw01_Book_lookHeld_3
noncomputable def c_towpathlaw01_Book_lookHeld_5 : Code := Code.l c_towpathlaw01_Book_lookHeld_4
noncomputable def r_towpathlaw01_Book_lookHeld_5 : Array Oper := Code.ops c_towpathlaw01_Book_lookHeld_5
noncomputable def c_towpathlaw01_Book_lookHeld_7 : Code := Code.r c_towpathlaw01_Book_lookHeld_4
noncomputable def c_towpathlaw01_Book_lookHeld_8 : Code := Code.l c_towpathlaw01_Book_lookHeld_7
noncomputable def c_towpathlaw01_Book_lookHeld_9 : Code := Code.l c_towpathlaw01_Book_lookHeld_8
noncomputable def c_towpathlaw01_Book_lookHeld_10 : Code := Code.l c_towpathlaw01_Book_lookHeld_9
noncomputable def c_towpathlaw01_Book_lookHeld_11 : Code := Code.l c_towpathlaw01_Book_lookHeld_10
noncomputable def r_towpathlaw01_Book_lookHeld_11 : Array Oper := Code.ops c_towpathlaw01_Book_lookHeld_11
noncomputable def c_towpathlaw01_Book_lookHeld_13 : Code := Code.r c_towpathlaw01_Book_lookHeld_10
noncomputable def c_towpathlaw01_Book_lookHeld_14 : Code := Code.l c_towpathlaw01_Book_lookHeld_13
noncomputable def c_towpathlaw01_Book_lookHeld_15 : Code := Code.r c_towpathlaw01_Book_lookHeld_13
noncomputable def c_towpathlaw01_Book_lookHeld_16 : Code := Code.r c_towpathlaw01_Book_lookHeld_9
noncomputable def c_towpathlaw01_Book_lookHeld_17 : Code := Code.l c_towpathlaw01_Book_lookHeld_16
noncomputable def c_towpathlaw01_Book_lookHeld_18 : Code := Code.l c_towpathlaw01_Book_lookHeld_17
noncomputable def c_towpathlaw01_Book_lookHeld_19 : Code := Code.l c_towpathlaw01_Book_lookHeld_18
noncomputable def r_towpathlaw01_Book_lookHeld_19 : Array Oper := Code.ops c_towpathlaw01_Book_lookHeld_19
noncomputable def c_towpathlaw01_Book_lookHeld_21 : Code := Code.r c_towpathlaw01_Book_lookHeld_18
noncomputable def c_towpathlaw01_Book_lookHeld_22 : Code := Code.l c_towpathlaw01_Book_lookHeld_21
noncomputable def c_towpathlaw01_Book_lookHeld_23 : Code := Code.l c_towpathlaw01_Book_lookHeld_22
noncomputable def r_towpathlaw01_Book_lookHeld_23 : Array Oper := Code.ops c_towpathlaw01_Book_lookHeld_23
noncomputable def c_towpathlaw01_Book_lookHeld_25 : Code := Code.r c_towpathlaw01_Book_lookHeld_22
noncomputable def c_towpathlaw01_Book_lookHeld_26 : Code := Code.l c_towpathlaw01_Book_lookHeld_25
noncomputable def c_towpathlaw01_Book_lookHeld_27 : Code := Code.l c_towpathlaw01_Book_lookHeld_26
noncomputable def r_towpathlaw01_Book_lookHeld_27 : Array Oper := Code.ops c_towpathlaw01_Book_lookHeld_27
noncomputable def c_towpathlaw01_Book_lookHeld_29 : Code := Code.r c_towpathlaw01_Book_lookHeld_26
noncomputable def c_towpathlaw01_Book_lookHeld_30 : Code := Code.r c_towpathlaw01_Book_lookHeld_25
noncomputable def c_towpathlaw01_Book_lookHeld_31 : Code := Code.r c_towpathlaw01_Book_lookHeld_21
noncomputable def c_towpathlaw01_Book_lookHeld_32 : Code := Code.l c_towpathlaw01_Book_lookHeld_31
noncomputable def r_towpathlaw01_Book_lookHeld_32 : Array Oper := Code.ops c_towpathlaw01_Book_lookHeld_32
noncomputable def c_towpathlaw01_Book_lookHeld_34 : Code := Code.r c_towpathlaw01_Book_lookHeld_31
noncomputable def c_towpathlaw01_Book_lookHeld_35 : Code := Code.l c_towpathlaw01_Book_lookHeld_34
noncomputable def c_towpathlaw01_Book_lookHeld_36 : Code := Code.l c_towpathlaw01_Book_lookHeld_35
noncomputable def c_towpathlaw01_Book_lookHeld_37 : Code := Code.l c_towpathlaw01_Book_lookHeld_36
noncomputable def c_towpathlaw01_Book_lookHeld_38 : Code := Code.l c_towpathlaw01_Book_lookHeld_37
noncomputable def r_towpathlaw01_Book_lookHeld_38 : Array Oper := Code.ops c_towpathlaw01_Book_lookHeld_38
noncomputable def c_towpathlaw01_Book_lookHeld_40 : Code := Code.r c_towpathlaw01_Book_lookHeld_37
noncomputable def c_towpathlaw01_Book_lookHeld_41 : Code := Code.l c_towpathlaw01_Book_lookHeld_40
noncomputable def c_towpathlaw01_Book_lookHeld_42 : Code := Code.r c_towpathlaw01_Book_lookHeld_40
noncomputable def c_towpathlaw01_Book_lookHeld_43 : Code := Code.r c_towpathlaw01_Book_lookHeld_36
noncomputable def c_towpathlaw01_Book_lookHeld_44 : Code := Code.l c_towpathlaw01_Book_lookHeld_43
noncomputable def c_towpathlaw01_Book_lookHeld_45 : Code := Code.l c_towpathlaw01_Book_lookHeld_44
noncomputable def c_towpathlaw01_Book_lookHeld_46 : Code := Code.l c_towpathlaw01_Book_lookHeld_45
noncomputable def r_towpathlaw01_Book_lookHeld_46 : Array Oper := Code.ops c_towpathlaw01_Book_lookHeld_46
noncomputable def c_towpathlaw01_Book_lookHeld_48 : Code := Code.r c_towpathlaw01_Book_lookHeld_45
noncomputable def c_towpathlaw01_Book_lookHeld_49 : Code := Code.l c_towpathlaw01_Book_lookHeld_48
noncomputable def c_towpathlaw01_Book_lookHeld_50 : Code := Code.l c_towpathlaw01_Book_lookHeld_49
noncomputable def r_towpathlaw01_Book_lookHeld_50 : Array Oper := Code.ops c_towpathlaw01_Book_lookHeld_50
noncomputable def c_towpathlaw01_Book_lookHeld_52 : Code := Code.r c_towpathlaw01_Book_lookHeld_49
noncomputable def c_towpathlaw01_Book_lookHeld_53 : Code := Code.r c_towpathlaw01_Book_lookHeld_48
noncomputable def c_towpathlaw01_Book_lookHeld_54 : Code := Code.r c_towpathlaw01_Book_lookHeld_43
noncomputable def r_towpathlaw01_Book_lookHeld_54 : Array Oper := Code.ops c_towpathlaw01_Book_lookHeld_54
noncomputable def c_towpathlaw01_Book_lookHeld_56 : Code := Code.r c_towpathlaw01_Book_lookHeld_16
noncomputable def r_towpathlaw01_Book_lookHeld_56 : Array Oper := Code.ops c_towpathlaw01_Book_lookHeld_56
noncomputable def c_towpathlaw01_Book_lookHeld_58 : Code := Code.r c_towpathlaw01_Book_lookHeld_3
noncomputable def c_towpathlaw01_Book_lookHeld_59 : Code := Code.l c_towpathlaw01_Book_lookHeld_58
noncomputable def r_towpathlaw01_Book_lookHeld_59 : Array Oper := Code.ops c_towpathlaw01_Book_lookHeld_59
noncomputable def c_towpathlaw01_Book_lookHeld_61 : Code := Code.r c_towpathlaw01_Book_lookHeld_58

set_option maxRecDepth 100000 in
set_option maxHeartbeats 4000000 in
theorem S_towpathlaw01_Book_lookHeld {b_ : Option Addr} {w : World} {R : Bool → World → Prop} (h : F_towpathlaw01_Book_lookHeld b_ R w) : C_towpathlaw01_Book_lookHeld b_ w R := by
  unfold F_towpathlaw01_Book_lookHeld at h
  unfold C_towpathlaw01_Book_lookHeld
  refine Calls.mono (calls_of_wpE (args := [Value.pointer b_]) (R := fun v w' => ∃ (r0 : Bool), v = Value.bool r0 ∧ R r0 w') Tryz.func62 (c := c_towpathlaw01_Book_lookHeld_0) (by kernel_rfl) 64 (by kernel_rfl) (by kernel_rfl) [(0, Value.pointer b_)] (by kernel_rfl) ?_) ?_
  · refine wpE_seq (x := c_towpathlaw01_Book_lookHeld_1) (y := c_towpathlaw01_Book_lookHeld_3) (by kernel_rfl) ?_
    refine wpE_region (id := 0) (ops := r_towpathlaw01_Book_lookHeld_1) (by kernel_rfl) ?_
    refine reg_run [.plain] 1 [(0, [], Value.pointer b_)] (by kernel_rfl) (by kernel_rfl) ?_
    refine reg_end [(0, Value.pointer b_)] (by kernel_rfl) (by kernel_rfl) ?_
    change WpE _ _ c_towpathlaw01_Book_lookHeld_3 _ _ _
    refine wpE_seq (x := c_towpathlaw01_Book_lookHeld_4) (y := c_towpathlaw01_Book_lookHeld_58) (by kernel_rfl) ?_
    refine wpE_seq (x := c_towpathlaw01_Book_lookHeld_5) (y := c_towpathlaw01_Book_lookHeld_7) (by kernel_rfl) ?_
    refine wpE_region (id := 1) (ops := r_towpathlaw01_Book_lookHeld_5) (by kernel_rfl) ?_
    refine reg_run [.plain] 1 [(0, [], Value.pointer b_), (3, [], Value.int .i64 0)] (by kernel_rfl) (by kernel_rfl) ?_
    refine reg_end [(0, Value.pointer b_), (3, Value.int .i64 0)] (by kernel_rfl) (by kernel_rfl) ?_
    change WpE _ _ c_towpathlaw01_Book_lookHeld_7 _ _ _
    refine wpE_block (id := 0) (x := c_towpathlaw01_Book_lookHeld_8) (by kernel_rfl) ?_
    obtain ⟨I, μ, h0, hr⟩ := h
    refine wpE_loop (x := c_towpathlaw01_Book_lookHeld_9) (by kernel_rfl) (fun m l w => ∃ (i : Int), l = [(0, Value.pointer b_), (3, Value.int .i64 i)] ∧ I i w ∧ μ i w = m) (l' := [(0, Value.pointer b_), (3, Value.int .i64 0)]) (Sub.mk (by kernel_rfl)) ⟨0, rfl, h0, rfl⟩ ?_
    rintro _ _ w1 ⟨i, rfl, hI, rfl⟩
    obtain ⟨again_, again__h, h⟩ : ∃ again_ : Int → World → Prop, (∀ i' w', again_ i' w' → I i' w' ∧ μ i' w' < μ i w1) ∧ F_towpathlaw01_Book_lookHeld_L0 b_ R again_ i w1 := ⟨_, fun _ _ h => h, hr i w1 hI⟩
    clear h0 hI
    unfold F_towpathlaw01_Book_lookHeld_L0 at h
    refine wpE_seq (x := c_towpathlaw01_Book_lookHeld_10) (y := c_towpathlaw01_Book_lookHeld_16) (by kernel_rfl) ?_
    refine wpE_seq (x := c_towpathlaw01_Book_lookHeld_11) (y := c_towpathlaw01_Book_lookHeld_13) (by kernel_rfl) ?_
    refine wpE_region (id := 2) (ops := r_towpathlaw01_Book_lookHeld_11) (by kernel_rfl) ?_
    refine reg_run [.plain, .plain] 2 [(0, [], Value.pointer b_), (3, [], Value.int .i64 i), (6, [], Value.int .i64 i), (7, [], Value.pointer b_)] (by kernel_rfl) (by kernel_rfl) ?_
    obtain ⟨hp_7, h⟩ := h
    refine reg_conv [(0, [], Value.pointer b_), (3, [], Value.int .i64 i), (6, [], Value.int .i64 i), (7, [], Value.pointer (some ⟨(pblk b_), (poff b_), none⟩))] (congrArg (fun pp => ([(0, [], Value.pointer b_), (3, [], Value.int .i64 i), (6, [], Value.int .i64 i), (7, [], Value.pointer pp)] : GEnv)) hp_7) ?_
    refine reg_run [.plain] 3 [(0, [], Value.pointer b_), (3, [], Value.int .i64 i), (6, [], Value.int .i64 i), (7, [], Value.pointer (some ⟨(pblk b_), (poff b_), none⟩)), (8, [], Value.pointer (some ⟨(pblk b_), (poff b_), none⟩))] (by kernel_rfl) (by kernel_rfl) ?_
    refine reg_run [.plain] 4 [(0, [], Value.pointer b_), (3, [], Value.int .i64 i), (6, [], Value.int .i64 i), (9, [], Value.pointer (some ⟨(pblk b_), (poff b_) + 8, none⟩))] (by kernel_rfl) (by kernel_rfl) ?_
    obtain ⟨v10, hc, h⟩ := h
    refine reg_load1 (t := 38) (a := (Go.Operand.tmp 9)) (b := (pblk b_)) (o := ((poff b_) + 8)) (ty := 38) (dst := some 10) (by kernel_rfl) (by kernel_rfl) (by kernel_rfl) hc ?_
    refine reg_run [.plain, .plain] 7 [(0, [], Value.pointer b_), (3, [], Value.int .i64 i), (12, [], Value.bool (decide (i < ((v10.len : Nat) : Int))))] (by kernel_rfl) (by kernel_rfl) ?_
    refine reg_end [(0, Value.pointer b_), (3, Value.int .i64 i), (12, Value.bool (decide (i < ((v10.len : Nat) : Int))))] (by kernel_rfl) (by kernel_rfl) ?_
    change WpE _ _ c_towpathlaw01_Book_lookHeld_13 _ _ _
    refine wpE_cond (o := (Operand.tmp 12)) (b := (decide (i < ((v10.len : Nat) : Int)))) (x := c_towpathlaw01_Book_lookHeld_14) (y := c_towpathlaw01_Book_lookHeld_15) (by kernel_rfl) (by kernel_rfl) (fun hb => ?_) (fun hb => ?_)
    · replace h := h.1 hb
      exact h.elim
    · replace h := h.2 hb
      refine wpE_exit (id := 0) (by kernel_rfl) ?_
      change WpE _ _ c_towpathlaw01_Book_lookHeld_58 _ _ _
      refine wpE_seq (x := c_towpathlaw01_Book_lookHeld_59) (y := c_towpathlaw01_Book_lookHeld_61) (by kernel_rfl) ?_
      refine wpE_region (id := 12) (ops := r_towpathlaw01_Book_lookHeld_59) (by kernel_rfl) ?_
      refine reg_run [.plain] 1 [(2, [], Value.bool true)] (by kernel_rfl) (by kernel_rfl) ?_
      refine reg_end [(2, Value.bool true)] (by kernel_rfl) (by kernel_rfl) ?_
      change WpE _ _ c_towpathlaw01_Book_lookHeld_61 _ _ _
      refine wpE_ret (by kernel_rfl) ?_
      repeat (first | refine seqQ_ret ?_ | refine blockQ_ret ?_ | refine loopQ_ret ?_ | refine cutQ_ret ?_)
      exact retS (rs := [(Go.ResultVar.tmp 2)]) (v := Value.bool true) (by kernel_rfl) (⟨by kernel_rfl, trivial⟩) ⟨true, rfl, h⟩
  · rintro e w' ⟨v, rfl, r0, rfl, h⟩; exact ⟨r0, rfl, h⟩

/-! ### (*towpath/towpathlaw01.Book).lookHeldList (function 63) -/
noncomputable def c_towpathlaw01_Book_lookHeldList_0 : Code := (Tryz.f63.body).getD Code.skip
noncomputable def c_towpathlaw01_Book_lookHeldList_1 : Code := Code.l c_towpathlaw01_Book_lookHeldList_0
noncomputable def r_towpathlaw01_Book_lookHeldList_1 : Array Oper := Code.ops c_towpathlaw01_Book_lookHeldList_1
noncomputable def c_towpathlaw01_Book_lookHeldList_3 : Code := Code.r c_towpathlaw01_Book_lookHeldList_0
noncomputable def c_towpathlaw01_Book_lookHeldList_4 : Code := Code.l c_towpathlaw01_Book_lookHeldList_3
noncomputable def c_towpathlaw01_Book_lookHeldList_5 : Code := Code.l c_towpathlaw01_Book_lookHeldList_4
noncomputable def r_towpathlaw01_Book_lookHeldList_5 : Array Oper := Code.ops c_towpathlaw01_Book_lookHeldList_5
noncomputable def c_towpathlaw01_Book_lookHeldList_7 : Code := Code.r c_towpathlaw01_Book_lookHeldList_4
noncomputable def c_towpathlaw01_Book_lookHeldList_8 : Code := Code.l c_towpathlaw01_Book_lookHeldList_7
noncomputable def c_towpathlaw01_Book_lookHeldList_9 : Code := Code.l c_towpathlaw01_Book_lookHeldList_8
noncomputable def c_towpathlaw01_Book_lookHeldList_10 : Code := Code.l c_towpathlaw01_Book_lookHeldList_9
noncomputable def c_towpathlaw01_Book_lookHeldList_11 : Code := Code.l c_towpathlaw01_Book_lookHeldList_10
noncomputable def r_towpathlaw01_Book_lookHeldList_11 : Array Oper := Code.ops c_towpathlaw01_Book_lookHeldList_11
noncomputable def c_towpathlaw01_Book_lookHeldList_13 : Code := Code.r c_towpathlaw01_Book_lookHeldList_10
noncomputable def c_towpathlaw01_Book_lookHeldList_14 : Code := Code.l c_towpathlaw01_Book_lookHeldList_13
noncomputable def c_towpathlaw01_Book_lookHeldList_15 : Code := Code.r c_towpathlaw01_Book_lookHeldList_13
noncomputable def c_towpathlaw01_Book_lookHeldList_16 : Code := Code.r c_towpathlaw01_Book_lookHeldList_9
noncomputable def c_towpathlaw01_Book_lookHeldList_17 : Code := Code.l c_towpathlaw01_Book_lookHeldList_16
noncomputable def c_towpathlaw01_Book_lookHeldList_18 : Code := Code.l c_towpathlaw01_Book_lookHeldList_17
noncomputable def c_towpathlaw01_Book_lookHeldList_19 : Code := Code.l c_towpathlaw01_Book_lookHeldList_18
noncomputable def r_towpathlaw01_Book_lookHeldList_19 : Array Oper := Code.ops c_towpathlaw01_Book_lookHeldList_19
noncomputable def c_towpathlaw01_Book_lookHeldList_21 : Code := Code.r c_towpathlaw01_Book_lookHeldList_18
noncomputable def c_towpathlaw01_Book_lookHeldList_22 : Code := Code.l c_towpathlaw01_Book_lookHeldList_21
noncomputable def c_towpathlaw01_Book_lookHeldList_23 : Code := Code.l c_towpathlaw01_Book_lookHeldList_22
noncomputable def r_towpathlaw01_Book_lookHeldList_23 : Array Oper := Code.ops c_towpathlaw01_Book_lookHeldList_23
noncomputable def c_towpathlaw01_Book_lookHeldList_25 : Code := Code.r c_towpathlaw01_Book_lookHeldList_22
noncomputable def c_towpathlaw01_Book_lookHeldList_26 : Code := Code.l c_towpathlaw01_Book_lookHeldList_25
noncomputable def c_towpathlaw01_Book_lookHeldList_27 : Code := Code.l c_towpathlaw01_Book_lookHeldList_26
noncomputable def r_towpathlaw01_Book_lookHeldList_27 : Array Oper := Code.ops c_towpathlaw01_Book_lookHeldList_27
noncomputable def c_towpathlaw01_Book_lookHeldList_29 : Code := Code.r c_towpathlaw01_Book_lookHeldList_26
noncomputable def c_towpathlaw01_Book_lookHeldList_30 : Code := Code.r c_towpathlaw01_Book_lookHeldList_25
noncomputable def c_towpathlaw01_Book_lookHeldList_31 : Code := Code.r c_towpathlaw01_Book_lookHeldList_21
noncomputable def c_towpathlaw01_Book_lookHeldList_32 : Code := Code.l c_towpathlaw01_Book_lookHeldList_31
noncomputable def r_towpathlaw01_Book_lookHeldList_32 : Array Oper := Code.ops c_towpathlaw01_Book_lookHeldList_32
noncomputable def c_towpathlaw01_Book_lookHeldList_34 : Code := Code.r c_towpathlaw01_Book_lookHeldList_31
noncomputable def c_towpathlaw01_Book_lookHeldList_35 : Code := Code.l c_towpathlaw01_Book_lookHeldList_34
noncomputable def c_towpathlaw01_Book_lookHeldList_36 : Code := Code.l c_towpathlaw01_Book_lookHeldList_35
noncomputable def c_towpathlaw01_Book_lookHeldList_37 : Code := Code.l c_towpathlaw01_Book_lookHeldList_36
noncomputable def c_towpathlaw01_Book_lookHeldList_38 : Code := Code.l c_towpathlaw01_Book_lookHeldList_37
noncomputable def r_towpathlaw01_Book_lookHeldList_38 : Array Oper := Code.ops c_towpathlaw01_Book_lookHeldList_38
noncomputable def c_towpathlaw01_Book_lookHeldList_40 : Code := Code.r c_towpathlaw01_Book_lookHeldList_37
noncomputable def c_towpathlaw01_Book_lookHeldList_41 : Code := Code.l c_towpathlaw01_Book_lookHeldList_40
noncomputable def c_towpathlaw01_Book_lookHeldList_42 : Code := Code.r c_towpathlaw01_Book_lookHeldList_40
noncomputable def c_towpathlaw01_Book_lookHeldList_43 : Code := Code.r c_towpathlaw01_Book_lookHeldList_36
noncomputable def c_towpathlaw01_Book_lookHeldList_44 : Code := Code.l c_towpathlaw01_Book_lookHeldList_43
noncomputable def c_towpathlaw01_Book_lookHeldList_45 : Code := Code.l c_towpathlaw01_Book_lookHeldList_44
noncomputable def c_towpathlaw01_Book_lookHeldList_46 : Code := Code.l c_towpathlaw01_Book_lookHeldList_45
noncomputable def r_towpathlaw01_Book_lookHeldList_46 : Array Oper := Code.ops c_towpathlaw01_Book_lookHeldList_46
noncomputable def c_towpathlaw01_Book_lookHeldList_48 : Code := Code.r c_towpathlaw01_Book_lookHeldList_45
noncomputable def c_towpathlaw01_Book_lookHeldList_49 : Code := Code.l c_towpathlaw01_Book_lookHeldList_48
noncomputable def c_towpathlaw01_Book_lookHeldList_50 : Code := Code.l c_towpathlaw01_Book_lookHeldList_49
noncomputable def r_towpathlaw01_Book_lookHeldList_50 : Array Oper := Code.ops c_towpathlaw01_Book_lookHeldList_50
noncomputable def c_towpathlaw01_Book_lookHeldList_52 : Code := Code.r c_towpathlaw01_Book_lookHeldList_49
noncomputable def c_towpathlaw01_Book_lookHeldList_53 : Code := Code.r c_towpathlaw01_Book_lookHeldList_48
noncomputable def c_towpathlaw01_Book_lookHeldList_54 : Code := Code.r c_towpathlaw01_Book_lookHeldList_43
noncomputable def r_towpathlaw01_Book_lookHeldList_54 : Array Oper := Code.ops c_towpathlaw01_Book_lookHeldList_54
noncomputable def c_towpathlaw01_Book_lookHeldList_56 : Code := Code.r c_towpathlaw01_Book_lookHeldList_16
noncomputable def r_towpathlaw01_Book_lookHeldList_56 : Array Oper := Code.ops c_towpathlaw01_Book_lookHeldList_56
noncomputable def c_towpathlaw01_Book_lookHeldList_58 : Code := Code.r c_towpathlaw01_Book_lookHeldList_3
noncomputable def c_towpathlaw01_Book_lookHeldList_59 : Code := Code.l c_towpathlaw01_Book_lookHeldList_58
noncomputable def r_towpathlaw01_Book_lookHeldList_59 : Array Oper := Code.ops c_towpathlaw01_Book_lookHeldList_59
noncomputable def c_towpathlaw01_Book_lookHeldList_61 : Code := Code.r c_towpathlaw01_Book_lookHeldList_58

set_option maxRecDepth 100000 in
set_option maxHeartbeats 4000000 in
theorem S_towpathlaw01_Book_lookHeldList {b_ : Option Addr} {w : World} {R : Bool → World → Prop} (h : F_towpathlaw01_Book_lookHeldList b_ R w) : C_towpathlaw01_Book_lookHeldList b_ w R := by
  unfold F_towpathlaw01_Book_lookHeldList at h
  unfold C_towpathlaw01_Book_lookHeldList
  refine Calls.mono (calls_of_wpE (args := [Value.pointer b_]) (R := fun v w' => ∃ (r0 : Bool), v = Value.bool r0 ∧ R r0 w') Tryz.func63 (c := c_towpathlaw01_Book_lookHeldList_0) (by kernel_rfl) 64 (by kernel_rfl) (by kernel_rfl) [(0, Value.pointer b_)] (by kernel_rfl) ?_) ?_
  · refine wpE_seq (x := c_towpathlaw01_Book_lookHeldList_1) (y := c_towpathlaw01_Book_lookHeldList_3) (by kernel_rfl) ?_
    refine wpE_region (id := 0) (ops := r_towpathlaw01_Book_lookHeldList_1) (by kernel_rfl) ?_
    refine reg_run [.plain] 1 [(0, [], Value.pointer b_)] (by kernel_rfl) (by kernel_rfl) ?_
    refine reg_end [(0, Value.pointer b_)] (by kernel_rfl) (by kernel_rfl) ?_
    change WpE _ _ c_towpathlaw01_Book_lookHeldList_3 _ _ _
    refine wpE_seq (x := c_towpathlaw01_Book_lookHeldList_4) (y := c_towpathlaw01_Book_lookHeldList_58) (by kernel_rfl) ?_
    refine wpE_seq (x := c_towpathlaw01_Book_lookHeldList_5) (y := c_towpathlaw01_Book_lookHeldList_7) (by kernel_rfl) ?_
    refine wpE_region (id := 1) (ops := r_towpathlaw01_Book_lookHeldList_5) (by kernel_rfl) ?_
    refine reg_run [.plain] 1 [(0, [], Value.pointer b_), (3, [], Value.int .i64 0)] (by kernel_rfl) (by kernel_rfl) ?_
    refine reg_end [(0, Value.pointer b_), (3, Value.int .i64 0)] (by kernel_rfl) (by kernel_rfl) ?_
    change WpE _ _ c_towpathlaw01_Book_lookHeldList_7 _ _ _
    refine wpE_block (id := 0) (x := c_towpathlaw01_Book_lookHeldList_8) (by kernel_rfl) ?_
    obtain ⟨I, μ, h0, hr⟩ := h
    refine wpE_loop (x := c_towpathlaw01_Book_lookHeldList_9) (by kernel_rfl) (fun m l w => ∃ (i : Int), l = [(0, Value.pointer b_), (3, Value.int .i64 i)] ∧ I i w ∧ μ i w = m) (l' := [(0, Value.pointer b_), (3, Value.int .i64 0)]) (Sub.mk (by kernel_rfl)) ⟨0, rfl, h0, rfl⟩ ?_
    rintro _ _ w1 ⟨i, rfl, hI, rfl⟩
    obtain ⟨again_, again__h, h⟩ : ∃ again_ : Int → World → Prop, (∀ i' w', again_ i' w' → I i' w' ∧ μ i' w' < μ i w1) ∧ F_towpathlaw01_Book_lookHeldList_L0 b_ R again_ i w1 := ⟨_, fun _ _ h => h, hr i w1 hI⟩
    clear h0 hI
    unfold F_towpathlaw01_Book_lookHeldList_L0 at h
    refine wpE_seq (x := c_towpathlaw01_Book_lookHeldList_10) (y := c_towpathlaw01_Book_lookHeldList_16) (by kernel_rfl) ?_
    refine wpE_seq (x := c_towpathlaw01_Book_lookHeldList_11) (y := c_towpathlaw01_Book_lookHeldList_13) (by kernel_rfl) ?_
    refine wpE_region (id := 2) (ops := r_towpathlaw01_Book_lookHeldList_11) (by kernel_rfl) ?_
    refine reg_run [.plain, .plain] 2 [(0, [], Value.pointer b_), (3, [], Value.int .i64 i), (6, [], Value.int .i64 i), (7, [], Value.pointer b_)] (by kernel_rfl) (by kernel_rfl) ?_
    obtain ⟨hp_7, h⟩ := h
    refine reg_conv [(0, [], Value.pointer b_), (3, [], Value.int .i64 i), (6, [], Value.int .i64 i), (7, [], Value.pointer (some ⟨(pblk b_), (poff b_), none⟩))] (congrArg (fun pp => ([(0, [], Value.pointer b_), (3, [], Value.int .i64 i), (6, [], Value.int .i64 i), (7, [], Value.pointer pp)] : GEnv)) hp_7) ?_
    refine reg_run [.plain] 3 [(0, [], Value.pointer b_), (3, [], Value.int .i64 i), (6, [], Value.int .i64 i), (7, [], Value.pointer (some ⟨(pblk b_), (poff b_), none⟩)), (8, [], Value.pointer (some ⟨(pblk b_), (poff b_), none⟩))] (by kernel_rfl) (by kernel_rfl) ?_
    refine reg_run [.plain] 4 [(0, [], Value.pointer b_), (3, [], Value.int .i64 i), (6, [], Value.int .i64 i), (9, [], Value.pointer (some ⟨(pblk b_), (poff b_) + 9, none⟩))] (by kernel_rfl) (by kernel_rfl) ?_
    obtain ⟨v10, hc, h⟩ := h
    refine reg_load1 (t := 39) (a := (Go.Operand.tmp 9)) (b := (pblk b_)) (o := ((poff b_) + 9)) (ty := 39) (dst := some 10) (by kernel_rfl) (by kernel_rfl) (by kernel_rfl) hc ?_
    refine reg_run [.plain, .plain] 7 [(0, [], Value.pointer b_), (3, [], Value.int .i64 i), (12, [], Value.bool (decide (i < ((v10.len : Nat) : Int))))] (by kernel_rfl) (by kernel_rfl) ?_
    refine reg_end [(0, Value.pointer b_), (3, Value.int .i64 i), (12, Value.bool (decide (i < ((v10.len : Nat) : Int))))] (by kernel_rfl) (by kernel_rfl) ?_
    change WpE _ _ c_towpathlaw01_Book_lookHeldList_13 _ _ _
    refine wpE_cond (o := (Operand.tmp 12)) (b := (decide (i < ((v10.len : Nat) : Int)))) (x := c_towpathlaw01_Book_lookHeldList_14) (y := c_towpathlaw01_Book_lookHeldList_15) (by kernel_rfl) (by kernel_rfl) (fun hb => ?_) (fun hb => ?_)
    · replace h := h.1 hb
      exact h.elim
    · replace h := h.2 hb
      refine wpE_exit (id := 0) (by kernel_rfl) ?_
      change WpE _ _ c_towpathlaw01_Book_lookHeldList_58 _ _ _
      refine wpE_seq (x := c_towpathlaw01_Book_lookHeldList_59) (y := c_towpathlaw01_Book_lookHeldList_61) (by kernel_rfl) ?_
      refine wpE_region (id := 12) (ops := r_towpathlaw01_Book_lookHeldList_59) (by kernel_rfl) ?_
      refine reg_run [.plain] 1 [(2, [], Value.bool true)] (by kernel_rfl) (by kernel_rfl) ?_
      refine reg_end [(2, Value.bool true)] (by kernel_rfl) (by kernel_rfl) ?_
      change WpE _ _ c_towpathlaw01_Book_lookHeldList_61 _ _ _
      refine wpE_ret (by kernel_rfl) ?_
      repeat (first | refine seqQ_ret ?_ | refine blockQ_ret ?_ | refine loopQ_ret ?_ | refine cutQ_ret ?_)
      exact retS (rs := [(Go.ResultVar.tmp 2)]) (v := Value.bool true) (by kernel_rfl) (⟨by kernel_rfl, trivial⟩) ⟨true, rfl, h⟩
  · rintro e w' ⟨v, rfl, r0, rfl, h⟩; exact ⟨r0, rfl, h⟩

/-! ### (*towpath/towpathlaw01.Book).lookEvent (function 64) -/
noncomputable def c_towpathlaw01_Book_lookEvent_0 : Code := (Tryz.f64.body).getD Code.skip
noncomputable def c_towpathlaw01_Book_lookEvent_1 : Code := Code.l c_towpathlaw01_Book_lookEvent_0
noncomputable def r_towpathlaw01_Book_lookEvent_1 : Array Oper := Code.ops c_towpathlaw01_Book_lookEvent_1
noncomputable def c_towpathlaw01_Book_lookEvent_3 : Code := Code.r c_towpathlaw01_Book_lookEvent_0
noncomputable def c_towpathlaw01_Book_lookEvent_4 : Code := Code.l c_towpathlaw01_Book_lookEvent_3
noncomputable def c_towpathlaw01_Book_lookEvent_5 : Code := Code.l c_towpathlaw01_Book_lookEvent_4
noncomputable def r_towpathlaw01_Book_lookEvent_5 : Array Oper := Code.ops c_towpathlaw01_Book_lookEvent_5
noncomputable def c_towpathlaw01_Book_lookEvent_7 : Code := Code.r c_towpathlaw01_Book_lookEvent_4
noncomputable def c_towpathlaw01_Book_lookEvent_8 : Code := Code.l c_towpathlaw01_Book_lookEvent_7
noncomputable def c_towpathlaw01_Book_lookEvent_9 : Code := Code.l c_towpathlaw01_Book_lookEvent_8
noncomputable def c_towpathlaw01_Book_lookEvent_10 : Code := Code.l c_towpathlaw01_Book_lookEvent_9
noncomputable def c_towpathlaw01_Book_lookEvent_11 : Code := Code.l c_towpathlaw01_Book_lookEvent_10
noncomputable def r_towpathlaw01_Book_lookEvent_11 : Array Oper := Code.ops c_towpathlaw01_Book_lookEvent_11
noncomputable def c_towpathlaw01_Book_lookEvent_13 : Code := Code.r c_towpathlaw01_Book_lookEvent_10
noncomputable def c_towpathlaw01_Book_lookEvent_14 : Code := Code.l c_towpathlaw01_Book_lookEvent_13
noncomputable def c_towpathlaw01_Book_lookEvent_15 : Code := Code.r c_towpathlaw01_Book_lookEvent_13
noncomputable def c_towpathlaw01_Book_lookEvent_16 : Code := Code.r c_towpathlaw01_Book_lookEvent_9
noncomputable def c_towpathlaw01_Book_lookEvent_17 : Code := Code.l c_towpathlaw01_Book_lookEvent_16
noncomputable def c_towpathlaw01_Book_lookEvent_18 : Code := Code.l c_towpathlaw01_Book_lookEvent_17
noncomputable def c_towpathlaw01_Book_lookEvent_19 : Code := Code.l c_towpathlaw01_Book_lookEvent_18
noncomputable def r_towpathlaw01_Book_lookEvent_19 : Array Oper := Code.ops c_towpathlaw01_Book_lookEvent_19
noncomputable def c_towpathlaw01_Book_lookEvent_21 : Code := Code.r c_towpathlaw01_Book_lookEvent_18
noncomputable def c_towpathlaw01_Book_lookEvent_22 : Code := Code.l c_towpathlaw01_Book_lookEvent_21
noncomputable def c_towpathlaw01_Book_lookEvent_23 : Code := Code.l c_towpathlaw01_Book_lookEvent_22
noncomputable def r_towpathlaw01_Book_lookEvent_23 : Array Oper := Code.ops c_towpathlaw01_Book_lookEvent_23
noncomputable def c_towpathlaw01_Book_lookEvent_25 : Code := Code.r c_towpathlaw01_Book_lookEvent_22
noncomputable def c_towpathlaw01_Book_lookEvent_26 : Code := Code.l c_towpathlaw01_Book_lookEvent_25
noncomputable def c_towpathlaw01_Book_lookEvent_27 : Code := Code.l c_towpathlaw01_Book_lookEvent_26
noncomputable def r_towpathlaw01_Book_lookEvent_27 : Array Oper := Code.ops c_towpathlaw01_Book_lookEvent_27
noncomputable def c_towpathlaw01_Book_lookEvent_29 : Code := Code.r c_towpathlaw01_Book_lookEvent_26
noncomputable def c_towpathlaw01_Book_lookEvent_30 : Code := Code.r c_towpathlaw01_Book_lookEvent_25
noncomputable def c_towpathlaw01_Book_lookEvent_31 : Code := Code.r c_towpathlaw01_Book_lookEvent_21
noncomputable def c_towpathlaw01_Book_lookEvent_32 : Code := Code.l c_towpathlaw01_Book_lookEvent_31
noncomputable def r_towpathlaw01_Book_lookEvent_32 : Array Oper := Code.ops c_towpathlaw01_Book_lookEvent_32
noncomputable def c_towpathlaw01_Book_lookEvent_34 : Code := Code.r c_towpathlaw01_Book_lookEvent_31
noncomputable def c_towpathlaw01_Book_lookEvent_35 : Code := Code.l c_towpathlaw01_Book_lookEvent_34
noncomputable def c_towpathlaw01_Book_lookEvent_36 : Code := Code.l c_towpathlaw01_Book_lookEvent_35
noncomputable def c_towpathlaw01_Book_lookEvent_37 : Code := Code.l c_towpathlaw01_Book_lookEvent_36
noncomputable def c_towpathlaw01_Book_lookEvent_38 : Code := Code.l c_towpathlaw01_Book_lookEvent_37
noncomputable def r_towpathlaw01_Book_lookEvent_38 : Array Oper := Code.ops c_towpathlaw01_Book_lookEvent_38
noncomputable def c_towpathlaw01_Book_lookEvent_40 : Code := Code.r c_towpathlaw01_Book_lookEvent_37
noncomputable def c_towpathlaw01_Book_lookEvent_41 : Code := Code.l c_towpathlaw01_Book_lookEvent_40
noncomputable def c_towpathlaw01_Book_lookEvent_42 : Code := Code.r c_towpathlaw01_Book_lookEvent_40
noncomputable def c_towpathlaw01_Book_lookEvent_43 : Code := Code.r c_towpathlaw01_Book_lookEvent_36
noncomputable def c_towpathlaw01_Book_lookEvent_44 : Code := Code.l c_towpathlaw01_Book_lookEvent_43
noncomputable def c_towpathlaw01_Book_lookEvent_45 : Code := Code.l c_towpathlaw01_Book_lookEvent_44
noncomputable def c_towpathlaw01_Book_lookEvent_46 : Code := Code.l c_towpathlaw01_Book_lookEvent_45
noncomputable def r_towpathlaw01_Book_lookEvent_46 : Array Oper := Code.ops c_towpathlaw01_Book_lookEvent_46
noncomputable def c_towpathlaw01_Book_lookEvent_48 : Code := Code.r c_towpathlaw01_Book_lookEvent_45
noncomputable def c_towpathlaw01_Book_lookEvent_49 : Code := Code.l c_towpathlaw01_Book_lookEvent_48
noncomputable def c_towpathlaw01_Book_lookEvent_50 : Code := Code.l c_towpathlaw01_Book_lookEvent_49
noncomputable def r_towpathlaw01_Book_lookEvent_50 : Array Oper := Code.ops c_towpathlaw01_Book_lookEvent_50
noncomputable def c_towpathlaw01_Book_lookEvent_52 : Code := Code.r c_towpathlaw01_Book_lookEvent_49
noncomputable def c_towpathlaw01_Book_lookEvent_53 : Code := Code.r c_towpathlaw01_Book_lookEvent_48
noncomputable def c_towpathlaw01_Book_lookEvent_54 : Code := Code.r c_towpathlaw01_Book_lookEvent_43
noncomputable def r_towpathlaw01_Book_lookEvent_54 : Array Oper := Code.ops c_towpathlaw01_Book_lookEvent_54
noncomputable def c_towpathlaw01_Book_lookEvent_56 : Code := Code.r c_towpathlaw01_Book_lookEvent_16
noncomputable def r_towpathlaw01_Book_lookEvent_56 : Array Oper := Code.ops c_towpathlaw01_Book_lookEvent_56
noncomputable def c_towpathlaw01_Book_lookEvent_58 : Code := Code.r c_towpathlaw01_Book_lookEvent_3
noncomputable def c_towpathlaw01_Book_lookEvent_59 : Code := Code.l c_towpathlaw01_Book_lookEvent_58
noncomputable def r_towpathlaw01_Book_lookEvent_59 : Array Oper := Code.ops c_towpathlaw01_Book_lookEvent_59
noncomputable def c_towpathlaw01_Book_lookEvent_61 : Code := Code.r c_towpathlaw01_Book_lookEvent_58

set_option maxRecDepth 100000 in
set_option maxHeartbeats 4000000 in
theorem S_towpathlaw01_Book_lookEvent {b_ : Option Addr} {w : World} {R : Bool → World → Prop} (h : F_towpathlaw01_Book_lookEvent b_ R w) : C_towpathlaw01_Book_lookEvent b_ w R := by
  unfold F_towpathlaw01_Book_lookEvent at h
  unfold C_towpathlaw01_Book_lookEvent
  refine Calls.mono (calls_of_wpE (args := [Value.pointer b_]) (R := fun v w' => ∃ (r0 : Bool), v = Value.bool r0 ∧ R r0 w') Tryz.func64 (c := c_towpathlaw01_Book_lookEvent_0) (by kernel_rfl) 64 (by kernel_rfl) (by kernel_rfl) [(0, Value.pointer b_)] (by kernel_rfl) ?_) ?_
  · refine wpE_seq (x := c_towpathlaw01_Book_lookEvent_1) (y := c_towpathlaw01_Book_lookEvent_3) (by kernel_rfl) ?_
    refine wpE_region (id := 0) (ops := r_towpathlaw01_Book_lookEvent_1) (by kernel_rfl) ?_
    refine reg_run [.plain] 1 [(0, [], Value.pointer b_)] (by kernel_rfl) (by kernel_rfl) ?_
    refine reg_end [(0, Value.pointer b_)] (by kernel_rfl) (by kernel_rfl) ?_
    change WpE _ _ c_towpathlaw01_Book_lookEvent_3 _ _ _
    refine wpE_seq (x := c_towpathlaw01_Book_lookEvent_4) (y := c_towpathlaw01_Book_lookEvent_58) (by kernel_rfl) ?_
    refine wpE_seq (x := c_towpathlaw01_Book_lookEvent_5) (y := c_towpathlaw01_Book_lookEvent_7) (by kernel_rfl) ?_
    refine wpE_region (id := 1) (ops := r_towpathlaw01_Book_lookEvent_5) (by kernel_rfl) ?_
    refine reg_run [.plain] 1 [(0, [], Value.pointer b_), (3, [], Value.int .i64 0)] (by kernel_rfl) (by kernel_rfl) ?_
    refine reg_end [(0, Value.pointer b_), (3, Value.int .i64 0)] (by kernel_rfl) (by kernel_rfl) ?_
    change WpE _ _ c_towpathlaw01_Book_lookEvent_7 _ _ _
    refine wpE_block (id := 0) (x := c_towpathlaw01_Book_lookEvent_8) (by kernel_rfl) ?_
    obtain ⟨I, μ, h0, hr⟩ := h
    refine wpE_loop (x := c_towpathlaw01_Book_lookEvent_9) (by kernel_rfl) (fun m l w => ∃ (i : Int), l = [(0, Value.pointer b_), (3, Value.int .i64 i)] ∧ I i w ∧ μ i w = m) (l' := [(0, Value.pointer b_), (3, Value.int .i64 0)]) (Sub.mk (by kernel_rfl)) ⟨0, rfl, h0, rfl⟩ ?_
    rintro _ _ w1 ⟨i, rfl, hI, rfl⟩
    obtain ⟨again_, again__h, h⟩ : ∃ again_ : Int → World → Prop, (∀ i' w', again_ i' w' → I i' w' ∧ μ i' w' < μ i w1) ∧ F_towpathlaw01_Book_lookEvent_L0 b_ R again_ i w1 := ⟨_, fun _ _ h => h, hr i w1 hI⟩
    clear h0 hI
    unfold F_towpathlaw01_Book_lookEvent_L0 at h
    refine wpE_seq (x := c_towpathlaw01_Book_lookEvent_10) (y := c_towpathlaw01_Book_lookEvent_16) (by kernel_rfl) ?_
    refine wpE_seq (x := c_towpathlaw01_Book_lookEvent_11) (y := c_towpathlaw01_Book_lookEvent_13) (by kernel_rfl) ?_
    refine wpE_region (id := 2) (ops := r_towpathlaw01_Book_lookEvent_11) (by kernel_rfl) ?_
    refine reg_run [.plain, .plain] 2 [(0, [], Value.pointer b_), (3, [], Value.int .i64 i), (6, [], Value.int .i64 i), (7, [], Value.pointer b_)] (by kernel_rfl) (by kernel_rfl) ?_
    obtain ⟨hp_7, h⟩ := h
    refine reg_conv [(0, [], Value.pointer b_), (3, [], Value.int .i64 i), (6, [], Value.int .i64 i), (7, [], Value.pointer (some ⟨(pblk b_), (poff b_), none⟩))] (congrArg (fun pp => ([(0, [], Value.pointer b_), (3, [], Value.int .i64 i), (6, [], Value.int .i64 i), (7, [], Value.pointer pp)] : GEnv)) hp_7) ?_
    refine reg_run [.plain] 3 [(0, [], Value.pointer b_), (3, [], Value.int .i64 i), (6, [], Value.int .i64 i), (7, [], Value.pointer (some ⟨(pblk b_), (poff b_), none⟩)), (8, [], Value.pointer (some ⟨(pblk b_), (poff b_), none⟩))] (by kernel_rfl) (by kernel_rfl) ?_
    refine reg_run [.plain] 4 [(0, [], Value.pointer b_), (3, [], Value.int .i64 i), (6, [], Value.int .i64 i), (9, [], Value.pointer (some ⟨(pblk b_), (poff b_) + 10, none⟩))] (by kernel_rfl) (by kernel_rfl) ?_
    obtain ⟨v10, hc, h⟩ := h
    refine reg_load1 (t := 40) (a := (Go.Operand.tmp 9)) (b := (pblk b_)) (o := ((poff b_) + 10)) (ty := 40) (dst := some 10) (by kernel_rfl) (by kernel_rfl) (by kernel_rfl) hc ?_
    refine reg_run [.plain, .plain] 7 [(0, [], Value.pointer b_), (3, [], Value.int .i64 i), (12, [], Value.bool (decide (i < ((v10.len : Nat) : Int))))] (by kernel_rfl) (by kernel_rfl) ?_
    refine reg_end [(0, Value.pointer b_), (3, Value.int .i64 i), (12, Value.bool (decide (i < ((v10.len : Nat) : Int))))] (by kernel_rfl) (by kernel_rfl) ?_
    change WpE _ _ c_towpathlaw01_Book_lookEvent_13 _ _ _
    refine wpE_cond (o := (Operand.tmp 12)) (b := (decide (i < ((v10.len : Nat) : Int)))) (x := c_towpathlaw01_Book_lookEvent_14) (y := c_towpathlaw01_Book_lookEvent_15) (by kernel_rfl) (by kernel_rfl) (fun hb => ?_) (fun hb => ?_)
    · replace h := h.1 hb
      exact h.elim
    · replace h := h.2 hb
      refine wpE_exit (id := 0) (by kernel_rfl) ?_
      change WpE _ _ c_towpathlaw01_Book_lookEvent_58 _ _ _
      refine wpE_seq (x := c_towpathlaw01_Book_lookEvent_59) (y := c_towpathlaw01_Book_lookEvent_61) (by kernel_rfl) ?_
      refine wpE_region (id := 12) (ops := r_towpathlaw01_Book_lookEvent_59) (by kernel_rfl) ?_
      refine reg_run [.plain] 1 [(2, [], Value.bool true)] (by kernel_rfl) (by kernel_rfl) ?_
      refine reg_end [(2, Value.bool true)] (by kernel_rfl) (by kernel_rfl) ?_
      change WpE _ _ c_towpathlaw01_Book_lookEvent_61 _ _ _
      refine wpE_ret (by kernel_rfl) ?_
      repeat (first | refine seqQ_ret ?_ | refine blockQ_ret ?_ | refine loopQ_ret ?_ | refine cutQ_ret ?_)
      exact retS (rs := [(Go.ResultVar.tmp 2)]) (v := Value.bool true) (by kernel_rfl) (⟨by kernel_rfl, trivial⟩) ⟨true, rfl, h⟩
  · rintro e w' ⟨v, rfl, r0, rfl, h⟩; exact ⟨r0, rfl, h⟩

/-! ### (*towpath/towpathlaw01.Book).lookAnswer (function 65) -/
noncomputable def c_towpathlaw01_Book_lookAnswer_0 : Code := (Tryz.f65.body).getD Code.skip
noncomputable def c_towpathlaw01_Book_lookAnswer_1 : Code := Code.l c_towpathlaw01_Book_lookAnswer_0
noncomputable def r_towpathlaw01_Book_lookAnswer_1 : Array Oper := Code.ops c_towpathlaw01_Book_lookAnswer_1
noncomputable def c_towpathlaw01_Book_lookAnswer_3 : Code := Code.r c_towpathlaw01_Book_lookAnswer_0
noncomputable def c_towpathlaw01_Book_lookAnswer_4 : Code := Code.l c_towpathlaw01_Book_lookAnswer_3
noncomputable def c_towpathlaw01_Book_lookAnswer_5 : Code := Code.l c_towpathlaw01_Book_lookAnswer_4
noncomputable def r_towpathlaw01_Book_lookAnswer_5 : Array Oper := Code.ops c_towpathlaw01_Book_lookAnswer_5
noncomputable def c_towpathlaw01_Book_lookAnswer_7 : Code := Code.r c_towpathlaw01_Book_lookAnswer_4
noncomputable def c_towpathlaw01_Book_lookAnswer_8 : Code := Code.l c_towpathlaw01_Book_lookAnswer_7
noncomputable def c_towpathlaw01_Book_lookAnswer_9 : Code := Code.l c_towpathlaw01_Book_lookAnswer_8
noncomputable def c_towpathlaw01_Book_lookAnswer_10 : Code := Code.l c_towpathlaw01_Book_lookAnswer_9
noncomputable def c_towpathlaw01_Book_lookAnswer_11 : Code := Code.l c_towpathlaw01_Book_lookAnswer_10
noncomputable def r_towpathlaw01_Book_lookAnswer_11 : Array Oper := Code.ops c_towpathlaw01_Book_lookAnswer_11
noncomputable def c_towpathlaw01_Book_lookAnswer_13 : Code := Code.r c_towpathlaw01_Book_lookAnswer_10
noncomputable def c_towpathlaw01_Book_lookAnswer_14 : Code := Code.l c_towpathlaw01_Book_lookAnswer_13
noncomputable def c_towpathlaw01_Book_lookAnswer_15 : Code := Code.r c_towpathlaw01_Book_lookAnswer_13
noncomputable def c_towpathlaw01_Book_lookAnswer_16 : Code := Code.r c_towpathlaw01_Book_lookAnswer_9
noncomputable def c_towpathlaw01_Book_lookAnswer_17 : Code := Code.l c_towpathlaw01_Book_lookAnswer_16
noncomputable def c_towpathlaw01_Book_lookAnswer_18 : Code := Code.l c_towpathlaw01_Book_lookAnswer_17
noncomputable def c_towpathlaw01_Book_lookAnswer_19 : Code := Code.l c_towpathlaw01_Book_lookAnswer_18
noncomputable def r_towpathlaw01_Book_lookAnswer_19 : Array Oper := Code.ops c_towpathlaw01_Book_lookAnswer_19
noncomputable def c_towpathlaw01_Book_lookAnswer_21 : Code := Code.r c_towpathlaw01_Book_lookAnswer_18
noncomputable def c_towpathlaw01_Book_lookAnswer_22 : Code := Code.l c_towpathlaw01_Book_lookAnswer_21
noncomputable def c_towpathlaw01_Book_lookAnswer_23 : Code := Code.l c_towpathlaw01_Book_lookAnswer_22
noncomputable def r_towpathlaw01_Book_lookAnswer_23 : Array Oper := Code.ops c_towpathlaw01_Book_lookAnswer_23
noncomputable def c_towpathlaw01_Book_lookAnswer_25 : Code := Code.r c_towpathlaw01_Book_lookAnswer_22
noncomputable def c_towpathlaw01_Book_lookAnswer_26 : Code := Code.l c_towpathlaw01_Book_lookAnswer_25
noncomputable def c_towpathlaw01_Book_lookAnswer_27 : Code := Code.l c_towpathlaw01_Book_lookAnswer_26
noncomputable def r_towpathlaw01_Book_lookAnswer_27 : Array Oper := Code.ops c_towpathlaw01_Book_lookAnswer_27
noncomputable def c_towpathlaw01_Book_lookAnswer_29 : Code := Code.r c_towpathlaw01_Book_lookAnswer_26
noncomputable def c_towpathlaw01_Book_lookAnswer_30 : Code := Code.r c_towpathlaw01_Book_lookAnswer_25
noncomputable def c_towpathlaw01_Book_lookAnswer_31 : Code := Code.r c_towpathlaw01_Book_lookAnswer_21
noncomputable def c_towpathlaw01_Book_lookAnswer_32 : Code := Code.l c_towpathlaw01_Book_lookAnswer_31
noncomputable def r_towpathlaw01_Book_lookAnswer_32 : Array Oper := Code.ops c_towpathlaw01_Book_lookAnswer_32
noncomputable def c_towpathlaw01_Book_lookAnswer_34 : Code := Code.r c_towpathlaw01_Book_lookAnswer_31
noncomputable def c_towpathlaw01_Book_lookAnswer_35 : Code := Code.l c_towpathlaw01_Book_lookAnswer_34
noncomputable def c_towpathlaw01_Book_lookAnswer_36 : Code := Code.l c_towpathlaw01_Book_lookAnswer_35
noncomputable def c_towpathlaw01_Book_lookAnswer_37 : Code := Code.l c_towpathlaw01_Book_lookAnswer_36
noncomputable def c_towpathlaw01_Book_lookAnswer_38 : Code := Code.l c_towpathlaw01_Book_lookAnswer_37
noncomputable def r_towpathlaw01_Book_lookAnswer_38 : Array Oper := Code.ops c_towpathlaw01_Book_lookAnswer_38
noncomputable def c_towpathlaw01_Book_lookAnswer_40 : Code := Code.r c_towpathlaw01_Book_lookAnswer_37
noncomputable def c_towpathlaw01_Book_lookAnswer_41 : Code := Code.l c_towpathlaw01_Book_lookAnswer_40
noncomputable def c_towpathlaw01_Book_lookAnswer_42 : Code := Code.r c_towpathlaw01_Book_lookAnswer_40
noncomputable def c_towpathlaw01_Book_lookAnswer_43 : Code := Code.r c_towpathlaw01_Book_lookAnswer_36
noncomputable def c_towpathlaw01_Book_lookAnswer_44 : Code := Code.l c_towpathlaw01_Book_lookAnswer_43
noncomputable def c_towpathlaw01_Book_lookAnswer_45 : Code := Code.l c_towpathlaw01_Book_lookAnswer_44
noncomputable def c_towpathlaw01_Book_lookAnswer_46 : Code := Code.l c_towpathlaw01_Book_lookAnswer_45
noncomputable def r_towpathlaw01_Book_lookAnswer_46 : Array Oper := Code.ops c_towpathlaw01_Book_lookAnswer_46
noncomputable def c_towpathlaw01_Book_lookAnswer_48 : Code := Code.r c_towpathlaw01_Book_lookAnswer_45
noncomputable def c_towpathlaw01_Book_lookAnswer_49 : Code := Code.l c_towpathlaw01_Book_lookAnswer_48
noncomputable def c_towpathlaw01_Book_lookAnswer_50 : Code := Code.l c_towpathlaw01_Book_lookAnswer_49
noncomputable def r_towpathlaw01_Book_lookAnswer_50 : Array Oper := Code.ops c_towpathlaw01_Book_lookAnswer_50
noncomputable def c_towpathlaw01_Book_lookAnswer_52 : Code := Code.r c_towpathlaw01_Book_lookAnswer_49
noncomputable def c_towpathlaw01_Book_lookAnswer_53 : Code := Code.r c_towpathlaw01_Book_lookAnswer_48
noncomputable def c_towpathlaw01_Book_lookAnswer_54 : Code := Code.r c_towpathlaw01_Book_lookAnswer_43
noncomputable def r_towpathlaw01_Book_lookAnswer_54 : Array Oper := Code.ops c_towpathlaw01_Book_lookAnswer_54
noncomputable def c_towpathlaw01_Book_lookAnswer_56 : Code := Code.r c_towpathlaw01_Book_lookAnswer_16
noncomputable def r_towpathlaw01_Book_lookAnswer_56 : Array Oper := Code.ops c_towpathlaw01_Book_lookAnswer_56
noncomputable def c_towpathlaw01_Book_lookAnswer_58 : Code := Code.r c_towpathlaw01_Book_lookAnswer_3
noncomputable def c_towpathlaw01_Book_lookAnswer_59 : Code := Code.l c_towpathlaw01_Book_lookAnswer_58
noncomputable def r_towpathlaw01_Book_lookAnswer_59 : Array Oper := Code.ops c_towpathlaw01_Book_lookAnswer_59
noncomputable def c_towpathlaw01_Book_lookAnswer_61 : Code := Code.r c_towpathlaw01_Book_lookAnswer_58

set_option maxRecDepth 100000 in
set_option maxHeartbeats 4000000 in
theorem S_towpathlaw01_Book_lookAnswer {b_ : Option Addr} {w : World} {R : Bool → World → Prop} (h : F_towpathlaw01_Book_lookAnswer b_ R w) : C_towpathlaw01_Book_lookAnswer b_ w R := by
  unfold F_towpathlaw01_Book_lookAnswer at h
  unfold C_towpathlaw01_Book_lookAnswer
  refine Calls.mono (calls_of_wpE (args := [Value.pointer b_]) (R := fun v w' => ∃ (r0 : Bool), v = Value.bool r0 ∧ R r0 w') Tryz.func65 (c := c_towpathlaw01_Book_lookAnswer_0) (by kernel_rfl) 64 (by kernel_rfl) (by kernel_rfl) [(0, Value.pointer b_)] (by kernel_rfl) ?_) ?_
  · refine wpE_seq (x := c_towpathlaw01_Book_lookAnswer_1) (y := c_towpathlaw01_Book_lookAnswer_3) (by kernel_rfl) ?_
    refine wpE_region (id := 0) (ops := r_towpathlaw01_Book_lookAnswer_1) (by kernel_rfl) ?_
    refine reg_run [.plain] 1 [(0, [], Value.pointer b_)] (by kernel_rfl) (by kernel_rfl) ?_
    refine reg_end [(0, Value.pointer b_)] (by kernel_rfl) (by kernel_rfl) ?_
    change WpE _ _ c_towpathlaw01_Book_lookAnswer_3 _ _ _
    refine wpE_seq (x := c_towpathlaw01_Book_lookAnswer_4) (y := c_towpathlaw01_Book_lookAnswer_58) (by kernel_rfl) ?_
    refine wpE_seq (x := c_towpathlaw01_Book_lookAnswer_5) (y := c_towpathlaw01_Book_lookAnswer_7) (by kernel_rfl) ?_
    refine wpE_region (id := 1) (ops := r_towpathlaw01_Book_lookAnswer_5) (by kernel_rfl) ?_
    refine reg_run [.plain] 1 [(0, [], Value.pointer b_), (3, [], Value.int .i64 0)] (by kernel_rfl) (by kernel_rfl) ?_
    refine reg_end [(0, Value.pointer b_), (3, Value.int .i64 0)] (by kernel_rfl) (by kernel_rfl) ?_
    change WpE _ _ c_towpathlaw01_Book_lookAnswer_7 _ _ _
    refine wpE_block (id := 0) (x := c_towpathlaw01_Book_lookAnswer_8) (by kernel_rfl) ?_
    obtain ⟨I, μ, h0, hr⟩ := h
    refine wpE_loop (x := c_towpathlaw01_Book_lookAnswer_9) (by kernel_rfl) (fun m l w => ∃ (i : Int), l = [(0, Value.pointer b_), (3, Value.int .i64 i)] ∧ I i w ∧ μ i w = m) (l' := [(0, Value.pointer b_), (3, Value.int .i64 0)]) (Sub.mk (by kernel_rfl)) ⟨0, rfl, h0, rfl⟩ ?_
    rintro _ _ w1 ⟨i, rfl, hI, rfl⟩
    obtain ⟨again_, again__h, h⟩ : ∃ again_ : Int → World → Prop, (∀ i' w', again_ i' w' → I i' w' ∧ μ i' w' < μ i w1) ∧ F_towpathlaw01_Book_lookAnswer_L0 b_ R again_ i w1 := ⟨_, fun _ _ h => h, hr i w1 hI⟩
    clear h0 hI
    unfold F_towpathlaw01_Book_lookAnswer_L0 at h
    refine wpE_seq (x := c_towpathlaw01_Book_lookAnswer_10) (y := c_towpathlaw01_Book_lookAnswer_16) (by kernel_rfl) ?_
    refine wpE_seq (x := c_towpathlaw01_Book_lookAnswer_11) (y := c_towpathlaw01_Book_lookAnswer_13) (by kernel_rfl) ?_
    refine wpE_region (id := 2) (ops := r_towpathlaw01_Book_lookAnswer_11) (by kernel_rfl) ?_
    refine reg_run [.plain, .plain] 2 [(0, [], Value.pointer b_), (3, [], Value.int .i64 i), (6, [], Value.int .i64 i), (7, [], Value.pointer b_)] (by kernel_rfl) (by kernel_rfl) ?_
    obtain ⟨hp_7, h⟩ := h
    refine reg_conv [(0, [], Value.pointer b_), (3, [], Value.int .i64 i), (6, [], Value.int .i64 i), (7, [], Value.pointer (some ⟨(pblk b_), (poff b_), none⟩))] (congrArg (fun pp => ([(0, [], Value.pointer b_), (3, [], Value.int .i64 i), (6, [], Value.int .i64 i), (7, [], Value.pointer pp)] : GEnv)) hp_7) ?_
    refine reg_run [.plain] 3 [(0, [], Value.pointer b_), (3, [], Value.int .i64 i), (6, [], Value.int .i64 i), (7, [], Value.pointer (some ⟨(pblk b_), (poff b_), none⟩)), (8, [], Value.pointer (some ⟨(pblk b_), (poff b_), none⟩))] (by kernel_rfl) (by kernel_rfl) ?_
    refine reg_run [.plain] 4 [(0, [], Value.pointer b_), (3, [], Value.int .i64 i), (6, [], Value.int .i64 i), (9, [], Value.pointer (some ⟨(pblk b_), (poff b_) + 11, none⟩))] (by kernel_rfl) (by kernel_rfl) ?_
    obtain ⟨v10, hc, h⟩ := h
    refine reg_load1 (t := 41) (a := (Go.Operand.tmp 9)) (b := (pblk b_)) (o := ((poff b_) + 11)) (ty := 41) (dst := some 10) (by kernel_rfl) (by kernel_rfl) (by kernel_rfl) hc ?_
    refine reg_run [.plain, .plain] 7 [(0, [], Value.pointer b_), (3, [], Value.int .i64 i), (12, [], Value.bool (decide (i < ((v10.len : Nat) : Int))))] (by kernel_rfl) (by kernel_rfl) ?_
    refine reg_end [(0, Value.pointer b_), (3, Value.int .i64 i), (12, Value.bool (decide (i < ((v10.len : Nat) : Int))))] (by kernel_rfl) (by kernel_rfl) ?_
    change WpE _ _ c_towpathlaw01_Book_lookAnswer_13 _ _ _
    refine wpE_cond (o := (Operand.tmp 12)) (b := (decide (i < ((v10.len : Nat) : Int)))) (x := c_towpathlaw01_Book_lookAnswer_14) (y := c_towpathlaw01_Book_lookAnswer_15) (by kernel_rfl) (by kernel_rfl) (fun hb => ?_) (fun hb => ?_)
    · replace h := h.1 hb
      exact h.elim
    · replace h := h.2 hb
      refine wpE_exit (id := 0) (by kernel_rfl) ?_
      change WpE _ _ c_towpathlaw01_Book_lookAnswer_58 _ _ _
      refine wpE_seq (x := c_towpathlaw01_Book_lookAnswer_59) (y := c_towpathlaw01_Book_lookAnswer_61) (by kernel_rfl) ?_
      refine wpE_region (id := 12) (ops := r_towpathlaw01_Book_lookAnswer_59) (by kernel_rfl) ?_
      refine reg_run [.plain] 1 [(2, [], Value.bool true)] (by kernel_rfl) (by kernel_rfl) ?_
      refine reg_end [(2, Value.bool true)] (by kernel_rfl) (by kernel_rfl) ?_
      change WpE _ _ c_towpathlaw01_Book_lookAnswer_61 _ _ _
      refine wpE_ret (by kernel_rfl) ?_
      repeat (first | refine seqQ_ret ?_ | refine blockQ_ret ?_ | refine loopQ_ret ?_ | refine cutQ_ret ?_)
      exact retS (rs := [(Go.ResultVar.tmp 2)]) (v := Value.bool true) (by kernel_rfl) (⟨by kernel_rfl, trivial⟩) ⟨true, rfl, h⟩
  · rintro e w' ⟨v, rfl, r0, rfl, h⟩; exact ⟨r0, rfl, h⟩

/-! ### towpath/towpathlaw01.markByte (function 68) -/
noncomputable def c_towpathlaw01_markByte_0 : Code := (Tryz.f68.body).getD Code.skip
noncomputable def c_towpathlaw01_markByte_1 : Code := Code.l c_towpathlaw01_markByte_0
noncomputable def r_towpathlaw01_markByte_1 : Array Oper := Code.ops c_towpathlaw01_markByte_1
noncomputable def c_towpathlaw01_markByte_3 : Code := Code.r c_towpathlaw01_markByte_0
noncomputable def c_towpathlaw01_markByte_4 : Code := Code.l c_towpathlaw01_markByte_3
noncomputable def r_towpathlaw01_markByte_4 : Array Oper := Code.ops c_towpathlaw01_markByte_4
noncomputable def c_towpathlaw01_markByte_6 : Code := Code.r c_towpathlaw01_markByte_3

set_option maxRecDepth 100000 in
set_option maxHeartbeats 4000000 in
theorem S_towpathlaw01_markByte {n_ : Int} {w : World} {R : Int → World → Prop} (h : F_towpathlaw01_markByte n_ R w) : C_towpathlaw01_markByte n_ w R := by
  unfold F_towpathlaw01_markByte at h
  unfold C_towpathlaw01_markByte
  refine Calls.mono (calls_of_wpE (args := [Value.int .i64 n_]) (R := fun v w' => ∃ (r0 : Int), v = Value.int .u8 r0 ∧ R r0 w') Tryz.func68 (c := c_towpathlaw01_markByte_0) (by kernel_rfl) 7 (by kernel_rfl) (by kernel_rfl) [(0, Value.int .i64 n_)] (by kernel_rfl) ?_) ?_
  · refine wpE_seq (x := c_towpathlaw01_markByte_1) (y := c_towpathlaw01_markByte_3) (by kernel_rfl) ?_
    refine wpE_region (id := 0) (ops := r_towpathlaw01_markByte_1) (by kernel_rfl) ?_
    refine reg_run [.plain] 1 [(0, [], Value.int .i64 n_)] (by kernel_rfl) (by kernel_rfl) ?_
    refine reg_end [(0, Value.int .i64 n_)] (by kernel_rfl) (by kernel_rfl) ?_
    change WpE _ _ c_towpathlaw01_markByte_3 _ _ _
    refine wpE_seq (x := c_towpathlaw01_markByte_4) (y := c_towpathlaw01_markByte_6) (by kernel_rfl) ?_
    refine wpE_region (id := 1) (ops := r_towpathlaw01_markByte_4) (by kernel_rfl) ?_
    refine reg_run [.plain, .plain, .plain, .plain, .plain] 5 [(2, [], Value.int .u8 (IntKind.u8.wrap (IntKind.i64.wrap (1 + (Int.tmod n_ 255)))))] (by kernel_rfl) (by kernel_rfl) ?_
    refine reg_end [(2, Value.int .u8 (IntKind.u8.wrap (IntKind.i64.wrap (1 + (Int.tmod n_ 255)))))] (by kernel_rfl) (by kernel_rfl) ?_
    change WpE _ _ c_towpathlaw01_markByte_6 _ _ _
    refine wpE_ret (by kernel_rfl) ?_
    repeat (first | refine seqQ_ret ?_ | refine blockQ_ret ?_ | refine loopQ_ret ?_ | refine cutQ_ret ?_)
    exact retS (rs := [(Go.ResultVar.tmp 2)]) (v := Value.int .u8 (IntKind.u8.wrap (IntKind.i64.wrap (1 + (Int.tmod n_ 255))))) (by kernel_rfl) (⟨by kernel_rfl, trivial⟩) ⟨(IntKind.u8.wrap (IntKind.i64.wrap (1 + (Int.tmod n_ 255)))), rfl, h⟩
  · rintro e w' ⟨v, rfl, r0, rfl, h⟩; exact ⟨r0, rfl, h⟩

/-! ### towpath/towpathlaw01.isByte (function 79) -/
noncomputable def c_towpathlaw01_isByte_0 : Code := (Tryz.f79.body).getD Code.skip
noncomputable def c_towpathlaw01_isByte_1 : Code := Code.l c_towpathlaw01_isByte_0
noncomputable def r_towpathlaw01_isByte_1 : Array Oper := Code.ops c_towpathlaw01_isByte_1
noncomputable def c_towpathlaw01_isByte_3 : Code := Code.r c_towpathlaw01_isByte_0
noncomputable def c_towpathlaw01_isByte_4 : Code := Code.l c_towpathlaw01_isByte_3
noncomputable def r_towpathlaw01_isByte_4 : Array Oper := Code.ops c_towpathlaw01_isByte_4
noncomputable def c_towpathlaw01_isByte_6 : Code := Code.r c_towpathlaw01_isByte_3

set_option maxRecDepth 100000 in
set_option maxHeartbeats 4000000 in
theorem S_towpathlaw01_isByte {x : Int} {n_ : Int} {w : World} {R : Bool → World → Prop} (h : F_towpathlaw01_isByte x n_ R w) : C_towpathlaw01_isByte x n_ w R := by
  unfold F_towpathlaw01_isByte at h
  unfold C_towpathlaw01_isByte
  refine Calls.mono (calls_of_wpE (args := [Value.int .u8 x, Value.int .i64 n_]) (R := fun v w' => ∃ (r0 : Bool), v = Value.bool r0 ∧ R r0 w') Tryz.func79 (c := c_towpathlaw01_isByte_0) (by kernel_rfl) 11 (by kernel_rfl) (by kernel_rfl) [(0, Value.int .u8 x), (1, Value.int .i64 n_)] (by kernel_rfl) ?_) ?_
  · refine wpE_seq (x := c_towpathlaw01_isByte_1) (y := c_towpathlaw01_isByte_3) (by kernel_rfl) ?_
    refine wpE_region (id := 0) (ops := r_towpathlaw01_isByte_1) (by kernel_rfl) ?_
    refine reg_run [.plain] 1 [(0, [], Value.int .u8 x), (1, [], Value.int .i64 n_)] (by kernel_rfl) (by kernel_rfl) ?_
    refine reg_end [(0, Value.int .u8 x), (1, Value.int .i64 n_)] (by kernel_rfl) (by kernel_rfl) ?_
    change WpE _ _ c_towpathlaw01_isByte_3 _ _ _
    refine wpE_seq (x := c_towpathlaw01_isByte_4) (y := c_towpathlaw01_isByte_6) (by kernel_rfl) ?_
    refine wpE_region (id := 1) (ops := r_towpathlaw01_isByte_4) (by kernel_rfl) ?_
    refine reg_run [.plain, .plain, .plain, .plain, .plain, .plain, .plain] 7 [(4, [], Value.bool (x == (IntKind.u8.wrap (IntKind.i64.wrap (1 + (Int.tmod n_ 255))))))] (by kernel_rfl) (by kernel_rfl) ?_
    refine reg_end [(4, Value.bool (x == (IntKind.u8.wrap (IntKind.i64.wrap (1 + (Int.tmod n_ 255))))))] (by kernel_rfl) (by kernel_rfl) ?_
    change WpE _ _ c_towpathlaw01_isByte_6 _ _ _
    refine wpE_ret (by kernel_rfl) ?_
    repeat (first | refine seqQ_ret ?_ | refine blockQ_ret ?_ | refine loopQ_ret ?_ | refine cutQ_ret ?_)
    exact retS (rs := [(Go.ResultVar.tmp 4)]) (v := Value.bool (x == (IntKind.u8.wrap (IntKind.i64.wrap (1 + (Int.tmod n_ 255)))))) (by kernel_rfl) (⟨by kernel_rfl, trivial⟩) ⟨(x == (IntKind.u8.wrap (IntKind.i64.wrap (1 + (Int.tmod n_ 255))))), rfl, h⟩
  · rintro e w' ⟨v, rfl, r0, rfl, h⟩; exact ⟨r0, rfl, h⟩
end Go.Proofs.YtckmganidgbpgaaGreatDoor
