/- WRITTEN BY PROGRAM (dec.py): for each Go function the clean formula F, the call's contract C, and the proof S that F gives C. -/
import Derived.Test.YtcgfmkpddhhmgaaDoorRows
import Derived.Test.YtcgfmkpddhhmgaaDoorGF
namespace Go.Proofs.YtcgfmkpddhhmgaaDoor
open Go
set_option linter.unusedVariables false

/-! ### (*towpath/towpathlaw01.Book).lookHeldList (function 60) -/
noncomputable def c_towpathlaw01_Book_lookHeldList_0 : Code := (Tryd.f60.body).getD Code.skip
noncomputable def c_towpathlaw01_Book_lookHeldList_1 : Code := Code.l c_towpathlaw01_Book_lookHeldList_0
noncomputable def r_towpathlaw01_Book_lookHeldList_1 : Array Oper := Code.ops c_towpathlaw01_Book_lookHeldList_1
noncomputable def c_towpathlaw01_Book_lookHeldList_3 : Code := Code.r c_towpathlaw01_Book_lookHeldList_0
noncomputable def c_towpathlaw01_Book_lookHeldList_4 : Code := Code.l c_towpathlaw01_Book_lookHeldList_3
noncomputable def c_towpathlaw01_Book_lookHeldList_5 : Code := Code.l c_towpathlaw01_Book_lookHeldList_4
noncomputable def r_towpathlaw01_Book_lookHeldList_5 : Array Oper := Code.ops c_towpathlaw01_Book_lookHeldList_5
noncomputable def c_towpathlaw01_Book_lookHeldList_7 : Code := Code.r c_towpathlaw01_Book_lookHeldList_4
noncomputable def c_towpathlaw01_Book_lookHeldList_8 : Code := Code.l c_towpathlaw01_Book_lookHeldList_7
noncomputable def c_towpathlaw01_Book_lookHeldList_9 : Code := Code.l c_towpathlaw01_Book_lookHeldList_8
noncomputable def c_towpathlaw01_Book_lookHeldList_10 : Code := Code.l c_towpathlaw01_Book_lookHeldList_9
noncomputable def c_towpathlaw01_Book_lookHeldList_11 : Code := Code.l c_towpathlaw01_Book_lookHeldList_10
noncomputable def r_towpathlaw01_Book_lookHeldList_11 : Array Oper := Code.ops c_towpathlaw01_Book_lookHeldList_11
noncomputable def c_towpathlaw01_Book_lookHeldList_13 : Code := Code.r c_towpathlaw01_Book_lookHeldList_10
noncomputable def c_towpathlaw01_Book_lookHeldList_14 : Code := Code.l c_towpathlaw01_Book_lookHeldList_13
noncomputable def c_towpathlaw01_Book_lookHeldList_15 : Code := Code.r c_towpathlaw01_Book_lookHeldList_13
noncomputable def c_towpathlaw01_Book_lookHeldList_16 : Code := Code.r c_towpathlaw01_Book_lookHeldList_9
noncomputable def c_towpathlaw01_Book_lookHeldList_17 : Code := Code.l c_towpathlaw01_Book_lookHeldList_16
noncomputable def c_towpathlaw01_Book_lookHeldList_18 : Code := Code.l c_towpathlaw01_Book_lookHeldList_17
noncomputable def c_towpathlaw01_Book_lookHeldList_19 : Code := Code.l c_towpathlaw01_Book_lookHeldList_18
noncomputable def r_towpathlaw01_Book_lookHeldList_19 : Array Oper := Code.ops c_towpathlaw01_Book_lookHeldList_19
noncomputable def c_towpathlaw01_Book_lookHeldList_21 : Code := Code.r c_towpathlaw01_Book_lookHeldList_18
noncomputable def c_towpathlaw01_Book_lookHeldList_22 : Code := Code.l c_towpathlaw01_Book_lookHeldList_21
noncomputable def c_towpathlaw01_Book_lookHeldList_23 : Code := Code.l c_towpathlaw01_Book_lookHeldList_22
noncomputable def r_towpathlaw01_Book_lookHeldList_23 : Array Oper := Code.ops c_towpathlaw01_Book_lookHeldList_23
noncomputable def c_towpathlaw01_Book_lookHeldList_25 : Code := Code.r c_towpathlaw01_Book_lookHeldList_22
noncomputable def c_towpathlaw01_Book_lookHeldList_26 : Code := Code.l c_towpathlaw01_Book_lookHeldList_25
noncomputable def c_towpathlaw01_Book_lookHeldList_27 : Code := Code.l c_towpathlaw01_Book_lookHeldList_26
noncomputable def r_towpathlaw01_Book_lookHeldList_27 : Array Oper := Code.ops c_towpathlaw01_Book_lookHeldList_27
noncomputable def c_towpathlaw01_Book_lookHeldList_29 : Code := Code.r c_towpathlaw01_Book_lookHeldList_26
noncomputable def c_towpathlaw01_Book_lookHeldList_30 : Code := Code.r c_towpathlaw01_Book_lookHeldList_25
noncomputable def c_towpathlaw01_Book_lookHeldList_31 : Code := Code.r c_towpathlaw01_Book_lookHeldList_21
noncomputable def c_towpathlaw01_Book_lookHeldList_32 : Code := Code.l c_towpathlaw01_Book_lookHeldList_31
noncomputable def r_towpathlaw01_Book_lookHeldList_32 : Array Oper := Code.ops c_towpathlaw01_Book_lookHeldList_32
noncomputable def c_towpathlaw01_Book_lookHeldList_34 : Code := Code.r c_towpathlaw01_Book_lookHeldList_31
noncomputable def c_towpathlaw01_Book_lookHeldList_35 : Code := Code.l c_towpathlaw01_Book_lookHeldList_34
noncomputable def c_towpathlaw01_Book_lookHeldList_36 : Code := Code.l c_towpathlaw01_Book_lookHeldList_35
noncomputable def c_towpathlaw01_Book_lookHeldList_37 : Code := Code.l c_towpathlaw01_Book_lookHeldList_36
noncomputable def c_towpathlaw01_Book_lookHeldList_38 : Code := Code.l c_towpathlaw01_Book_lookHeldList_37
noncomputable def r_towpathlaw01_Book_lookHeldList_38 : Array Oper := Code.ops c_towpathlaw01_Book_lookHeldList_38
noncomputable def c_towpathlaw01_Book_lookHeldList_40 : Code := Code.r c_towpathlaw01_Book_lookHeldList_37
noncomputable def c_towpathlaw01_Book_lookHeldList_41 : Code := Code.l c_towpathlaw01_Book_lookHeldList_40
noncomputable def c_towpathlaw01_Book_lookHeldList_42 : Code := Code.r c_towpathlaw01_Book_lookHeldList_40
noncomputable def c_towpathlaw01_Book_lookHeldList_43 : Code := Code.r c_towpathlaw01_Book_lookHeldList_36
noncomputable def c_towpathlaw01_Book_lookHeldList_44 : Code := Code.l c_towpathlaw01_Book_lookHeldList_43
noncomputable def c_towpathlaw01_Book_lookHeldList_45 : Code := Code.l c_towpathlaw01_Book_lookHeldList_44
noncomputable def c_towpathlaw01_Book_lookHeldList_46 : Code := Code.l c_towpathlaw01_Book_lookHeldList_45
noncomputable def r_towpathlaw01_Book_lookHeldList_46 : Array Oper := Code.ops c_towpathlaw01_Book_lookHeldList_46
noncomputable def c_towpathlaw01_Book_lookHeldList_48 : Code := Code.r c_towpathlaw01_Book_lookHeldList_45
noncomputable def c_towpathlaw01_Book_lookHeldList_49 : Code := Code.l c_towpathlaw01_Book_lookHeldList_48
noncomputable def c_towpathlaw01_Book_lookHeldList_50 : Code := Code.l c_towpathlaw01_Book_lookHeldList_49
noncomputable def r_towpathlaw01_Book_lookHeldList_50 : Array Oper := Code.ops c_towpathlaw01_Book_lookHeldList_50
noncomputable def c_towpathlaw01_Book_lookHeldList_52 : Code := Code.r c_towpathlaw01_Book_lookHeldList_49
noncomputable def c_towpathlaw01_Book_lookHeldList_53 : Code := Code.r c_towpathlaw01_Book_lookHeldList_48
noncomputable def c_towpathlaw01_Book_lookHeldList_54 : Code := Code.r c_towpathlaw01_Book_lookHeldList_43
noncomputable def r_towpathlaw01_Book_lookHeldList_54 : Array Oper := Code.ops c_towpathlaw01_Book_lookHeldList_54
noncomputable def c_towpathlaw01_Book_lookHeldList_56 : Code := Code.r c_towpathlaw01_Book_lookHeldList_16
noncomputable def r_towpathlaw01_Book_lookHeldList_56 : Array Oper := Code.ops c_towpathlaw01_Book_lookHeldList_56
noncomputable def c_towpathlaw01_Book_lookHeldList_58 : Code := Code.r c_towpathlaw01_Book_lookHeldList_3
noncomputable def c_towpathlaw01_Book_lookHeldList_59 : Code := Code.l c_towpathlaw01_Book_lookHeldList_58
noncomputable def r_towpathlaw01_Book_lookHeldList_59 : Array Oper := Code.ops c_towpathlaw01_Book_lookHeldList_59
noncomputable def c_towpathlaw01_Book_lookHeldList_61 : Code := Code.r c_towpathlaw01_Book_lookHeldList_58

set_option maxRecDepth 100000 in
set_option maxHeartbeats 4000000 in
theorem S_towpathlaw01_Book_lookHeldList {b_ : Option Addr} {w : World} {R : Bool → World → Prop} (h : F_towpathlaw01_Book_lookHeldList b_ R w) : C_towpathlaw01_Book_lookHeldList b_ w R := by
  unfold F_towpathlaw01_Book_lookHeldList at h
  unfold C_towpathlaw01_Book_lookHeldList
  refine Calls.mono (calls_of_wpE (args := [Value.pointer b_]) (R := fun v w' => ∃ (r0 : Bool), v = Value.bool r0 ∧ R r0 w') Tryd.func60 (c := c_towpathlaw01_Book_lookHeldList_0) (by kernel_rfl) 64 (by kernel_rfl) (by kernel_rfl) [(0, Value.pointer b_)] (by kernel_rfl) ?_) ?_
  · refine wpE_seq (x := c_towpathlaw01_Book_lookHeldList_1) (y := c_towpathlaw01_Book_lookHeldList_3) (by kernel_rfl) ?_
    refine wpE_region (id := 0) (ops := r_towpathlaw01_Book_lookHeldList_1) (by kernel_rfl) ?_
    refine reg_run [.plain] 1 [(0, [], Value.pointer b_)] (by kernel_rfl) (by kernel_rfl) ?_
    refine reg_end [(0, Value.pointer b_)] (by kernel_rfl) (by kernel_rfl) ?_
    change WpE _ _ c_towpathlaw01_Book_lookHeldList_3 _ _ _
    refine wpE_seq (x := c_towpathlaw01_Book_lookHeldList_4) (y := c_towpathlaw01_Book_lookHeldList_58) (by kernel_rfl) ?_
    refine wpE_seq (x := c_towpathlaw01_Book_lookHeldList_5) (y := c_towpathlaw01_Book_lookHeldList_7) (by kernel_rfl) ?_
    refine wpE_region (id := 1) (ops := r_towpathlaw01_Book_lookHeldList_5) (by kernel_rfl) ?_
    refine reg_run [.plain] 1 [(0, [], Value.pointer b_), (3, [], Value.int .i64 0)] (by kernel_rfl) (by kernel_rfl) ?_
    refine reg_end [(0, Value.pointer b_), (3, Value.int .i64 0)] (by kernel_rfl) (by kernel_rfl) ?_
    change WpE _ _ c_towpathlaw01_Book_lookHeldList_7 _ _ _
    refine wpE_block (id := 0) (x := c_towpathlaw01_Book_lookHeldList_8) (by kernel_rfl) ?_
    obtain ⟨I, μ, h0, hr⟩ := h
    refine wpE_loop (x := c_towpathlaw01_Book_lookHeldList_9) (by kernel_rfl) (fun m l w => ∃ (i : Int), l = [(0, Value.pointer b_), (3, Value.int .i64 i)] ∧ I i w ∧ μ i w = m) (l' := [(0, Value.pointer b_), (3, Value.int .i64 0)]) (Sub.mk (by kernel_rfl)) ⟨0, rfl, h0, rfl⟩ ?_
    rintro _ _ w1 ⟨i, rfl, hI, rfl⟩
    obtain ⟨again_, again__h, h⟩ : ∃ again_ : Int → World → Prop, (∀ i' w', again_ i' w' → I i' w' ∧ μ i' w' < μ i w1) ∧ F_towpathlaw01_Book_lookHeldList_L0 b_ R again_ i w1 := ⟨_, fun _ _ h => h, hr i w1 hI⟩
    clear h0 hI
    unfold F_towpathlaw01_Book_lookHeldList_L0 at h
    refine wpE_seq (x := c_towpathlaw01_Book_lookHeldList_10) (y := c_towpathlaw01_Book_lookHeldList_16) (by kernel_rfl) ?_
    refine wpE_seq (x := c_towpathlaw01_Book_lookHeldList_11) (y := c_towpathlaw01_Book_lookHeldList_13) (by kernel_rfl) ?_
    refine wpE_region (id := 2) (ops := r_towpathlaw01_Book_lookHeldList_11) (by kernel_rfl) ?_
    refine reg_run [.plain, .plain] 2 [(0, [], Value.pointer b_), (3, [], Value.int .i64 i), (6, [], Value.int .i64 i), (7, [], Value.pointer b_)] (by kernel_rfl) (by kernel_rfl) ?_
    obtain ⟨hp_7, h⟩ := h
    refine reg_conv [(0, [], Value.pointer b_), (3, [], Value.int .i64 i), (6, [], Value.int .i64 i), (7, [], Value.pointer (some ⟨(pblk b_), (poff b_), none⟩))] (congrArg (fun pp => ([(0, [], Value.pointer b_), (3, [], Value.int .i64 i), (6, [], Value.int .i64 i), (7, [], Value.pointer pp)] : GEnv)) hp_7) ?_
    refine reg_run [.plain] 3 [(0, [], Value.pointer b_), (3, [], Value.int .i64 i), (6, [], Value.int .i64 i), (7, [], Value.pointer (some ⟨(pblk b_), (poff b_), none⟩)), (8, [], Value.pointer (some ⟨(pblk b_), (poff b_), none⟩))] (by kernel_rfl) (by kernel_rfl) ?_
    refine reg_run [.plain] 4 [(0, [], Value.pointer b_), (3, [], Value.int .i64 i), (6, [], Value.int .i64 i), (9, [], Value.pointer (some ⟨(pblk b_), (poff b_) + 9, none⟩))] (by kernel_rfl) (by kernel_rfl) ?_
    obtain ⟨v10, hc, h⟩ := h
    refine reg_load1 (t := 42) (a := (Go.Operand.tmp 9)) (b := (pblk b_)) (o := ((poff b_) + 9)) (ty := 42) (dst := some 10) (by kernel_rfl) (by kernel_rfl) (by kernel_rfl) hc ?_
    refine reg_run [.plain, .plain] 7 [(0, [], Value.pointer b_), (3, [], Value.int .i64 i), (12, [], Value.bool (decide (i < ((v10.len : Nat) : Int))))] (by kernel_rfl) (by kernel_rfl) ?_
    refine reg_end [(0, Value.pointer b_), (3, Value.int .i64 i), (12, Value.bool (decide (i < ((v10.len : Nat) : Int))))] (by kernel_rfl) (by kernel_rfl) ?_
    change WpE _ _ c_towpathlaw01_Book_lookHeldList_13 _ _ _
    refine wpE_cond (o := (Operand.tmp 12)) (b := (decide (i < ((v10.len : Nat) : Int)))) (x := c_towpathlaw01_Book_lookHeldList_14) (y := c_towpathlaw01_Book_lookHeldList_15) (by kernel_rfl) (by kernel_rfl) (fun hb => ?_) (fun hb => ?_)
    · replace h := h.1 hb
      exact h.elim
    · replace h := h.2 hb
      refine wpE_exit (id := 0) (by kernel_rfl) ?_
      change WpE _ _ c_towpathlaw01_Book_lookHeldList_58 _ _ _
      refine wpE_seq (x := c_towpathlaw01_Book_lookHeldList_59) (y := c_towpathlaw01_Book_lookHeldList_61) (by kernel_rfl) ?_
      refine wpE_region (id := 12) (ops := r_towpathlaw01_Book_lookHeldList_59) (by kernel_rfl) ?_
      refine reg_run [.plain] 1 [(2, [], Value.bool true)] (by kernel_rfl) (by kernel_rfl) ?_
      refine reg_end [(2, Value.bool true)] (by kernel_rfl) (by kernel_rfl) ?_
      change WpE _ _ c_towpathlaw01_Book_lookHeldList_61 _ _ _
      refine wpE_ret (by kernel_rfl) ?_
      repeat (first | refine seqQ_ret ?_ | refine blockQ_ret ?_ | refine loopQ_ret ?_ | refine cutQ_ret ?_)
      exact retS (rs := [(Go.ResultVar.tmp 2)]) (v := Value.bool true) (by kernel_rfl) (⟨by kernel_rfl, trivial⟩) ⟨true, rfl, h⟩
  · rintro e w' ⟨v, rfl, r0, rfl, h⟩; exact ⟨r0, rfl, h⟩

/-! ### (*towpath/towpathlaw01.Book).lookEvent (function 61) -/
noncomputable def c_towpathlaw01_Book_lookEvent_0 : Code := (Tryd.f61.body).getD Code.skip
noncomputable def c_towpathlaw01_Book_lookEvent_1 : Code := Code.l c_towpathlaw01_Book_lookEvent_0
noncomputable def r_towpathlaw01_Book_lookEvent_1 : Array Oper := Code.ops c_towpathlaw01_Book_lookEvent_1
noncomputable def c_towpathlaw01_Book_lookEvent_3 : Code := Code.r c_towpathlaw01_Book_lookEvent_0
noncomputable def c_towpathlaw01_Book_lookEvent_4 : Code := Code.l c_towpathlaw01_Book_lookEvent_3
noncomputable def c_towpathlaw01_Book_lookEvent_5 : Code := Code.l c_towpathlaw01_Book_lookEvent_4
noncomputable def r_towpathlaw01_Book_lookEvent_5 : Array Oper := Code.ops c_towpathlaw01_Book_lookEvent_5
noncomputable def c_towpathlaw01_Book_lookEvent_7 : Code := Code.r c_towpathlaw01_Book_lookEvent_4
noncomputable def c_towpathlaw01_Book_lookEvent_8 : Code := Code.l c_towpathlaw01_Book_lookEvent_7
noncomputable def c_towpathlaw01_Book_lookEvent_9 : Code := Code.l c_towpathlaw01_Book_lookEvent_8
noncomputable def c_towpathlaw01_Book_lookEvent_10 : Code := Code.l c_towpathlaw01_Book_lookEvent_9
noncomputable def c_towpathlaw01_Book_lookEvent_11 : Code := Code.l c_towpathlaw01_Book_lookEvent_10
noncomputable def r_towpathlaw01_Book_lookEvent_11 : Array Oper := Code.ops c_towpathlaw01_Book_lookEvent_11
noncomputable def c_towpathlaw01_Book_lookEvent_13 : Code := Code.r c_towpathlaw01_Book_lookEvent_10
noncomputable def c_towpathlaw01_Book_lookEvent_14 : Code := Code.l c_towpathlaw01_Book_lookEvent_13
noncomputable def c_towpathlaw01_Book_lookEvent_15 : Code := Code.r c_towpathlaw01_Book_lookEvent_13
noncomputable def c_towpathlaw01_Book_lookEvent_16 : Code := Code.r c_towpathlaw01_Book_lookEvent_9
noncomputable def c_towpathlaw01_Book_lookEvent_17 : Code := Code.l c_towpathlaw01_Book_lookEvent_16
noncomputable def c_towpathlaw01_Book_lookEvent_18 : Code := Code.l c_towpathlaw01_Book_lookEvent_17
noncomputable def c_towpathlaw01_Book_lookEvent_19 : Code := Code.l c_towpathlaw01_Book_lookEvent_18
noncomputable def r_towpathlaw01_Book_lookEvent_19 : Array Oper := Code.ops c_towpathlaw01_Book_lookEvent_19
noncomputable def c_towpathlaw01_Book_lookEvent_21 : Code := Code.r c_towpathlaw01_Book_lookEvent_18
noncomputable def c_towpathlaw01_Book_lookEvent_22 : Code := Code.l c_towpathlaw01_Book_lookEvent_21
noncomputable def c_towpathlaw01_Book_lookEvent_23 : Code := Code.l c_towpathlaw01_Book_lookEvent_22
noncomputable def r_towpathlaw01_Book_lookEvent_23 : Array Oper := Code.ops c_towpathlaw01_Book_lookEvent_23
noncomputable def c_towpathlaw01_Book_lookEvent_25 : Code := Code.r c_towpathlaw01_Book_lookEvent_22
noncomputable def c_towpathlaw01_Book_lookEvent_26 : Code := Code.l c_towpathlaw01_Book_lookEvent_25
noncomputable def c_towpathlaw01_Book_lookEvent_27 : Code := Code.l c_towpathlaw01_Book_lookEvent_26
noncomputable def r_towpathlaw01_Book_lookEvent_27 : Array Oper := Code.ops c_towpathlaw01_Book_lookEvent_27
noncomputable def c_towpathlaw01_Book_lookEvent_29 : Code := Code.r c_towpathlaw01_Book_lookEvent_26
noncomputable def c_towpathlaw01_Book_lookEvent_30 : Code := Code.r c_towpathlaw01_Book_lookEvent_25
noncomputable def c_towpathlaw01_Book_lookEvent_31 : Code := Code.r c_towpathlaw01_Book_lookEvent_21
noncomputable def c_towpathlaw01_Book_lookEvent_32 : Code := Code.l c_towpathlaw01_Book_lookEvent_31
noncomputable def r_towpathlaw01_Book_lookEvent_32 : Array Oper := Code.ops c_towpathlaw01_Book_lookEvent_32
noncomputable def c_towpathlaw01_Book_lookEvent_34 : Code := Code.r c_towpathlaw01_Book_lookEvent_31
noncomputable def c_towpathlaw01_Book_lookEvent_35 : Code := Code.l c_towpathlaw01_Book_lookEvent_34
noncomputable def c_towpathlaw01_Book_lookEvent_36 : Code := Code.l c_towpathlaw01_Book_lookEvent_35
noncomputable def c_towpathlaw01_Book_lookEvent_37 : Code := Code.l c_towpathlaw01_Book_lookEvent_36
noncomputable def c_towpathlaw01_Book_lookEvent_38 : Code := Code.l c_towpathlaw01_Book_lookEvent_37
noncomputable def r_towpathlaw01_Book_lookEvent_38 : Array Oper := Code.ops c_towpathlaw01_Book_lookEvent_38
noncomputable def c_towpathlaw01_Book_lookEvent_40 : Code := Code.r c_towpathlaw01_Book_lookEvent_37
noncomputable def c_towpathlaw01_Book_lookEvent_41 : Code := Code.l c_towpathlaw01_Book_lookEvent_40
noncomputable def c_towpathlaw01_Book_lookEvent_42 : Code := Code.r c_towpathlaw01_Book_lookEvent_40
noncomputable def c_towpathlaw01_Book_lookEvent_43 : Code := Code.r c_towpathlaw01_Book_lookEvent_36
noncomputable def c_towpathlaw01_Book_lookEvent_44 : Code := Code.l c_towpathlaw01_Book_lookEvent_43
noncomputable def c_towpathlaw01_Book_lookEvent_45 : Code := Code.l c_towpathlaw01_Book_lookEvent_44
noncomputable def c_towpathlaw01_Book_lookEvent_46 : Code := Code.l c_towpathlaw01_Book_lookEvent_45
noncomputable def r_towpathlaw01_Book_lookEvent_46 : Array Oper := Code.ops c_towpathlaw01_Book_lookEvent_46
noncomputable def c_towpathlaw01_Book_lookEvent_48 : Code := Code.r c_towpathlaw01_Book_lookEvent_45
noncomputable def c_towpathlaw01_Book_lookEvent_49 : Code := Code.l c_towpathlaw01_Book_lookEvent_48
noncomputable def c_towpathlaw01_Book_lookEvent_50 : Code := Code.l c_towpathlaw01_Book_lookEvent_49
noncomputable def r_towpathlaw01_Book_lookEvent_50 : Array Oper := Code.ops c_towpathlaw01_Book_lookEvent_50
noncomputable def c_towpathlaw01_Book_lookEvent_52 : Code := Code.r c_towpathlaw01_Book_lookEvent_49
noncomputable def c_towpathlaw01_Book_lookEvent_53 : Code := Code.r c_towpathlaw01_Book_lookEvent_48
noncomputable def c_towpathlaw01_Book_lookEvent_54 : Code := Code.r c_towpathlaw01_Book_lookEvent_43
noncomputable def r_towpathlaw01_Book_lookEvent_54 : Array Oper := Code.ops c_towpathlaw01_Book_lookEvent_54
noncomputable def c_towpathlaw01_Book_lookEvent_56 : Code := Code.r c_towpathlaw01_Book_lookEvent_16
noncomputable def r_towpathlaw01_Book_lookEvent_56 : Array Oper := Code.ops c_towpathlaw01_Book_lookEvent_56
noncomputable def c_towpathlaw01_Book_lookEvent_58 : Code := Code.r c_towpathlaw01_Book_lookEvent_3
noncomputable def c_towpathlaw01_Book_lookEvent_59 : Code := Code.l c_towpathlaw01_Book_lookEvent_58
noncomputable def r_towpathlaw01_Book_lookEvent_59 : Array Oper := Code.ops c_towpathlaw01_Book_lookEvent_59
noncomputable def c_towpathlaw01_Book_lookEvent_61 : Code := Code.r c_towpathlaw01_Book_lookEvent_58

set_option maxRecDepth 100000 in
set_option maxHeartbeats 4000000 in
theorem S_towpathlaw01_Book_lookEvent {b_ : Option Addr} {w : World} {R : Bool → World → Prop} (h : F_towpathlaw01_Book_lookEvent b_ R w) : C_towpathlaw01_Book_lookEvent b_ w R := by
  unfold F_towpathlaw01_Book_lookEvent at h
  unfold C_towpathlaw01_Book_lookEvent
  refine Calls.mono (calls_of_wpE (args := [Value.pointer b_]) (R := fun v w' => ∃ (r0 : Bool), v = Value.bool r0 ∧ R r0 w') Tryd.func61 (c := c_towpathlaw01_Book_lookEvent_0) (by kernel_rfl) 64 (by kernel_rfl) (by kernel_rfl) [(0, Value.pointer b_)] (by kernel_rfl) ?_) ?_
  · refine wpE_seq (x := c_towpathlaw01_Book_lookEvent_1) (y := c_towpathlaw01_Book_lookEvent_3) (by kernel_rfl) ?_
    refine wpE_region (id := 0) (ops := r_towpathlaw01_Book_lookEvent_1) (by kernel_rfl) ?_
    refine reg_run [.plain] 1 [(0, [], Value.pointer b_)] (by kernel_rfl) (by kernel_rfl) ?_
    refine reg_end [(0, Value.pointer b_)] (by kernel_rfl) (by kernel_rfl) ?_
    change WpE _ _ c_towpathlaw01_Book_lookEvent_3 _ _ _
    refine wpE_seq (x := c_towpathlaw01_Book_lookEvent_4) (y := c_towpathlaw01_Book_lookEvent_58) (by kernel_rfl) ?_
    refine wpE_seq (x := c_towpathlaw01_Book_lookEvent_5) (y := c_towpathlaw01_Book_lookEvent_7) (by kernel_rfl) ?_
    refine wpE_region (id := 1) (ops := r_towpathlaw01_Book_lookEvent_5) (by kernel_rfl) ?_
    refine reg_run [.plain] 1 [(0, [], Value.pointer b_), (3, [], Value.int .i64 0)] (by kernel_rfl) (by kernel_rfl) ?_
    refine reg_end [(0, Value.pointer b_), (3, Value.int .i64 0)] (by kernel_rfl) (by kernel_rfl) ?_
    change WpE _ _ c_towpathlaw01_Book_lookEvent_7 _ _ _
    refine wpE_block (id := 0) (x := c_towpathlaw01_Book_lookEvent_8) (by kernel_rfl) ?_
    obtain ⟨I, μ, h0, hr⟩ := h
    refine wpE_loop (x := c_towpathlaw01_Book_lookEvent_9) (by kernel_rfl) (fun m l w => ∃ (i : Int), l = [(0, Value.pointer b_), (3, Value.int .i64 i)] ∧ I i w ∧ μ i w = m) (l' := [(0, Value.pointer b_), (3, Value.int .i64 0)]) (Sub.mk (by kernel_rfl)) ⟨0, rfl, h0, rfl⟩ ?_
    rintro _ _ w1 ⟨i, rfl, hI, rfl⟩
    obtain ⟨again_, again__h, h⟩ : ∃ again_ : Int → World → Prop, (∀ i' w', again_ i' w' → I i' w' ∧ μ i' w' < μ i w1) ∧ F_towpathlaw01_Book_lookEvent_L0 b_ R again_ i w1 := ⟨_, fun _ _ h => h, hr i w1 hI⟩
    clear h0 hI
    unfold F_towpathlaw01_Book_lookEvent_L0 at h
    refine wpE_seq (x := c_towpathlaw01_Book_lookEvent_10) (y := c_towpathlaw01_Book_lookEvent_16) (by kernel_rfl) ?_
    refine wpE_seq (x := c_towpathlaw01_Book_lookEvent_11) (y := c_towpathlaw01_Book_lookEvent_13) (by kernel_rfl) ?_
    refine wpE_region (id := 2) (ops := r_towpathlaw01_Book_lookEvent_11) (by kernel_rfl) ?_
    refine reg_run [.plain, .plain] 2 [(0, [], Value.pointer b_), (3, [], Value.int .i64 i), (6, [], Value.int .i64 i), (7, [], Value.pointer b_)] (by kernel_rfl) (by kernel_rfl) ?_
    obtain ⟨hp_7, h⟩ := h
    refine reg_conv [(0, [], Value.pointer b_), (3, [], Value.int .i64 i), (6, [], Value.int .i64 i), (7, [], Value.pointer (some ⟨(pblk b_), (poff b_), none⟩))] (congrArg (fun pp => ([(0, [], Value.pointer b_), (3, [], Value.int .i64 i), (6, [], Value.int .i64 i), (7, [], Value.pointer pp)] : GEnv)) hp_7) ?_
    refine reg_run [.plain] 3 [(0, [], Value.pointer b_), (3, [], Value.int .i64 i), (6, [], Value.int .i64 i), (7, [], Value.pointer (some ⟨(pblk b_), (poff b_), none⟩)), (8, [], Value.pointer (some ⟨(pblk b_), (poff b_), none⟩))] (by kernel_rfl) (by kernel_rfl) ?_
    refine reg_run [.plain] 4 [(0, [], Value.pointer b_), (3, [], Value.int .i64 i), (6, [], Value.int .i64 i), (9, [], Value.pointer (some ⟨(pblk b_), (poff b_) + 10, none⟩))] (by kernel_rfl) (by kernel_rfl) ?_
    obtain ⟨v10, hc, h⟩ := h
    refine reg_load1 (t := 43) (a := (Go.Operand.tmp 9)) (b := (pblk b_)) (o := ((poff b_) + 10)) (ty := 43) (dst := some 10) (by kernel_rfl) (by kernel_rfl) (by kernel_rfl) hc ?_
    refine reg_run [.plain, .plain] 7 [(0, [], Value.pointer b_), (3, [], Value.int .i64 i), (12, [], Value.bool (decide (i < ((v10.len : Nat) : Int))))] (by kernel_rfl) (by kernel_rfl) ?_
    refine reg_end [(0, Value.pointer b_), (3, Value.int .i64 i), (12, Value.bool (decide (i < ((v10.len : Nat) : Int))))] (by kernel_rfl) (by kernel_rfl) ?_
    change WpE _ _ c_towpathlaw01_Book_lookEvent_13 _ _ _
    refine wpE_cond (o := (Operand.tmp 12)) (b := (decide (i < ((v10.len : Nat) : Int)))) (x := c_towpathlaw01_Book_lookEvent_14) (y := c_towpathlaw01_Book_lookEvent_15) (by kernel_rfl) (by kernel_rfl) (fun hb => ?_) (fun hb => ?_)
    · replace h := h.1 hb
      exact h.elim
    · replace h := h.2 hb
      refine wpE_exit (id := 0) (by kernel_rfl) ?_
      change WpE _ _ c_towpathlaw01_Book_lookEvent_58 _ _ _
      refine wpE_seq (x := c_towpathlaw01_Book_lookEvent_59) (y := c_towpathlaw01_Book_lookEvent_61) (by kernel_rfl) ?_
      refine wpE_region (id := 12) (ops := r_towpathlaw01_Book_lookEvent_59) (by kernel_rfl) ?_
      refine reg_run [.plain] 1 [(2, [], Value.bool true)] (by kernel_rfl) (by kernel_rfl) ?_
      refine reg_end [(2, Value.bool true)] (by kernel_rfl) (by kernel_rfl) ?_
      change WpE _ _ c_towpathlaw01_Book_lookEvent_61 _ _ _
      refine wpE_ret (by kernel_rfl) ?_
      repeat (first | refine seqQ_ret ?_ | refine blockQ_ret ?_ | refine loopQ_ret ?_ | refine cutQ_ret ?_)
      exact retS (rs := [(Go.ResultVar.tmp 2)]) (v := Value.bool true) (by kernel_rfl) (⟨by kernel_rfl, trivial⟩) ⟨true, rfl, h⟩
  · rintro e w' ⟨v, rfl, r0, rfl, h⟩; exact ⟨r0, rfl, h⟩

/-! ### (*towpath/towpathlaw01.Book).lookAnswer (function 62) -/
noncomputable def c_towpathlaw01_Book_lookAnswer_0 : Code := (Tryd.f62.body).getD Code.skip
noncomputable def c_towpathlaw01_Book_lookAnswer_1 : Code := Code.l c_towpathlaw01_Book_lookAnswer_0
noncomputable def r_towpathlaw01_Book_lookAnswer_1 : Array Oper := Code.ops c_towpathlaw01_Book_lookAnswer_1
noncomputable def c_towpathlaw01_Book_lookAnswer_3 : Code := Code.r c_towpathlaw01_Book_lookAnswer_0
noncomputable def c_towpathlaw01_Book_lookAnswer_4 : Code := Code.l c_towpathlaw01_Book_lookAnswer_3
noncomputable def c_towpathlaw01_Book_lookAnswer_5 : Code := Code.l c_towpathlaw01_Book_lookAnswer_4
noncomputable def r_towpathlaw01_Book_lookAnswer_5 : Array Oper := Code.ops c_towpathlaw01_Book_lookAnswer_5
noncomputable def c_towpathlaw01_Book_lookAnswer_7 : Code := Code.r c_towpathlaw01_Book_lookAnswer_4
noncomputable def c_towpathlaw01_Book_lookAnswer_8 : Code := Code.l c_towpathlaw01_Book_lookAnswer_7
noncomputable def c_towpathlaw01_Book_lookAnswer_9 : Code := Code.l c_towpathlaw01_Book_lookAnswer_8
noncomputable def c_towpathlaw01_Book_lookAnswer_10 : Code := Code.l c_towpathlaw01_Book_lookAnswer_9
noncomputable def c_towpathlaw01_Book_lookAnswer_11 : Code := Code.l c_towpathlaw01_Book_lookAnswer_10
noncomputable def r_towpathlaw01_Book_lookAnswer_11 : Array Oper := Code.ops c_towpathlaw01_Book_lookAnswer_11
noncomputable def c_towpathlaw01_Book_lookAnswer_13 : Code := Code.r c_towpathlaw01_Book_lookAnswer_10
noncomputable def c_towpathlaw01_Book_lookAnswer_14 : Code := Code.l c_towpathlaw01_Book_lookAnswer_13
noncomputable def c_towpathlaw01_Book_lookAnswer_15 : Code := Code.r c_towpathlaw01_Book_lookAnswer_13
noncomputable def c_towpathlaw01_Book_lookAnswer_16 : Code := Code.r c_towpathlaw01_Book_lookAnswer_9
noncomputable def c_towpathlaw01_Book_lookAnswer_17 : Code := Code.l c_towpathlaw01_Book_lookAnswer_16
noncomputable def c_towpathlaw01_Book_lookAnswer_18 : Code := Code.l c_towpathlaw01_Book_lookAnswer_17
noncomputable def c_towpathlaw01_Book_lookAnswer_19 : Code := Code.l c_towpathlaw01_Book_lookAnswer_18
noncomputable def r_towpathlaw01_Book_lookAnswer_19 : Array Oper := Code.ops c_towpathlaw01_Book_lookAnswer_19
noncomputable def c_towpathlaw01_Book_lookAnswer_21 : Code := Code.r c_towpathlaw01_Book_lookAnswer_18
noncomputable def c_towpathlaw01_Book_lookAnswer_22 : Code := Code.l c_towpathlaw01_Book_lookAnswer_21
noncomputable def c_towpathlaw01_Book_lookAnswer_23 : Code := Code.l c_towpathlaw01_Book_lookAnswer_22
noncomputable def r_towpathlaw01_Book_lookAnswer_23 : Array Oper := Code.ops c_towpathlaw01_Book_lookAnswer_23
noncomputable def c_towpathlaw01_Book_lookAnswer_25 : Code := Code.r c_towpathlaw01_Book_lookAnswer_22
noncomputable def c_towpathlaw01_Book_lookAnswer_26 : Code := Code.l c_towpathlaw01_Book_lookAnswer_25
noncomputable def c_towpathlaw01_Book_lookAnswer_27 : Code := Code.l c_towpathlaw01_Book_lookAnswer_26
noncomputable def r_towpathlaw01_Book_lookAnswer_27 : Array Oper := Code.ops c_towpathlaw01_Book_lookAnswer_27
noncomputable def c_towpathlaw01_Book_lookAnswer_29 : Code := Code.r c_towpathlaw01_Book_lookAnswer_26
noncomputable def c_towpathlaw01_Book_lookAnswer_30 : Code := Code.r c_towpathlaw01_Book_lookAnswer_25
noncomputable def c_towpathlaw01_Book_lookAnswer_31 : Code := Code.r c_towpathlaw01_Book_lookAnswer_21
noncomputable def c_towpathlaw01_Book_lookAnswer_32 : Code := Code.l c_towpathlaw01_Book_lookAnswer_31
noncomputable def r_towpathlaw01_Book_lookAnswer_32 : Array Oper := Code.ops c_towpathlaw01_Book_lookAnswer_32
noncomputable def c_towpathlaw01_Book_lookAnswer_34 : Code := Code.r c_towpathlaw01_Book_lookAnswer_31
noncomputable def c_towpathlaw01_Book_lookAnswer_35 : Code := Code.l c_towpathlaw01_Book_lookAnswer_34
noncomputable def c_towpathlaw01_Book_lookAnswer_36 : Code := Code.l c_towpathlaw01_Book_lookAnswer_35
noncomputable def c_towpathlaw01_Book_lookAnswer_37 : Code := Code.l c_towpathlaw01_Book_lookAnswer_36
noncomputable def c_towpathlaw01_Book_lookAnswer_38 : Code := Code.l c_towpathlaw01_Book_lookAnswer_37
noncomputable def r_towpathlaw01_Book_lookAnswer_38 : Array Oper := Code.ops c_towpathlaw01_Book_lookAnswer_38
noncomputable def c_towpathlaw01_Book_lookAnswer_40 : Code := Code.r c_towpathlaw01_Book_lookAnswer_37
noncomputable def c_towpathlaw01_Book_lookAnswer_41 : Code := Code.l c_towpathlaw01_Book_lookAnswer_40
noncomputable def c_towpathlaw01_Book_lookAnswer_42 : Code := Code.r c_towpathlaw01_Book_lookAnswer_40
noncomputable def c_towpathlaw01_Book_lookAnswer_43 : Code := Code.r c_towpathlaw01_Book_lookAnswer_36
noncomputable def c_towpathlaw01_Book_lookAnswer_44 : Code := Code.l c_towpathlaw01_Book_lookAnswer_43
noncomputable def c_towpathlaw01_Book_lookAnswer_45 : Code := Code.l c_towpathlaw01_Book_lookAnswer_44
noncomputable def c_towpathlaw01_Book_lookAnswer_46 : Code := Code.l c_towpathlaw01_Book_lookAnswer_45
noncomputable def r_towpathlaw01_Book_lookAnswer_46 : Array Oper := Code.ops c_towpathlaw01_Book_lookAnswer_46
noncomputable def c_towpathlaw01_Book_lookAnswer_48 : Code := Code.r c_towpathlaw01_Book_lookAnswer_45
noncomputable def c_towpathlaw01_Book_lookAnswer_49 : Code := Code.l c_towpathlaw01_Book_lookAnswer_48
noncomputable def c_towpathlaw01_Book_lookAnswer_50 : Code := Code.l c_towpathlaw01_Book_lookAnswer_49
noncomputable def r_towpathlaw01_Book_lookAnswer_50 : Array Oper := Code.ops c_towpathlaw01_Book_lookAnswer_50
noncomputable def c_towpathlaw01_Book_lookAnswer_52 : Code := Code.r c_towpathlaw01_Book_lookAnswer_49
noncomputable def c_towpathlaw01_Book_lookAnswer_53 : Code := Code.r c_towpathlaw01_Book_lookAnswer_48
noncomputable def c_towpathlaw01_Book_lookAnswer_54 : Code := Code.r c_towpathlaw01_Book_lookAnswer_43
noncomputable def r_towpathlaw01_Book_lookAnswer_54 : Array Oper := Code.ops c_towpathlaw01_Book_lookAnswer_54
noncomputable def c_towpathlaw01_Book_lookAnswer_56 : Code := Code.r c_towpathlaw01_Book_lookAnswer_16
noncomputable def r_towpathlaw01_Book_lookAnswer_56 : Array Oper := Code.ops c_towpathlaw01_Book_lookAnswer_56
noncomputable def c_towpathlaw01_Book_lookAnswer_58 : Code := Code.r c_towpathlaw01_Book_lookAnswer_3
noncomputable def c_towpathlaw01_Book_lookAnswer_59 : Code := Code.l c_towpathlaw01_Book_lookAnswer_58
noncomputable def r_towpathlaw01_Book_lookAnswer_59 : Array Oper := Code.ops c_towpathlaw01_Book_lookAnswer_59
noncomputable def c_towpathlaw01_Book_lookAnswer_61 : Code := Code.r c_towpathlaw01_Book_lookAnswer_58

set_option maxRecDepth 100000 in
set_option maxHeartbeats 4000000 in
theorem S_towpathlaw01_Book_lookAnswer {b_ : Option Addr} {w : World} {R : Bool → World → Prop} (h : F_towpathlaw01_Book_lookAnswer b_ R w) : C_towpathlaw01_Book_lookAnswer b_ w R := by
  unfold F_towpathlaw01_Book_lookAnswer at h
  unfold C_towpathlaw01_Book_lookAnswer
  refine Calls.mono (calls_of_wpE (args := [Value.pointer b_]) (R := fun v w' => ∃ (r0 : Bool), v = Value.bool r0 ∧ R r0 w') Tryd.func62 (c := c_towpathlaw01_Book_lookAnswer_0) (by kernel_rfl) 64 (by kernel_rfl) (by kernel_rfl) [(0, Value.pointer b_)] (by kernel_rfl) ?_) ?_
  · refine wpE_seq (x := c_towpathlaw01_Book_lookAnswer_1) (y := c_towpathlaw01_Book_lookAnswer_3) (by kernel_rfl) ?_
    refine wpE_region (id := 0) (ops := r_towpathlaw01_Book_lookAnswer_1) (by kernel_rfl) ?_
    refine reg_run [.plain] 1 [(0, [], Value.pointer b_)] (by kernel_rfl) (by kernel_rfl) ?_
    refine reg_end [(0, Value.pointer b_)] (by kernel_rfl) (by kernel_rfl) ?_
    change WpE _ _ c_towpathlaw01_Book_lookAnswer_3 _ _ _
    refine wpE_seq (x := c_towpathlaw01_Book_lookAnswer_4) (y := c_towpathlaw01_Book_lookAnswer_58) (by kernel_rfl) ?_
    refine wpE_seq (x := c_towpathlaw01_Book_lookAnswer_5) (y := c_towpathlaw01_Book_lookAnswer_7) (by kernel_rfl) ?_
    refine wpE_region (id := 1) (ops := r_towpathlaw01_Book_lookAnswer_5) (by kernel_rfl) ?_
    refine reg_run [.plain] 1 [(0, [], Value.pointer b_), (3, [], Value.int .i64 0)] (by kernel_rfl) (by kernel_rfl) ?_
    refine reg_end [(0, Value.pointer b_), (3, Value.int .i64 0)] (by kernel_rfl) (by kernel_rfl) ?_
    change WpE _ _ c_towpathlaw01_Book_lookAnswer_7 _ _ _
    refine wpE_block (id := 0) (x := c_towpathlaw01_Book_lookAnswer_8) (by kernel_rfl) ?_
    obtain ⟨I, μ, h0, hr⟩ := h
    refine wpE_loop (x := c_towpathlaw01_Book_lookAnswer_9) (by kernel_rfl) (fun m l w => ∃ (i : Int), l = [(0, Value.pointer b_), (3, Value.int .i64 i)] ∧ I i w ∧ μ i w = m) (l' := [(0, Value.pointer b_), (3, Value.int .i64 0)]) (Sub.mk (by kernel_rfl)) ⟨0, rfl, h0, rfl⟩ ?_
    rintro _ _ w1 ⟨i, rfl, hI, rfl⟩
    obtain ⟨again_, again__h, h⟩ : ∃ again_ : Int → World → Prop, (∀ i' w', again_ i' w' → I i' w' ∧ μ i' w' < μ i w1) ∧ F_towpathlaw01_Book_lookAnswer_L0 b_ R again_ i w1 := ⟨_, fun _ _ h => h, hr i w1 hI⟩
    clear h0 hI
    unfold F_towpathlaw01_Book_lookAnswer_L0 at h
    refine wpE_seq (x := c_towpathlaw01_Book_lookAnswer_10) (y := c_towpathlaw01_Book_lookAnswer_16) (by kernel_rfl) ?_
    refine wpE_seq (x := c_towpathlaw01_Book_lookAnswer_11) (y := c_towpathlaw01_Book_lookAnswer_13) (by kernel_rfl) ?_
    refine wpE_region (id := 2) (ops := r_towpathlaw01_Book_lookAnswer_11) (by kernel_rfl) ?_
    refine reg_run [.plain, .plain] 2 [(0, [], Value.pointer b_), (3, [], Value.int .i64 i), (6, [], Value.int .i64 i), (7, [], Value.pointer b_)] (by kernel_rfl) (by kernel_rfl) ?_
    obtain ⟨hp_7, h⟩ := h
    refine reg_conv [(0, [], Value.pointer b_), (3, [], Value.int .i64 i), (6, [], Value.int .i64 i), (7, [], Value.pointer (some ⟨(pblk b_), (poff b_), none⟩))] (congrArg (fun pp => ([(0, [], Value.pointer b_), (3, [], Value.int .i64 i), (6, [], Value.int .i64 i), (7, [], Value.pointer pp)] : GEnv)) hp_7) ?_
    refine reg_run [.plain] 3 [(0, [], Value.pointer b_), (3, [], Value.int .i64 i), (6, [], Value.int .i64 i), (7, [], Value.pointer (some ⟨(pblk b_), (poff b_), none⟩)), (8, [], Value.pointer (some ⟨(pblk b_), (poff b_), none⟩))] (by kernel_rfl) (by kernel_rfl) ?_
    refine reg_run [.plain] 4 [(0, [], Value.pointer b_), (3, [], Value.int .i64 i), (6, [], Value.int .i64 i), (9, [], Value.pointer (some ⟨(pblk b_), (poff b_) + 11, none⟩))] (by kernel_rfl) (by kernel_rfl) ?_
    obtain ⟨v10, hc, h⟩ := h
    refine reg_load1 (t := 44) (a := (Go.Operand.tmp 9)) (b := (pblk b_)) (o := ((poff b_) + 11)) (ty := 44) (dst := some 10) (by kernel_rfl) (by kernel_rfl) (by kernel_rfl) hc ?_
    refine reg_run [.plain, .plain] 7 [(0, [], Value.pointer b_), (3, [], Value.int .i64 i), (12, [], Value.bool (decide (i < ((v10.len : Nat) : Int))))] (by kernel_rfl) (by kernel_rfl) ?_
    refine reg_end [(0, Value.pointer b_), (3, Value.int .i64 i), (12, Value.bool (decide (i < ((v10.len : Nat) : Int))))] (by kernel_rfl) (by kernel_rfl) ?_
    change WpE _ _ c_towpathlaw01_Book_lookAnswer_13 _ _ _
    refine wpE_cond (o := (Operand.tmp 12)) (b := (decide (i < ((v10.len : Nat) : Int)))) (x := c_towpathlaw01_Book_lookAnswer_14) (y := c_towpathlaw01_Book_lookAnswer_15) (by kernel_rfl) (by kernel_rfl) (fun hb => ?_) (fun hb => ?_)
    · replace h := h.1 hb
      exact h.elim
    · replace h := h.2 hb
      refine wpE_exit (id := 0) (by kernel_rfl) ?_
      change WpE _ _ c_towpathlaw01_Book_lookAnswer_58 _ _ _
      refine wpE_seq (x := c_towpathlaw01_Book_lookAnswer_59) (y := c_towpathlaw01_Book_lookAnswer_61) (by kernel_rfl) ?_
      refine wpE_region (id := 12) (ops := r_towpathlaw01_Book_lookAnswer_59) (by kernel_rfl) ?_
      refine reg_run [.plain] 1 [(2, [], Value.bool true)] (by kernel_rfl) (by kernel_rfl) ?_
      refine reg_end [(2, Value.bool true)] (by kernel_rfl) (by kernel_rfl) ?_
      change WpE _ _ c_towpathlaw01_Book_lookAnswer_61 _ _ _
      refine wpE_ret (by kernel_rfl) ?_
      repeat (first | refine seqQ_ret ?_ | refine blockQ_ret ?_ | refine loopQ_ret ?_ | refine cutQ_ret ?_)
      exact retS (rs := [(Go.ResultVar.tmp 2)]) (v := Value.bool true) (by kernel_rfl) (⟨by kernel_rfl, trivial⟩) ⟨true, rfl, h⟩
  · rintro e w' ⟨v, rfl, r0, rfl, h⟩; exact ⟨r0, rfl, h⟩

/-! ### (*towpath/towpathlaw01.Book).keepInt (function 64) -/
noncomputable def c_towpathlaw01_Book_keepInt_0 : Code := (Tryd.f64.body).getD Code.skip
noncomputable def c_towpathlaw01_Book_keepInt_1 : Code := Code.l c_towpathlaw01_Book_keepInt_0
noncomputable def r_towpathlaw01_Book_keepInt_1 : Array Oper := Code.ops c_towpathlaw01_Book_keepInt_1
noncomputable def c_towpathlaw01_Book_keepInt_3 : Code := Code.r c_towpathlaw01_Book_keepInt_0
noncomputable def r_towpathlaw01_Book_keepInt_3 : Array Oper := Code.ops c_towpathlaw01_Book_keepInt_3
def o_towpathlaw01_Book_keepInt_3 : List Nat := [0, 1, 2, 3, 4, 5, 6, 7, 8, 9, 10, 11, 12, 13, 14, 15]

set_option maxRecDepth 100000 in
set_option maxHeartbeats 4000000 in
theorem S_towpathlaw01_Book_keepInt {b_ : Option Addr} {l_ : Slc} {w : World} {R : World → Prop} (h : F_towpathlaw01_Book_keepInt b_ l_ R w) : C_towpathlaw01_Book_keepInt b_ l_ w R := by
  unfold F_towpathlaw01_Book_keepInt at h
  unfold C_towpathlaw01_Book_keepInt
  refine Calls.mono (calls_of_wpE (args := [Value.pointer b_, Value.slice l_.ptr l_.len l_.cap]) (R := fun v w' => v = Value.tuple #[] ∧ R w') Tryd.func64 (c := c_towpathlaw01_Book_keepInt_0) (by kernel_rfl) 26 (by kernel_rfl) (by kernel_rfl) [(0, Value.pointer b_), (1, Value.slice l_.ptr l_.len l_.cap)] (by kernel_rfl) ?_) ?_
  · refine wpE_seq (x := c_towpathlaw01_Book_keepInt_1) (y := c_towpathlaw01_Book_keepInt_3) (by kernel_rfl) ?_
    refine wpE_region (id := 0) (ops := r_towpathlaw01_Book_keepInt_1) (by kernel_rfl) ?_
    refine reg_run [.plain] 1 [(0, [], Value.pointer b_), (1, [], Value.slice l_.ptr l_.len l_.cap), (4, [], Value.pointer b_)] (by kernel_rfl) (by kernel_rfl) ?_
    obtain ⟨hp_1, h⟩ := h
    refine reg_conv [(0, [], Value.pointer b_), (1, [], Value.slice l_.ptr l_.len l_.cap), (4, [], Value.pointer (some ⟨(pblk b_), (poff b_), none⟩))] (congrArg (fun pp => ([(0, [], Value.pointer b_), (1, [], Value.slice l_.ptr l_.len l_.cap), (4, [], Value.pointer pp)] : GEnv)) hp_1) ?_
    refine reg_run [.plain] 2 [(0, [], Value.pointer b_), (1, [], Value.slice l_.ptr l_.len l_.cap), (4, [], Value.pointer (some ⟨(pblk b_), (poff b_), none⟩)), (5, [], Value.pointer (some ⟨(pblk b_), (poff b_), none⟩))] (by kernel_rfl) (by kernel_rfl) ?_
    refine reg_run [.plain] 3 [(0, [], Value.pointer b_), (1, [], Value.slice l_.ptr l_.len l_.cap), (4, [], Value.pointer (some ⟨(pblk b_), (poff b_), none⟩)), (6, [], Value.pointer (some ⟨(pblk b_), (poff b_), none⟩))] (by kernel_rfl) (by kernel_rfl) ?_
    obtain ⟨v7, hc, h⟩ := h
    refine reg_load1 (t := 3) (a := (Go.Operand.tmp 6)) (b := (pblk b_)) (o := (poff b_)) (ty := 3) (dst := some 7) (by kernel_rfl) (by kernel_rfl) (by kernel_rfl) hc ?_
    refine reg_run [.plain, .plain, .plain] 7 [(0, [], Value.pointer b_), (1, [], Value.slice l_.ptr l_.len l_.cap), (8, [], Value.int .i64 (IntKind.i64.wrap (v7 + 1))), (10, [], Value.pointer (some ⟨(pblk b_), (poff b_), none⟩))] (by kernel_rfl) (by kernel_rfl) ?_
    obtain ⟨hc, h⟩ := h
    refine reg_store (t := 3) (a := (Go.Operand.tmp 10)) (x := (Go.Operand.tmp 8)) (b := (pblk b_)) (o := (poff b_)) (ty := 0) (dst := none) [Value.int .i64 (IntKind.i64.wrap (v7 + 1))] (by kernel_rfl) (by kernel_rfl) (by kernel_rfl) (k := 1) (by kernel_rfl) (by kernel_rfl) (by kernel_rfl) hc (fun w1 hw => ?_)
    replace h := h w1 hw
    clear hw
    refine reg_end [(0, Value.pointer b_), (1, Value.slice l_.ptr l_.len l_.cap)] (by kernel_rfl) (by kernel_rfl) ?_
    change WpE _ _ c_towpathlaw01_Book_keepInt_3 _ _ _
    refine wpE_mixregion (id := 1) (ops := r_towpathlaw01_Book_keepInt_3) o_towpathlaw01_Book_keepInt_3 (by kernel_rfl) (by kernel_rfl) (by kernel_rfl) (by kernel_rfl) (fun w2 hw => ?_)
    replace h := h w2 hw
    clear hw
    refine mreg_run [.plain, .plain] 2 [(0, [], Value.pointer b_), (1, [], Value.slice l_.ptr l_.len l_.cap), (11, [], Value.pointer b_), (12, [], Value.pointer b_)] (by kernel_rfl) (by kernel_rfl) ?_
    obtain ⟨hp_2, h⟩ := h
    refine mreg_conv [(0, [], Value.pointer b_), (1, [], Value.slice l_.ptr l_.len l_.cap), (11, [], Value.pointer b_), (12, [], Value.pointer (some ⟨(pblk b_), (poff b_), none⟩))] (congrArg (fun pp => ([(0, [], Value.pointer b_), (1, [], Value.slice l_.ptr l_.len l_.cap), (11, [], Value.pointer b_), (12, [], Value.pointer pp)] : GEnv)) hp_2) ?_
    refine mreg_run [.plain] 3 [(0, [], Value.pointer b_), (1, [], Value.slice l_.ptr l_.len l_.cap), (11, [], Value.pointer b_), (12, [], Value.pointer (some ⟨(pblk b_), (poff b_), none⟩)), (13, [], Value.pointer (some ⟨(pblk b_), (poff b_), none⟩))] (by kernel_rfl) (by kernel_rfl) ?_
    refine mreg_run [.plain] 4 [(0, [], Value.pointer b_), (1, [], Value.slice l_.ptr l_.len l_.cap), (11, [], Value.pointer b_), (14, [], Value.pointer (some ⟨(pblk b_), (poff b_) + 2, none⟩))] (by kernel_rfl) (by kernel_rfl) ?_
    obtain ⟨v15, hc, h⟩ := h
    refine mreg_load1 (i := 4) (by kernel_rfl) (t := 35) (a := (Go.Operand.tmp 14)) (b := (pblk b_)) (o := ((poff b_) + 2)) (ty := 35) (dst := some 15) (by kernel_rfl) (by kernel_rfl) (by kernel_rfl) hc ?_
    refine mreg_run [.plain, .plain] 7 [(11, [], Value.pointer b_), (15, [], Value.slice v15.ptr v15.len v15.cap), (16, [], Value.slice l_.ptr l_.len l_.cap), (17, [], Value.pointer b_)] (by kernel_rfl) (by kernel_rfl) ?_
    obtain ⟨hp_3, h⟩ := h
    refine mreg_conv [(11, [], Value.pointer b_), (15, [], Value.slice v15.ptr v15.len v15.cap), (16, [], Value.slice l_.ptr l_.len l_.cap), (17, [], Value.pointer (some ⟨(pblk b_), (poff b_), none⟩))] (congrArg (fun pp => ([(11, [], Value.pointer b_), (15, [], Value.slice v15.ptr v15.len v15.cap), (16, [], Value.slice l_.ptr l_.len l_.cap), (17, [], Value.pointer pp)] : GEnv)) hp_3) ?_
    refine mreg_run [.plain] 8 [(11, [], Value.pointer b_), (15, [], Value.slice v15.ptr v15.len v15.cap), (16, [], Value.slice l_.ptr l_.len l_.cap), (17, [], Value.pointer (some ⟨(pblk b_), (poff b_), none⟩)), (18, [], Value.pointer (some ⟨(pblk b_), (poff b_), none⟩))] (by kernel_rfl) (by kernel_rfl) ?_
    refine mreg_run [.plain] 9 [(11, [], Value.pointer b_), (15, [], Value.slice v15.ptr v15.len v15.cap), (16, [], Value.slice l_.ptr l_.len l_.cap), (19, [], Value.pointer (some ⟨(pblk b_), (poff b_), none⟩))] (by kernel_rfl) (by kernel_rfl) ?_
    obtain ⟨v20, hc, h⟩ := h
    refine mreg_load1 (i := 9) (by kernel_rfl) (t := 3) (a := (Go.Operand.tmp 19)) (b := (pblk b_)) (o := (poff b_)) (ty := 3) (dst := some 20) (by kernel_rfl) (by kernel_rfl) (by kernel_rfl) hc ?_
    refine mreg_run [.plain] 11 [(11, [], Value.pointer b_), (15, [], Value.slice v15.ptr v15.len v15.cap), (21, [], Value.agg #[Value.slice l_.ptr l_.len l_.cap, Value.slice none 0 0, Value.int .i64 v20])] (by kernel_rfl) (by kernel_rfl) ?_
    refine mreg_new (op := (Go.Op.buildSlice 35 1 #[(0, (Go.Operand.tmp 21))])) (ty := 35) (dst := some 22) 11 [10, 5, 9, 8, 7, 6] [(4, fun w' => w'.cell? ⟨(pblk b_), (poff b_) + 2, none⟩ = some (Value.slice v15.ptr v15.len v15.cap))] (fun bb => Value.slice (some ⟨bb, 0, none⟩) 1 1) (Obj.cells ([Value.slice l_.ptr l_.len l_.cap, Value.slice none 0 0, Value.int .i64 v20]).toArray ty_towpathlaw01_heldInt (0, 0)) (by kernel_rfl) (by kernel_rfl) (by kernel_rfl) (by kernel_rfl) (by kernel_rfl) (by kernel_rfl) (fun b_1 w3 hb hw => ?_)
    replace h := h b_1 w3 hb hw
    clear hb hw
    obtain ⟨hk0, h⟩ := h
    refine ⟨⟨hk0, trivial⟩, ?_⟩
    refine mreg_run [] 12 [(11, [], Value.pointer b_), (15, [], Value.slice v15.ptr v15.len v15.cap), (22, [], Value.slice (some ⟨b_1, 0, none⟩) 1 1)] (by kernel_rfl) (by kernel_rfl) ?_
    obtain ⟨src, hs, h⟩ := h
    refine mreg_append (t := 35) (tx := 35) (e := 79) (a := (Go.Operand.tmp 15)) (xo := (Go.Operand.tmp 22)) (s := v15) (x := (Slc.mk (some ⟨b_1, 0, none⟩) 1 1)) (sz := 3) (by_ := 56) (zs := [Value.slice none 0 0, Value.slice none 0 0, Value.int .i64 0]) (ty := 35) (dst := some 23) 12 [4, 11, 3, 10, 2, 5, 9, 1, 8, 7, 6] [] src (by kernel_rfl) (by kernel_rfl) (by kernel_rfl) (by kernel_rfl) (by kernel_rfl) (by kernel_rfl) (by kernel_rfl) (by kernel_rfl) (by kernel_rfl) (by kernel_rfl) (by kernel_rfl) (by kernel_rfl) (by kernel_rfl) hs (AppendW.mono h (fun v23 w4 h => ?_))
    refine ⟨trivial, ?_⟩
    refine mreg_run [] 13 [(11, [], Value.pointer b_), (23, [], Value.slice v23.ptr v23.len v23.cap)] (by kernel_rfl) (by kernel_rfl) ?_
    obtain ⟨hp_4, h⟩ := h
    refine mreg_conv [(11, [], Value.pointer (some ⟨(pblk b_), (poff b_), none⟩)), (23, [], Value.slice v23.ptr v23.len v23.cap)] (congrArg (fun pp => ([(11, [], Value.pointer pp), (23, [], Value.slice v23.ptr v23.len v23.cap)] : GEnv)) hp_4) ?_
    refine mreg_run [.plain] 14 [(11, [], Value.pointer (some ⟨(pblk b_), (poff b_), none⟩)), (23, [], Value.slice v23.ptr v23.len v23.cap), (24, [], Value.pointer (some ⟨(pblk b_), (poff b_), none⟩))] (by kernel_rfl) (by kernel_rfl) ?_
    refine mreg_run [.plain] 15 [(23, [], Value.slice v23.ptr v23.len v23.cap), (25, [], Value.pointer (some ⟨(pblk b_), (poff b_) + 2, none⟩))] (by kernel_rfl) (by kernel_rfl) ?_
    obtain ⟨hc, h⟩ := h
    refine mreg_store (t := 35) (a := (Go.Operand.tmp 25)) (x := (Go.Operand.tmp 23)) (b := (pblk b_)) (o := ((poff b_) + 2)) (k := 1) (ty := 0) (dst := none) 15 [0, 1, 2, 3, 4, 5, 6, 7, 8, 9, 10, 11, 12, 14, 13] [] [Value.slice v23.ptr v23.len v23.cap] (by kernel_rfl) (by kernel_rfl) (by kernel_rfl) (by kernel_rfl) (by kernel_rfl) (by kernel_rfl) (by kernel_rfl) (by kernel_rfl) (by kernel_rfl) (by kernel_rfl) hc (fun w5 hw => ?_)
    replace h := h w5 hw
    clear hw
    refine ⟨trivial, ?_⟩
    refine mreg_end [] (by kernel_rfl) (by kernel_rfl) (by kernel_rfl) ?_
    repeat (first | refine seqQ_exit ?_ | refine loopQ_exit ?_ | refine cutQ_exit ?_ | refine blockQ_hit ?_ | refine blockQ_miss (by kernel_rfl) ?_)
    refine retQ_normal ?_
    repeat (first | refine seqQ_ret ?_ | refine blockQ_ret ?_ | refine loopQ_ret ?_ | refine cutQ_ret ?_)
    exact retT (rs := []) (vs := []) (by kernel_rfl) (trivial) (by kernel_rfl) ⟨rfl, h⟩
  · rintro e w' ⟨v, rfl, rfl, h⟩; exact ⟨rfl, h⟩

/-! ### towpath/towpathlaw01.markInt (function 70) -/
noncomputable def c_towpathlaw01_markInt_0 : Code := (Tryd.f70.body).getD Code.skip
noncomputable def c_towpathlaw01_markInt_1 : Code := Code.l c_towpathlaw01_markInt_0
noncomputable def r_towpathlaw01_markInt_1 : Array Oper := Code.ops c_towpathlaw01_markInt_1
noncomputable def c_towpathlaw01_markInt_3 : Code := Code.r c_towpathlaw01_markInt_0
noncomputable def c_towpathlaw01_markInt_4 : Code := Code.l c_towpathlaw01_markInt_3
noncomputable def r_towpathlaw01_markInt_4 : Array Oper := Code.ops c_towpathlaw01_markInt_4
noncomputable def c_towpathlaw01_markInt_6 : Code := Code.r c_towpathlaw01_markInt_3

set_option maxRecDepth 100000 in
set_option maxHeartbeats 4000000 in
theorem S_towpathlaw01_markInt {n_ : Int} {w : World} {R : Int → World → Prop} (h : F_towpathlaw01_markInt n_ R w) : C_towpathlaw01_markInt n_ w R := by
  unfold F_towpathlaw01_markInt at h
  unfold C_towpathlaw01_markInt
  refine Calls.mono (calls_of_wpE (args := [Value.int .i64 n_]) (R := fun v w' => ∃ (r0 : Int), v = Value.int .i64 r0 ∧ R r0 w') Tryd.func70 (c := c_towpathlaw01_markInt_0) (by kernel_rfl) 5 (by kernel_rfl) (by kernel_rfl) [(0, Value.int .i64 n_)] (by kernel_rfl) ?_) ?_
  · refine wpE_seq (x := c_towpathlaw01_markInt_1) (y := c_towpathlaw01_markInt_3) (by kernel_rfl) ?_
    refine wpE_region (id := 0) (ops := r_towpathlaw01_markInt_1) (by kernel_rfl) ?_
    refine reg_run [.plain] 1 [(0, [], Value.int .i64 n_)] (by kernel_rfl) (by kernel_rfl) ?_
    refine reg_end [(0, Value.int .i64 n_)] (by kernel_rfl) (by kernel_rfl) ?_
    change WpE _ _ c_towpathlaw01_markInt_3 _ _ _
    refine wpE_seq (x := c_towpathlaw01_markInt_4) (y := c_towpathlaw01_markInt_6) (by kernel_rfl) ?_
    refine wpE_region (id := 1) (ops := r_towpathlaw01_markInt_4) (by kernel_rfl) ?_
    refine reg_run [.plain, .plain, .plain] 3 [(2, [], Value.int .i64 (IntKind.i64.wrap ((-1000) - n_)))] (by kernel_rfl) (by kernel_rfl) ?_
    refine reg_end [(2, Value.int .i64 (IntKind.i64.wrap ((-1000) - n_)))] (by kernel_rfl) (by kernel_rfl) ?_
    change WpE _ _ c_towpathlaw01_markInt_6 _ _ _
    refine wpE_ret (by kernel_rfl) ?_
    repeat (first | refine seqQ_ret ?_ | refine blockQ_ret ?_ | refine loopQ_ret ?_ | refine cutQ_ret ?_)
    exact retS (rs := [(Go.ResultVar.tmp 2)]) (v := Value.int .i64 (IntKind.i64.wrap ((-1000) - n_))) (by kernel_rfl) (⟨by kernel_rfl, trivial⟩) ⟨(IntKind.i64.wrap ((-1000) - n_)), rfl, h⟩
  · rintro e w' ⟨v, rfl, r0, rfl, h⟩; exact ⟨r0, rfl, h⟩

/-! ### towpath/towpathlaw01.markVersion (function 74) -/
noncomputable def c_towpathlaw01_markVersion_0 : Code := (Tryd.f74.body).getD Code.skip
noncomputable def c_towpathlaw01_markVersion_1 : Code := Code.l c_towpathlaw01_markVersion_0
noncomputable def r_towpathlaw01_markVersion_1 : Array Oper := Code.ops c_towpathlaw01_markVersion_1
noncomputable def c_towpathlaw01_markVersion_3 : Code := Code.r c_towpathlaw01_markVersion_0
noncomputable def c_towpathlaw01_markVersion_4 : Code := Code.l c_towpathlaw01_markVersion_3
noncomputable def r_towpathlaw01_markVersion_4 : Array Oper := Code.ops c_towpathlaw01_markVersion_4
noncomputable def c_towpathlaw01_markVersion_6 : Code := Code.r c_towpathlaw01_markVersion_3

set_option maxRecDepth 100000 in
set_option maxHeartbeats 4000000 in
theorem S_towpathlaw01_markVersion {n_ : Int} {w : World} {R : T_api_Version → World → Prop} (h : F_towpathlaw01_markVersion n_ R w) : C_towpathlaw01_markVersion n_ w R := by
  unfold F_towpathlaw01_markVersion at h
  unfold C_towpathlaw01_markVersion
  refine Calls.mono (calls_of_wpE (args := [Value.int .i64 n_]) (R := fun v w' => ∃ (r0 : T_api_Version), v = Value.agg #[Value.int .i64 r0.Number, Value.string r0.Val, Value.bool r0.Drop] ∧ R r0 w') Tryd.func74 (c := c_towpathlaw01_markVersion_0) (by kernel_rfl) 6 (by kernel_rfl) (by kernel_rfl) [(0, Value.int .i64 n_)] (by kernel_rfl) ?_) ?_
  · refine wpE_seq (x := c_towpathlaw01_markVersion_1) (y := c_towpathlaw01_markVersion_3) (by kernel_rfl) ?_
    refine wpE_region (id := 0) (ops := r_towpathlaw01_markVersion_1) (by kernel_rfl) ?_
    refine reg_run [] 0 [(0, [], Value.int .i64 n_)] (by kernel_rfl) (by kernel_rfl) ?_
    refine reg_new (op := (Go.Op.alloc 27)) (ty := 0) (dst := some 2) (fun bb => Value.pointer (some ⟨bb, 0, none⟩)) (Obj.cells ([Value.int .i64 0, Value.string ByteArray.empty, Value.bool false]).toArray ty_api_Version (0, 0)) (by kernel_rfl) (by kernel_rfl) (fun b_ w1 hb hw => ?_)
    replace h := h b_ w1 hb hw
    clear hb hw
    refine reg_end [(0, Value.int .i64 n_), (2, Value.pointer (some ⟨b_, 0, none⟩))] (by kernel_rfl) (by kernel_rfl) ?_
    change WpE _ _ c_towpathlaw01_markVersion_3 _ _ _
    refine wpE_seq (x := c_towpathlaw01_markVersion_4) (y := c_towpathlaw01_markVersion_6) (by kernel_rfl) ?_
    refine wpE_region (id := 1) (ops := r_towpathlaw01_markVersion_4) (by kernel_rfl) ?_
    refine reg_run [.plain, .plain, .plain] 3 [(2, [], Value.pointer (some ⟨b_, 0, none⟩)), (5, [], Value.agg #[Value.int .i64 (IntKind.i64.wrap ((-1000) - n_)), Value.string ByteArray.empty, Value.bool false])] (by kernel_rfl) (by kernel_rfl) ?_
    obtain ⟨hc, h⟩ := h
    refine reg_store (t := 27) (a := (Go.Operand.tmp 2)) (x := (Go.Operand.tmp 5)) (b := b_) (o := 0) (ty := 0) (dst := none) [Value.int .i64 (IntKind.i64.wrap ((-1000) - n_)), Value.string ByteArray.empty, Value.bool false] (by kernel_rfl) (by kernel_rfl) (by kernel_rfl) (k := 3) (by kernel_rfl) (by kernel_rfl) (by kernel_rfl) hc (fun w2 hw => ?_)
    replace h := h w2 hw
    clear hw
    refine reg_end [(2, Value.pointer (some ⟨b_, 0, none⟩))] (by kernel_rfl) (by kernel_rfl) ?_
    change WpE _ _ c_towpathlaw01_markVersion_6 _ _ _
    refine wpE_ret (by kernel_rfl) ?_
    obtain ⟨res, hc_res, h⟩ := h
    repeat (first | refine seqQ_ret ?_ | refine blockQ_ret ?_ | refine loopQ_ret ?_ | refine cutQ_ret ?_)
    exact retS (rs := [(Go.ResultVar.cell 2 27)]) (v := Value.agg #[Value.int .i64 res.Number, Value.string res.Val, Value.bool res.Drop]) (by kernel_rfl) (⟨b_, 0, [Value.int .i64 res.Number, Value.string res.Val, Value.bool res.Drop], by kernel_rfl, hc_res, (sizeP_of (k := 3) (by kernel_rfl) (by kernel_rfl)), .inl ⟨by kernel_rfl, rfl⟩, trivial⟩) ⟨res, rfl, h⟩
  · rintro e w' ⟨v, rfl, r0, rfl, h⟩; exact ⟨r0, rfl, h⟩

/-! ### towpath/towpathlaw01.isInt (function 81) -/
noncomputable def c_towpathlaw01_isInt_0 : Code := (Tryd.f81.body).getD Code.skip
noncomputable def c_towpathlaw01_isInt_1 : Code := Code.l c_towpathlaw01_isInt_0
noncomputable def r_towpathlaw01_isInt_1 : Array Oper := Code.ops c_towpathlaw01_isInt_1
noncomputable def c_towpathlaw01_isInt_3 : Code := Code.r c_towpathlaw01_isInt_0
noncomputable def c_towpathlaw01_isInt_4 : Code := Code.l c_towpathlaw01_isInt_3
noncomputable def r_towpathlaw01_isInt_4 : Array Oper := Code.ops c_towpathlaw01_isInt_4
noncomputable def c_towpathlaw01_isInt_6 : Code := Code.r c_towpathlaw01_isInt_3

set_option maxRecDepth 100000 in
set_option maxHeartbeats 4000000 in
theorem S_towpathlaw01_isInt {x : Int} {n_ : Int} {w : World} {R : Bool → World → Prop} (h : F_towpathlaw01_isInt x n_ R w) : C_towpathlaw01_isInt x n_ w R := by
  unfold F_towpathlaw01_isInt at h
  unfold C_towpathlaw01_isInt
  refine Calls.mono (calls_of_wpE (args := [Value.int .i64 x, Value.int .i64 n_]) (R := fun v w' => ∃ (r0 : Bool), v = Value.bool r0 ∧ R r0 w') Tryd.func81 (c := c_towpathlaw01_isInt_0) (by kernel_rfl) 9 (by kernel_rfl) (by kernel_rfl) [(0, Value.int .i64 x), (1, Value.int .i64 n_)] (by kernel_rfl) ?_) ?_
  · refine wpE_seq (x := c_towpathlaw01_isInt_1) (y := c_towpathlaw01_isInt_3) (by kernel_rfl) ?_
    refine wpE_region (id := 0) (ops := r_towpathlaw01_isInt_1) (by kernel_rfl) ?_
    refine reg_run [.plain] 1 [(0, [], Value.int .i64 x), (1, [], Value.int .i64 n_)] (by kernel_rfl) (by kernel_rfl) ?_
    refine reg_end [(0, Value.int .i64 x), (1, Value.int .i64 n_)] (by kernel_rfl) (by kernel_rfl) ?_
    change WpE _ _ c_towpathlaw01_isInt_3 _ _ _
    refine wpE_seq (x := c_towpathlaw01_isInt_4) (y := c_towpathlaw01_isInt_6) (by kernel_rfl) ?_
    refine wpE_region (id := 1) (ops := r_towpathlaw01_isInt_4) (by kernel_rfl) ?_
    refine reg_run [.plain, .plain, .plain, .plain, .plain] 5 [(4, [], Value.bool (x == (IntKind.i64.wrap ((-1000) - n_))))] (by kernel_rfl) (by kernel_rfl) ?_
    refine reg_end [(4, Value.bool (x == (IntKind.i64.wrap ((-1000) - n_))))] (by kernel_rfl) (by kernel_rfl) ?_
    change WpE _ _ c_towpathlaw01_isInt_6 _ _ _
    refine wpE_ret (by kernel_rfl) ?_
    repeat (first | refine seqQ_ret ?_ | refine blockQ_ret ?_ | refine loopQ_ret ?_ | refine cutQ_ret ?_)
    exact retS (rs := [(Go.ResultVar.tmp 4)]) (v := Value.bool (x == (IntKind.i64.wrap ((-1000) - n_)))) (by kernel_rfl) (⟨by kernel_rfl, trivial⟩) ⟨(x == (IntKind.i64.wrap ((-1000) - n_))), rfl, h⟩
  · rintro e w' ⟨v, rfl, r0, rfl, h⟩; exact ⟨r0, rfl, h⟩

/-! ### towpath/towpathlaw01.isVersion (function 85) -/
noncomputable def c_towpathlaw01_isVersion_0 : Code := (Tryd.f85.body).getD Code.skip
noncomputable def c_towpathlaw01_isVersion_1 : Code := Code.l c_towpathlaw01_isVersion_0
noncomputable def r_towpathlaw01_isVersion_1 : Array Oper := Code.ops c_towpathlaw01_isVersion_1
noncomputable def c_towpathlaw01_isVersion_3 : Code := Code.r c_towpathlaw01_isVersion_0
noncomputable def c_towpathlaw01_isVersion_4 : Code := Code.l c_towpathlaw01_isVersion_3
noncomputable def r_towpathlaw01_isVersion_4 : Array Oper := Code.ops c_towpathlaw01_isVersion_4
noncomputable def c_towpathlaw01_isVersion_6 : Code := Code.r c_towpathlaw01_isVersion_3

set_option maxRecDepth 100000 in
set_option maxHeartbeats 4000000 in
theorem S_towpathlaw01_isVersion {x : T_api_Version} {n_ : Int} {w : World} {R : Bool → World → Prop} (h : F_towpathlaw01_isVersion x n_ R w) : C_towpathlaw01_isVersion x n_ w R := by
  unfold F_towpathlaw01_isVersion at h
  unfold C_towpathlaw01_isVersion
  refine Calls.mono (calls_of_wpE (args := [Value.agg #[Value.int .i64 x.Number, Value.string x.Val, Value.bool x.Drop], Value.int .i64 n_]) (R := fun v w' => ∃ (r0 : Bool), v = Value.bool r0 ∧ R r0 w') Tryd.func85 (c := c_towpathlaw01_isVersion_0) (by kernel_rfl) 10 (by kernel_rfl) (by kernel_rfl) [(0, Value.agg #[Value.int .i64 x.Number, Value.string x.Val, Value.bool x.Drop]), (1, Value.int .i64 n_)] (by kernel_rfl) ?_) ?_
  · refine wpE_seq (x := c_towpathlaw01_isVersion_1) (y := c_towpathlaw01_isVersion_3) (by kernel_rfl) ?_
    refine wpE_region (id := 0) (ops := r_towpathlaw01_isVersion_1) (by kernel_rfl) ?_
    refine reg_run [] 0 [(0, [], Value.agg #[Value.int .i64 x.Number, Value.string x.Val, Value.bool x.Drop]), (1, [], Value.int .i64 n_)] (by kernel_rfl) (by kernel_rfl) ?_
    refine reg_new (op := (Go.Op.box 27 (Go.Operand.tmp 0))) (ty := 0) (dst := some 2) (fun bb => Value.pointer (some ⟨bb, 0, none⟩)) (Obj.cells ([Value.int .i64 x.Number, Value.string x.Val, Value.bool x.Drop]).toArray ty_api_Version (0, 0)) (by kernel_rfl) (by kernel_rfl) (fun b_ w1 hb hw => ?_)
    replace h := h b_ w1 hb hw
    clear hb hw
    refine reg_run [.plain] 2 [(1, [], Value.int .i64 n_), (2, [], Value.pointer (some ⟨b_, 0, none⟩))] (by kernel_rfl) (by kernel_rfl) ?_
    refine reg_end [(1, Value.int .i64 n_), (2, Value.pointer (some ⟨b_, 0, none⟩))] (by kernel_rfl) (by kernel_rfl) ?_
    change WpE _ _ c_towpathlaw01_isVersion_3 _ _ _
    refine wpE_seq (x := c_towpathlaw01_isVersion_4) (y := c_towpathlaw01_isVersion_6) (by kernel_rfl) ?_
    refine wpE_region (id := 1) (ops := r_towpathlaw01_isVersion_4) (by kernel_rfl) ?_
    refine reg_run [] 0 [(1, [], Value.int .i64 n_), (2, [], Value.pointer (some ⟨b_, 0, none⟩))] (by kernel_rfl) (by kernel_rfl) ?_
    obtain ⟨v5, hc, h⟩ := h
    refine reg_loadN (t := 27) (a := (Go.Operand.tmp 2)) (b := b_) (o := 0) (ty := 27) (dst := some 5) [Value.int .i64 v5.Number, Value.string v5.Val, Value.bool v5.Drop] (by kernel_rfl) (by kernel_rfl) (by kernel_rfl) (k := 3) (by kernel_rfl) (by kernel_rfl) hc ?_
    refine reg_run [.plain, .plain, .plain] 4 [(5, [], Value.agg #[Value.int .i64 v5.Number, Value.string v5.Val, Value.bool v5.Drop]), (8, [], Value.agg #[Value.int .i64 (IntKind.i64.wrap ((-1000) - n_)), Value.string ByteArray.empty, Value.bool false])] (by kernel_rfl) (by kernel_rfl) ?_
    refine reg_val (op := (Go.Op.binOp Go.BinOp.eql 27 (Go.Operand.tmp 5) (Go.Operand.tmp 8) 27)) (ty := 4) (dst := some 9) (Value.bool (((v5.Number == (IntKind.i64.wrap ((-1000) - n_))) && (v5.Val == ByteArray.empty)) && (v5.Drop == false))) (by kernel_rfl) (fun ww => run_struct_eql (xs := [Value.int .i64 v5.Number, Value.string v5.Val, Value.bool v5.Drop]) (ys := [Value.int .i64 (IntKind.i64.wrap ((-1000) - n_)), Value.string ByteArray.empty, Value.bool false]) (by kernel_rfl) (by kernel_rfl) (by kernel_rfl) (by kernel_rfl) (by kernel_rfl) ww) ?_
    refine reg_run [.plain] 6 [(4, [], Value.bool (((v5.Number == (IntKind.i64.wrap ((-1000) - n_))) && (v5.Val == ByteArray.empty)) && (v5.Drop == false)))] (by kernel_rfl) (by kernel_rfl) ?_
    refine reg_end [(4, Value.bool (((v5.Number == (IntKind.i64.wrap ((-1000) - n_))) && (v5.Val == ByteArray.empty)) && (v5.Drop == false)))] (by kernel_rfl) (by kernel_rfl) ?_
    change WpE _ _ c_towpathlaw01_isVersion_6 _ _ _
    refine wpE_ret (by kernel_rfl) ?_
    repeat (first | refine seqQ_ret ?_ | refine blockQ_ret ?_ | refine loopQ_ret ?_ | refine cutQ_ret ?_)
    exact retS (rs := [(Go.ResultVar.tmp 4)]) (v := Value.bool (((v5.Number == (IntKind.i64.wrap ((-1000) - n_))) && (v5.Val == ByteArray.empty)) && (v5.Drop == false))) (by kernel_rfl) (⟨by kernel_rfl, trivial⟩) ⟨(((v5.Number == (IntKind.i64.wrap ((-1000) - n_))) && (v5.Val == ByteArray.empty)) && (v5.Drop == false)), rfl, h⟩
  · rintro e w' ⟨v, rfl, r0, rfl, h⟩; exact ⟨r0, rfl, h⟩
end Go.Proofs.YtcgfmkpddhhmgaaDoor
