/- WRITTEN BY PROGRAM (dec.py): for each Go function the clean formula F, the call's contract C, and the proof S that F gives C. -/
import Derived.Test.YtckmganidgbpgaaGreatDoorRows
import Derived.Test.YtckmganidgbpgaaGreatDoorGF
namespace Go.Proofs.YtckmganidgbpgaaGreatDoor
open Go
set_option linter.unusedVariables false

/-! ### (*towpath/towpathlaw01.Book).fillWrite (function 36) -/
noncomputable def c_towpathlaw01_Book_fillWrite_0 : Code := (Tryz.f36.body).getD Code.skip
noncomputable def c_towpathlaw01_Book_fillWrite_1 : Code := Code.l c_towpathlaw01_Book_fillWrite_0
noncomputable def r_towpathlaw01_Book_fillWrite_1 : Array Oper := Code.ops c_towpathlaw01_Book_fillWrite_1
noncomputable def c_towpathlaw01_Book_fillWrite_3 : Code := Code.r c_towpathlaw01_Book_fillWrite_0
noncomputable def c_towpathlaw01_Book_fillWrite_4 : Code := Code.l c_towpathlaw01_Book_fillWrite_3
noncomputable def c_towpathlaw01_Book_fillWrite_5 : Code := Code.l c_towpathlaw01_Book_fillWrite_4
noncomputable def c_towpathlaw01_Book_fillWrite_6 : Code := Code.l c_towpathlaw01_Book_fillWrite_5
noncomputable def c_towpathlaw01_Book_fillWrite_7 : Code := Code.l c_towpathlaw01_Book_fillWrite_6
noncomputable def r_towpathlaw01_Book_fillWrite_7 : Array Oper := Code.ops c_towpathlaw01_Book_fillWrite_7
noncomputable def c_towpathlaw01_Book_fillWrite_9 : Code := Code.r c_towpathlaw01_Book_fillWrite_6
noncomputable def c_towpathlaw01_Book_fillWrite_10 : Code := Code.l c_towpathlaw01_Book_fillWrite_9
noncomputable def c_towpathlaw01_Book_fillWrite_11 : Code := Code.r c_towpathlaw01_Book_fillWrite_9
noncomputable def c_towpathlaw01_Book_fillWrite_12 : Code := Code.r c_towpathlaw01_Book_fillWrite_5
noncomputable def c_towpathlaw01_Book_fillWrite_13 : Code := Code.l c_towpathlaw01_Book_fillWrite_12
noncomputable def c_towpathlaw01_Book_fillWrite_14 : Code := Code.l c_towpathlaw01_Book_fillWrite_13
noncomputable def c_towpathlaw01_Book_fillWrite_15 : Code := Code.l c_towpathlaw01_Book_fillWrite_14
noncomputable def r_towpathlaw01_Book_fillWrite_15 : Array Oper := Code.ops c_towpathlaw01_Book_fillWrite_15
noncomputable def c_towpathlaw01_Book_fillWrite_17 : Code := Code.r c_towpathlaw01_Book_fillWrite_14
noncomputable def c_towpathlaw01_Book_fillWrite_18 : Code := Code.l c_towpathlaw01_Book_fillWrite_17
noncomputable def r_towpathlaw01_Book_fillWrite_18 : Array Oper := Code.ops c_towpathlaw01_Book_fillWrite_18
noncomputable def c_towpathlaw01_Book_fillWrite_20 : Code := Code.r c_towpathlaw01_Book_fillWrite_17
noncomputable def c_towpathlaw01_Book_fillWrite_21 : Code := Code.l c_towpathlaw01_Book_fillWrite_20
noncomputable def c_towpathlaw01_Book_fillWrite_22 : Code := Code.l c_towpathlaw01_Book_fillWrite_21
noncomputable def c_towpathlaw01_Book_fillWrite_23 : Code := Code.l c_towpathlaw01_Book_fillWrite_22
noncomputable def c_towpathlaw01_Book_fillWrite_24 : Code := Code.l c_towpathlaw01_Book_fillWrite_23
noncomputable def r_towpathlaw01_Book_fillWrite_24 : Array Oper := Code.ops c_towpathlaw01_Book_fillWrite_24
noncomputable def c_towpathlaw01_Book_fillWrite_26 : Code := Code.r c_towpathlaw01_Book_fillWrite_23
noncomputable def c_towpathlaw01_Book_fillWrite_27 : Code := Code.l c_towpathlaw01_Book_fillWrite_26
noncomputable def c_towpathlaw01_Book_fillWrite_28 : Code := Code.r c_towpathlaw01_Book_fillWrite_26
noncomputable def c_towpathlaw01_Book_fillWrite_29 : Code := Code.r c_towpathlaw01_Book_fillWrite_22
noncomputable def c_towpathlaw01_Book_fillWrite_30 : Code := Code.l c_towpathlaw01_Book_fillWrite_29
noncomputable def c_towpathlaw01_Book_fillWrite_31 : Code := Code.l c_towpathlaw01_Book_fillWrite_30
noncomputable def r_towpathlaw01_Book_fillWrite_31 : Array Oper := Code.ops c_towpathlaw01_Book_fillWrite_31
noncomputable def c_towpathlaw01_Book_fillWrite_33 : Code := Code.r c_towpathlaw01_Book_fillWrite_29
noncomputable def r_towpathlaw01_Book_fillWrite_33 : Array Oper := Code.ops c_towpathlaw01_Book_fillWrite_33
noncomputable def c_towpathlaw01_Book_fillWrite_35 : Code := Code.r c_towpathlaw01_Book_fillWrite_12
noncomputable def r_towpathlaw01_Book_fillWrite_35 : Array Oper := Code.ops c_towpathlaw01_Book_fillWrite_35

set_option maxRecDepth 100000 in
set_option maxHeartbeats 4000000 in
theorem S_towpathlaw01_Book_fillWrite {b_ : Option Addr} {w : World} {R : World → Prop} (h : F_towpathlaw01_Book_fillWrite b_ R w) : C_towpathlaw01_Book_fillWrite b_ w R := by
  unfold F_towpathlaw01_Book_fillWrite at h
  unfold C_towpathlaw01_Book_fillWrite
  refine Calls.mono (calls_of_wpE (args := [Value.pointer b_]) (R := fun v w' => v = Value.tuple #[] ∧ R w') Tryz.func36 (c := c_towpathlaw01_Book_fillWrite_0) (by kernel_rfl) 35 (by kernel_rfl) (by kernel_rfl) [(0, Value.pointer b_)] (by kernel_rfl) ?_) ?_
  · refine wpE_seq (x := c_towpathlaw01_Book_fillWrite_1) (y := c_towpathlaw01_Book_fillWrite_3) (by kernel_rfl) ?_
    refine wpE_region (id := 0) (ops := r_towpathlaw01_Book_fillWrite_1) (by kernel_rfl) ?_
    refine reg_run [.plain] 1 [(0, [], Value.pointer b_), (2, [], Value.int .i64 0)] (by kernel_rfl) (by kernel_rfl) ?_
    refine reg_end [(0, Value.pointer b_), (2, Value.int .i64 0)] (by kernel_rfl) (by kernel_rfl) ?_
    change WpE _ _ c_towpathlaw01_Book_fillWrite_3 _ _ _
    refine wpE_block (id := 0) (x := c_towpathlaw01_Book_fillWrite_4) (by kernel_rfl) ?_
    obtain ⟨I, μ, h0, hr⟩ := h
    refine wpE_loop (x := c_towpathlaw01_Book_fillWrite_5) (by kernel_rfl) (fun m l w => ∃ (i : Int), l = [(0, Value.pointer b_), (2, Value.int .i64 i)] ∧ I i w ∧ μ i w = m) (l' := [(0, Value.pointer b_), (2, Value.int .i64 0)]) (Sub.mk (by kernel_rfl)) ⟨0, rfl, h0, rfl⟩ ?_
    rintro _ _ w1 ⟨i, rfl, hI, rfl⟩
    obtain ⟨again_, again__h, h⟩ : ∃ again_ : Int → World → Prop, (∀ i' w', again_ i' w' → I i' w' ∧ μ i' w' < μ i w1) ∧ F_towpathlaw01_Book_fillWrite_L0 b_ R again_ i w1 := ⟨_, fun _ _ h => h, hr i w1 hI⟩
    clear h0 hI
    unfold F_towpathlaw01_Book_fillWrite_L0 at h
    refine wpE_seq (x := c_towpathlaw01_Book_fillWrite_6) (y := c_towpathlaw01_Book_fillWrite_12) (by kernel_rfl) ?_
    refine wpE_seq (x := c_towpathlaw01_Book_fillWrite_7) (y := c_towpathlaw01_Book_fillWrite_9) (by kernel_rfl) ?_
    refine wpE_region (id := 1) (ops := r_towpathlaw01_Book_fillWrite_7) (by kernel_rfl) ?_
    refine reg_run [.plain, .plain] 2 [(0, [], Value.pointer b_), (2, [], Value.int .i64 i), (5, [], Value.int .i64 i), (6, [], Value.pointer b_)] (by kernel_rfl) (by kernel_rfl) ?_
    obtain ⟨hp_3, h⟩ := h
    refine reg_conv [(0, [], Value.pointer b_), (2, [], Value.int .i64 i), (5, [], Value.int .i64 i), (6, [], Value.pointer (some ⟨(pblk b_), (poff b_), none⟩))] (congrArg (fun pp => ([(0, [], Value.pointer b_), (2, [], Value.int .i64 i), (5, [], Value.int .i64 i), (6, [], Value.pointer pp)] : GEnv)) hp_3) ?_
    refine reg_run [.plain] 3 [(0, [], Value.pointer b_), (2, [], Value.int .i64 i), (5, [], Value.int .i64 i), (6, [], Value.pointer (some ⟨(pblk b_), (poff b_), none⟩)), (7, [], Value.pointer (some ⟨(pblk b_), (poff b_), none⟩))] (by kernel_rfl) (by kernel_rfl) ?_
    refine reg_run [.plain] 4 [(0, [], Value.pointer b_), (2, [], Value.int .i64 i), (5, [], Value.int .i64 i), (8, [], Value.pointer (some ⟨(pblk b_), (poff b_) + 4, none⟩))] (by kernel_rfl) (by kernel_rfl) ?_
    obtain ⟨v9, hc, h⟩ := h
    refine reg_load1 (t := 34) (a := (Go.Operand.tmp 8)) (b := (pblk b_)) (o := ((poff b_) + 4)) (ty := 34) (dst := some 9) (by kernel_rfl) (by kernel_rfl) (by kernel_rfl) hc ?_
    refine reg_run [.plain, .plain] 7 [(0, [], Value.pointer b_), (2, [], Value.int .i64 i), (11, [], Value.bool (decide (i < ((v9.len : Nat) : Int))))] (by kernel_rfl) (by kernel_rfl) ?_
    refine reg_end [(0, Value.pointer b_), (2, Value.int .i64 i), (11, Value.bool (decide (i < ((v9.len : Nat) : Int))))] (by kernel_rfl) (by kernel_rfl) ?_
    change WpE _ _ c_towpathlaw01_Book_fillWrite_9 _ _ _
    refine wpE_cond (o := (Operand.tmp 11)) (b := (decide (i < ((v9.len : Nat) : Int)))) (x := c_towpathlaw01_Book_fillWrite_10) (y := c_towpathlaw01_Book_fillWrite_11) (by kernel_rfl) (by kernel_rfl) (fun hb => ?_) (fun hb => ?_)
    · replace h := h.1 hb
      exact h.elim
    · replace h := h.2 hb
      refine wpE_exit (id := 0) (by kernel_rfl) ?_
      repeat (first | refine seqQ_exit ?_ | refine loopQ_exit ?_ | refine cutQ_exit ?_ | refine blockQ_hit ?_ | refine blockQ_miss (by kernel_rfl) ?_)
      refine retQ_normal ?_
      repeat (first | refine seqQ_ret ?_ | refine blockQ_ret ?_ | refine loopQ_ret ?_ | refine cutQ_ret ?_)
      exact retT (rs := []) (vs := []) (by kernel_rfl) (trivial) (by kernel_rfl) ⟨rfl, h⟩
  · rintro e w' ⟨v, rfl, rfl, h⟩; exact ⟨rfl, h⟩

/-! ### (*towpath/towpathlaw01.Book).fillEntry (function 37) -/
noncomputable def c_towpathlaw01_Book_fillEntry_0 : Code := (Tryz.f37.body).getD Code.skip
noncomputable def c_towpathlaw01_Book_fillEntry_1 : Code := Code.l c_towpathlaw01_Book_fillEntry_0
noncomputable def r_towpathlaw01_Book_fillEntry_1 : Array Oper := Code.ops c_towpathlaw01_Book_fillEntry_1
noncomputable def c_towpathlaw01_Book_fillEntry_3 : Code := Code.r c_towpathlaw01_Book_fillEntry_0
noncomputable def c_towpathlaw01_Book_fillEntry_4 : Code := Code.l c_towpathlaw01_Book_fillEntry_3
noncomputable def c_towpathlaw01_Book_fillEntry_5 : Code := Code.l c_towpathlaw01_Book_fillEntry_4
noncomputable def c_towpathlaw01_Book_fillEntry_6 : Code := Code.l c_towpathlaw01_Book_fillEntry_5
noncomputable def c_towpathlaw01_Book_fillEntry_7 : Code := Code.l c_towpathlaw01_Book_fillEntry_6
noncomputable def r_towpathlaw01_Book_fillEntry_7 : Array Oper := Code.ops c_towpathlaw01_Book_fillEntry_7
noncomputable def c_towpathlaw01_Book_fillEntry_9 : Code := Code.r c_towpathlaw01_Book_fillEntry_6
noncomputable def c_towpathlaw01_Book_fillEntry_10 : Code := Code.l c_towpathlaw01_Book_fillEntry_9
noncomputable def c_towpathlaw01_Book_fillEntry_11 : Code := Code.r c_towpathlaw01_Book_fillEntry_9
noncomputable def c_towpathlaw01_Book_fillEntry_12 : Code := Code.r c_towpathlaw01_Book_fillEntry_5
noncomputable def c_towpathlaw01_Book_fillEntry_13 : Code := Code.l c_towpathlaw01_Book_fillEntry_12
noncomputable def c_towpathlaw01_Book_fillEntry_14 : Code := Code.l c_towpathlaw01_Book_fillEntry_13
noncomputable def c_towpathlaw01_Book_fillEntry_15 : Code := Code.l c_towpathlaw01_Book_fillEntry_14
noncomputable def r_towpathlaw01_Book_fillEntry_15 : Array Oper := Code.ops c_towpathlaw01_Book_fillEntry_15
noncomputable def c_towpathlaw01_Book_fillEntry_17 : Code := Code.r c_towpathlaw01_Book_fillEntry_14
noncomputable def c_towpathlaw01_Book_fillEntry_18 : Code := Code.l c_towpathlaw01_Book_fillEntry_17
noncomputable def r_towpathlaw01_Book_fillEntry_18 : Array Oper := Code.ops c_towpathlaw01_Book_fillEntry_18
noncomputable def c_towpathlaw01_Book_fillEntry_20 : Code := Code.r c_towpathlaw01_Book_fillEntry_17
noncomputable def c_towpathlaw01_Book_fillEntry_21 : Code := Code.l c_towpathlaw01_Book_fillEntry_20
noncomputable def c_towpathlaw01_Book_fillEntry_22 : Code := Code.l c_towpathlaw01_Book_fillEntry_21
noncomputable def c_towpathlaw01_Book_fillEntry_23 : Code := Code.l c_towpathlaw01_Book_fillEntry_22
noncomputable def c_towpathlaw01_Book_fillEntry_24 : Code := Code.l c_towpathlaw01_Book_fillEntry_23
noncomputable def r_towpathlaw01_Book_fillEntry_24 : Array Oper := Code.ops c_towpathlaw01_Book_fillEntry_24
noncomputable def c_towpathlaw01_Book_fillEntry_26 : Code := Code.r c_towpathlaw01_Book_fillEntry_23
noncomputable def c_towpathlaw01_Book_fillEntry_27 : Code := Code.l c_towpathlaw01_Book_fillEntry_26
noncomputable def c_towpathlaw01_Book_fillEntry_28 : Code := Code.r c_towpathlaw01_Book_fillEntry_26
noncomputable def c_towpathlaw01_Book_fillEntry_29 : Code := Code.r c_towpathlaw01_Book_fillEntry_22
noncomputable def c_towpathlaw01_Book_fillEntry_30 : Code := Code.l c_towpathlaw01_Book_fillEntry_29
noncomputable def c_towpathlaw01_Book_fillEntry_31 : Code := Code.l c_towpathlaw01_Book_fillEntry_30
noncomputable def r_towpathlaw01_Book_fillEntry_31 : Array Oper := Code.ops c_towpathlaw01_Book_fillEntry_31
noncomputable def c_towpathlaw01_Book_fillEntry_33 : Code := Code.r c_towpathlaw01_Book_fillEntry_29
noncomputable def r_towpathlaw01_Book_fillEntry_33 : Array Oper := Code.ops c_towpathlaw01_Book_fillEntry_33
noncomputable def c_towpathlaw01_Book_fillEntry_35 : Code := Code.r c_towpathlaw01_Book_fillEntry_12
noncomputable def r_towpathlaw01_Book_fillEntry_35 : Array Oper := Code.ops c_towpathlaw01_Book_fillEntry_35

set_option maxRecDepth 100000 in
set_option maxHeartbeats 4000000 in
theorem S_towpathlaw01_Book_fillEntry {b_ : Option Addr} {w : World} {R : World → Prop} (h : F_towpathlaw01_Book_fillEntry b_ R w) : C_towpathlaw01_Book_fillEntry b_ w R := by
  unfold F_towpathlaw01_Book_fillEntry at h
  unfold C_towpathlaw01_Book_fillEntry
  refine Calls.mono (calls_of_wpE (args := [Value.pointer b_]) (R := fun v w' => v = Value.tuple #[] ∧ R w') Tryz.func37 (c := c_towpathlaw01_Book_fillEntry_0) (by kernel_rfl) 35 (by kernel_rfl) (by kernel_rfl) [(0, Value.pointer b_)] (by kernel_rfl) ?_) ?_
  · refine wpE_seq (x := c_towpathlaw01_Book_fillEntry_1) (y := c_towpathlaw01_Book_fillEntry_3) (by kernel_rfl) ?_
    refine wpE_region (id := 0) (ops := r_towpathlaw01_Book_fillEntry_1) (by kernel_rfl) ?_
    refine reg_run [.plain] 1 [(0, [], Value.pointer b_), (2, [], Value.int .i64 0)] (by kernel_rfl) (by kernel_rfl) ?_
    refine reg_end [(0, Value.pointer b_), (2, Value.int .i64 0)] (by kernel_rfl) (by kernel_rfl) ?_
    change WpE _ _ c_towpathlaw01_Book_fillEntry_3 _ _ _
    refine wpE_block (id := 0) (x := c_towpathlaw01_Book_fillEntry_4) (by kernel_rfl) ?_
    obtain ⟨I, μ, h0, hr⟩ := h
    refine wpE_loop (x := c_towpathlaw01_Book_fillEntry_5) (by kernel_rfl) (fun m l w => ∃ (i : Int), l = [(0, Value.pointer b_), (2, Value.int .i64 i)] ∧ I i w ∧ μ i w = m) (l' := [(0, Value.pointer b_), (2, Value.int .i64 0)]) (Sub.mk (by kernel_rfl)) ⟨0, rfl, h0, rfl⟩ ?_
    rintro _ _ w1 ⟨i, rfl, hI, rfl⟩
    obtain ⟨again_, again__h, h⟩ : ∃ again_ : Int → World → Prop, (∀ i' w', again_ i' w' → I i' w' ∧ μ i' w' < μ i w1) ∧ F_towpathlaw01_Book_fillEntry_L0 b_ R again_ i w1 := ⟨_, fun _ _ h => h, hr i w1 hI⟩
    clear h0 hI
    unfold F_towpathlaw01_Book_fillEntry_L0 at h
    refine wpE_seq (x := c_towpathlaw01_Book_fillEntry_6) (y := c_towpathlaw01_Book_fillEntry_12) (by kernel_rfl) ?_
    refine wpE_seq (x := c_towpathlaw01_Book_fillEntry_7) (y := c_towpathlaw01_Book_fillEntry_9) (by kernel_rfl) ?_
    refine wpE_region (id := 1) (ops := r_towpathlaw01_Book_fillEntry_7) (by kernel_rfl) ?_
    refine reg_run [.plain, .plain] 2 [(0, [], Value.pointer b_), (2, [], Value.int .i64 i), (5, [], Value.int .i64 i), (6, [], Value.pointer b_)] (by kernel_rfl) (by kernel_rfl) ?_
    obtain ⟨hp_3, h⟩ := h
    refine reg_conv [(0, [], Value.pointer b_), (2, [], Value.int .i64 i), (5, [], Value.int .i64 i), (6, [], Value.pointer (some ⟨(pblk b_), (poff b_), none⟩))] (congrArg (fun pp => ([(0, [], Value.pointer b_), (2, [], Value.int .i64 i), (5, [], Value.int .i64 i), (6, [], Value.pointer pp)] : GEnv)) hp_3) ?_
    refine reg_run [.plain] 3 [(0, [], Value.pointer b_), (2, [], Value.int .i64 i), (5, [], Value.int .i64 i), (6, [], Value.pointer (some ⟨(pblk b_), (poff b_), none⟩)), (7, [], Value.pointer (some ⟨(pblk b_), (poff b_), none⟩))] (by kernel_rfl) (by kernel_rfl) ?_
    refine reg_run [.plain] 4 [(0, [], Value.pointer b_), (2, [], Value.int .i64 i), (5, [], Value.int .i64 i), (8, [], Value.pointer (some ⟨(pblk b_), (poff b_) + 5, none⟩))] (by kernel_rfl) (by kernel_rfl) ?_
    obtain ⟨v9, hc, h⟩ := h
    refine reg_load1 (t := 35) (a := (Go.Operand.tmp 8)) (b := (pblk b_)) (o := ((poff b_) + 5)) (ty := 35) (dst := some 9) (by kernel_rfl) (by kernel_rfl) (by kernel_rfl) hc ?_
    refine reg_run [.plain, .plain] 7 [(0, [], Value.pointer b_), (2, [], Value.int .i64 i), (11, [], Value.bool (decide (i < ((v9.len : Nat) : Int))))] (by kernel_rfl) (by kernel_rfl) ?_
    refine reg_end [(0, Value.pointer b_), (2, Value.int .i64 i), (11, Value.bool (decide (i < ((v9.len : Nat) : Int))))] (by kernel_rfl) (by kernel_rfl) ?_
    change WpE _ _ c_towpathlaw01_Book_fillEntry_9 _ _ _
    refine wpE_cond (o := (Operand.tmp 11)) (b := (decide (i < ((v9.len : Nat) : Int)))) (x := c_towpathlaw01_Book_fillEntry_10) (y := c_towpathlaw01_Book_fillEntry_11) (by kernel_rfl) (by kernel_rfl) (fun hb => ?_) (fun hb => ?_)
    · replace h := h.1 hb
      exact h.elim
    · replace h := h.2 hb
      refine wpE_exit (id := 0) (by kernel_rfl) ?_
      repeat (first | refine seqQ_exit ?_ | refine loopQ_exit ?_ | refine cutQ_exit ?_ | refine blockQ_hit ?_ | refine blockQ_miss (by kernel_rfl) ?_)
      refine retQ_normal ?_
      repeat (first | refine seqQ_ret ?_ | refine blockQ_ret ?_ | refine loopQ_ret ?_ | refine cutQ_ret ?_)
      exact retT (rs := []) (vs := []) (by kernel_rfl) (trivial) (by kernel_rfl) ⟨rfl, h⟩
  · rintro e w' ⟨v, rfl, rfl, h⟩; exact ⟨rfl, h⟩

/-! ### (*towpath/towpathlaw01.Book).fillVersion (function 38) -/
noncomputable def c_towpathlaw01_Book_fillVersion_0 : Code := (Tryz.f38.body).getD Code.skip
noncomputable def c_towpathlaw01_Book_fillVersion_1 : Code := Code.l c_towpathlaw01_Book_fillVersion_0
noncomputable def r_towpathlaw01_Book_fillVersion_1 : Array Oper := Code.ops c_towpathlaw01_Book_fillVersion_1
noncomputable def c_towpathlaw01_Book_fillVersion_3 : Code := Code.r c_towpathlaw01_Book_fillVersion_0
noncomputable def c_towpathlaw01_Book_fillVersion_4 : Code := Code.l c_towpathlaw01_Book_fillVersion_3
noncomputable def c_towpathlaw01_Book_fillVersion_5 : Code := Code.l c_towpathlaw01_Book_fillVersion_4
noncomputable def c_towpathlaw01_Book_fillVersion_6 : Code := Code.l c_towpathlaw01_Book_fillVersion_5
noncomputable def c_towpathlaw01_Book_fillVersion_7 : Code := Code.l c_towpathlaw01_Book_fillVersion_6
noncomputable def r_towpathlaw01_Book_fillVersion_7 : Array Oper := Code.ops c_towpathlaw01_Book_fillVersion_7
noncomputable def c_towpathlaw01_Book_fillVersion_9 : Code := Code.r c_towpathlaw01_Book_fillVersion_6
noncomputable def c_towpathlaw01_Book_fillVersion_10 : Code := Code.l c_towpathlaw01_Book_fillVersion_9
noncomputable def c_towpathlaw01_Book_fillVersion_11 : Code := Code.r c_towpathlaw01_Book_fillVersion_9
noncomputable def c_towpathlaw01_Book_fillVersion_12 : Code := Code.r c_towpathlaw01_Book_fillVersion_5
noncomputable def c_towpathlaw01_Book_fillVersion_13 : Code := Code.l c_towpathlaw01_Book_fillVersion_12
noncomputable def c_towpathlaw01_Book_fillVersion_14 : Code := Code.l c_towpathlaw01_Book_fillVersion_13
noncomputable def c_towpathlaw01_Book_fillVersion_15 : Code := Code.l c_towpathlaw01_Book_fillVersion_14
noncomputable def r_towpathlaw01_Book_fillVersion_15 : Array Oper := Code.ops c_towpathlaw01_Book_fillVersion_15
noncomputable def c_towpathlaw01_Book_fillVersion_17 : Code := Code.r c_towpathlaw01_Book_fillVersion_14
noncomputable def c_towpathlaw01_Book_fillVersion_18 : Code := Code.l c_towpathlaw01_Book_fillVersion_17
noncomputable def r_towpathlaw01_Book_fillVersion_18 : Array Oper := Code.ops c_towpathlaw01_Book_fillVersion_18
noncomputable def c_towpathlaw01_Book_fillVersion_20 : Code := Code.r c_towpathlaw01_Book_fillVersion_17
noncomputable def c_towpathlaw01_Book_fillVersion_21 : Code := Code.l c_towpathlaw01_Book_fillVersion_20
noncomputable def c_towpathlaw01_Book_fillVersion_22 : Code := Code.l c_towpathlaw01_Book_fillVersion_21
noncomputable def c_towpathlaw01_Book_fillVersion_23 : Code := Code.l c_towpathlaw01_Book_fillVersion_22
noncomputable def c_towpathlaw01_Book_fillVersion_24 : Code := Code.l c_towpathlaw01_Book_fillVersion_23
noncomputable def r_towpathlaw01_Book_fillVersion_24 : Array Oper := Code.ops c_towpathlaw01_Book_fillVersion_24
noncomputable def c_towpathlaw01_Book_fillVersion_26 : Code := Code.r c_towpathlaw01_Book_fillVersion_23
noncomputable def c_towpathlaw01_Book_fillVersion_27 : Code := Code.l c_towpathlaw01_Book_fillVersion_26
noncomputable def c_towpathlaw01_Book_fillVersion_28 : Code := Code.r c_towpathlaw01_Book_fillVersion_26
noncomputable def c_towpathlaw01_Book_fillVersion_29 : Code := Code.r c_towpathlaw01_Book_fillVersion_22
noncomputable def c_towpathlaw01_Book_fillVersion_30 : Code := Code.l c_towpathlaw01_Book_fillVersion_29
noncomputable def c_towpathlaw01_Book_fillVersion_31 : Code := Code.l c_towpathlaw01_Book_fillVersion_30
noncomputable def r_towpathlaw01_Book_fillVersion_31 : Array Oper := Code.ops c_towpathlaw01_Book_fillVersion_31
noncomputable def c_towpathlaw01_Book_fillVersion_33 : Code := Code.r c_towpathlaw01_Book_fillVersion_29
noncomputable def r_towpathlaw01_Book_fillVersion_33 : Array Oper := Code.ops c_towpathlaw01_Book_fillVersion_33
noncomputable def c_towpathlaw01_Book_fillVersion_35 : Code := Code.r c_towpathlaw01_Book_fillVersion_12
noncomputable def r_towpathlaw01_Book_fillVersion_35 : Array Oper := Code.ops c_towpathlaw01_Book_fillVersion_35

set_option maxRecDepth 100000 in
set_option maxHeartbeats 4000000 in
theorem S_towpathlaw01_Book_fillVersion {b_ : Option Addr} {w : World} {R : World → Prop} (h : F_towpathlaw01_Book_fillVersion b_ R w) : C_towpathlaw01_Book_fillVersion b_ w R := by
  unfold F_towpathlaw01_Book_fillVersion at h
  unfold C_towpathlaw01_Book_fillVersion
  refine Calls.mono (calls_of_wpE (args := [Value.pointer b_]) (R := fun v w' => v = Value.tuple #[] ∧ R w') Tryz.func38 (c := c_towpathlaw01_Book_fillVersion_0) (by kernel_rfl) 35 (by kernel_rfl) (by kernel_rfl) [(0, Value.pointer b_)] (by kernel_rfl) ?_) ?_
  · refine wpE_seq (x := c_towpathlaw01_Book_fillVersion_1) (y := c_towpathlaw01_Book_fillVersion_3) (by kernel_rfl) ?_
    refine wpE_region (id := 0) (ops := r_towpathlaw01_Book_fillVersion_1) (by kernel_rfl) ?_
    refine reg_run [.plain] 1 [(0, [], Value.pointer b_), (2, [], Value.int .i64 0)] (by kernel_rfl) (by kernel_rfl) ?_
    refine reg_end [(0, Value.pointer b_), (2, Value.int .i64 0)] (by kernel_rfl) (by kernel_rfl) ?_
    change WpE _ _ c_towpathlaw01_Book_fillVersion_3 _ _ _
    refine wpE_block (id := 0) (x := c_towpathlaw01_Book_fillVersion_4) (by kernel_rfl) ?_
    obtain ⟨I, μ, h0, hr⟩ := h
    refine wpE_loop (x := c_towpathlaw01_Book_fillVersion_5) (by kernel_rfl) (fun m l w => ∃ (i : Int), l = [(0, Value.pointer b_), (2, Value.int .i64 i)] ∧ I i w ∧ μ i w = m) (l' := [(0, Value.pointer b_), (2, Value.int .i64 0)]) (Sub.mk (by kernel_rfl)) ⟨0, rfl, h0, rfl⟩ ?_
    rintro _ _ w1 ⟨i, rfl, hI, rfl⟩
    obtain ⟨again_, again__h, h⟩ : ∃ again_ : Int → World → Prop, (∀ i' w', again_ i' w' → I i' w' ∧ μ i' w' < μ i w1) ∧ F_towpathlaw01_Book_fillVersion_L0 b_ R again_ i w1 := ⟨_, fun _ _ h => h, hr i w1 hI⟩
    clear h0 hI
    unfold F_towpathlaw01_Book_fillVersion_L0 at h
    refine wpE_seq (x := c_towpathlaw01_Book_fillVersion_6) (y := c_towpathlaw01_Book_fillVersion_12) (by kernel_rfl) ?_
    refine wpE_seq (x := c_towpathlaw01_Book_fillVersion_7) (y := c_towpathlaw01_Book_fillVersion_9) (by kernel_rfl) ?_
    refine wpE_region (id := 1) (ops := r_towpathlaw01_Book_fillVersion_7) (by kernel_rfl) ?_
    refine reg_run [.plain, .plain] 2 [(0, [], Value.pointer b_), (2, [], Value.int .i64 i), (5, [], Value.int .i64 i), (6, [], Value.pointer b_)] (by kernel_rfl) (by kernel_rfl) ?_
    obtain ⟨hp_3, h⟩ := h
    refine reg_conv [(0, [], Value.pointer b_), (2, [], Value.int .i64 i), (5, [], Value.int .i64 i), (6, [], Value.pointer (some ⟨(pblk b_), (poff b_), none⟩))] (congrArg (fun pp => ([(0, [], Value.pointer b_), (2, [], Value.int .i64 i), (5, [], Value.int .i64 i), (6, [], Value.pointer pp)] : GEnv)) hp_3) ?_
    refine reg_run [.plain] 3 [(0, [], Value.pointer b_), (2, [], Value.int .i64 i), (5, [], Value.int .i64 i), (6, [], Value.pointer (some ⟨(pblk b_), (poff b_), none⟩)), (7, [], Value.pointer (some ⟨(pblk b_), (poff b_), none⟩))] (by kernel_rfl) (by kernel_rfl) ?_
    refine reg_run [.plain] 4 [(0, [], Value.pointer b_), (2, [], Value.int .i64 i), (5, [], Value.int .i64 i), (8, [], Value.pointer (some ⟨(pblk b_), (poff b_) + 6, none⟩))] (by kernel_rfl) (by kernel_rfl) ?_
    obtain ⟨v9, hc, h⟩ := h
    refine reg_load1 (t := 36) (a := (Go.Operand.tmp 8)) (b := (pblk b_)) (o := ((poff b_) + 6)) (ty := 36) (dst := some 9) (by kernel_rfl) (by kernel_rfl) (by kernel_rfl) hc ?_
    refine reg_run [.plain, .plain] 7 [(0, [], Value.pointer b_), (2, [], Value.int .i64 i), (11, [], Value.bool (decide (i < ((v9.len : Nat) : Int))))] (by kernel_rfl) (by kernel_rfl) ?_
    refine reg_end [(0, Value.pointer b_), (2, Value.int .i64 i), (11, Value.bool (decide (i < ((v9.len : Nat) : Int))))] (by kernel_rfl) (by kernel_rfl) ?_
    change WpE _ _ c_towpathlaw01_Book_fillVersion_9 _ _ _
    refine wpE_cond (o := (Operand.tmp 11)) (b := (decide (i < ((v9.len : Nat) : Int)))) (x := c_towpathlaw01_Book_fillVersion_10) (y := c_towpathlaw01_Book_fillVersion_11) (by kernel_rfl) (by kernel_rfl) (fun hb => ?_) (fun hb => ?_)
    · replace h := h.1 hb
      exact h.elim
    · replace h := h.2 hb
      refine wpE_exit (id := 0) (by kernel_rfl) ?_
      repeat (first | refine seqQ_exit ?_ | refine loopQ_exit ?_ | refine cutQ_exit ?_ | refine blockQ_hit ?_ | refine blockQ_miss (by kernel_rfl) ?_)
      refine retQ_normal ?_
      repeat (first | refine seqQ_ret ?_ | refine blockQ_ret ?_ | refine loopQ_ret ?_ | refine cutQ_ret ?_)
      exact retT (rs := []) (vs := []) (by kernel_rfl) (trivial) (by kernel_rfl) ⟨rfl, h⟩
  · rintro e w' ⟨v, rfl, rfl, h⟩; exact ⟨rfl, h⟩

/-! ### (*towpath/towpathlaw01.Book).fillTxn (function 39) -/
noncomputable def c_towpathlaw01_Book_fillTxn_0 : Code := (Tryz.f39.body).getD Code.skip
noncomputable def c_towpathlaw01_Book_fillTxn_1 : Code := Code.l c_towpathlaw01_Book_fillTxn_0
noncomputable def r_towpathlaw01_Book_fillTxn_1 : Array Oper := Code.ops c_towpathlaw01_Book_fillTxn_1
noncomputable def c_towpathlaw01_Book_fillTxn_3 : Code := Code.r c_towpathlaw01_Book_fillTxn_0
noncomputable def c_towpathlaw01_Book_fillTxn_4 : Code := Code.l c_towpathlaw01_Book_fillTxn_3
noncomputable def c_towpathlaw01_Book_fillTxn_5 : Code := Code.l c_towpathlaw01_Book_fillTxn_4
noncomputable def c_towpathlaw01_Book_fillTxn_6 : Code := Code.l c_towpathlaw01_Book_fillTxn_5
noncomputable def c_towpathlaw01_Book_fillTxn_7 : Code := Code.l c_towpathlaw01_Book_fillTxn_6
noncomputable def r_towpathlaw01_Book_fillTxn_7 : Array Oper := Code.ops c_towpathlaw01_Book_fillTxn_7
noncomputable def c_towpathlaw01_Book_fillTxn_9 : Code := Code.r c_towpathlaw01_Book_fillTxn_6
noncomputable def c_towpathlaw01_Book_fillTxn_10 : Code := Code.l c_towpathlaw01_Book_fillTxn_9
noncomputable def c_towpathlaw01_Book_fillTxn_11 : Code := Code.r c_towpathlaw01_Book_fillTxn_9
noncomputable def c_towpathlaw01_Book_fillTxn_12 : Code := Code.r c_towpathlaw01_Book_fillTxn_5
noncomputable def c_towpathlaw01_Book_fillTxn_13 : Code := Code.l c_towpathlaw01_Book_fillTxn_12
noncomputable def c_towpathlaw01_Book_fillTxn_14 : Code := Code.l c_towpathlaw01_Book_fillTxn_13
noncomputable def c_towpathlaw01_Book_fillTxn_15 : Code := Code.l c_towpathlaw01_Book_fillTxn_14
noncomputable def r_towpathlaw01_Book_fillTxn_15 : Array Oper := Code.ops c_towpathlaw01_Book_fillTxn_15
noncomputable def c_towpathlaw01_Book_fillTxn_17 : Code := Code.r c_towpathlaw01_Book_fillTxn_14
noncomputable def c_towpathlaw01_Book_fillTxn_18 : Code := Code.l c_towpathlaw01_Book_fillTxn_17
noncomputable def r_towpathlaw01_Book_fillTxn_18 : Array Oper := Code.ops c_towpathlaw01_Book_fillTxn_18
noncomputable def c_towpathlaw01_Book_fillTxn_20 : Code := Code.r c_towpathlaw01_Book_fillTxn_17
noncomputable def c_towpathlaw01_Book_fillTxn_21 : Code := Code.l c_towpathlaw01_Book_fillTxn_20
noncomputable def c_towpathlaw01_Book_fillTxn_22 : Code := Code.l c_towpathlaw01_Book_fillTxn_21
noncomputable def c_towpathlaw01_Book_fillTxn_23 : Code := Code.l c_towpathlaw01_Book_fillTxn_22
noncomputable def c_towpathlaw01_Book_fillTxn_24 : Code := Code.l c_towpathlaw01_Book_fillTxn_23
noncomputable def r_towpathlaw01_Book_fillTxn_24 : Array Oper := Code.ops c_towpathlaw01_Book_fillTxn_24
noncomputable def c_towpathlaw01_Book_fillTxn_26 : Code := Code.r c_towpathlaw01_Book_fillTxn_23
noncomputable def c_towpathlaw01_Book_fillTxn_27 : Code := Code.l c_towpathlaw01_Book_fillTxn_26
noncomputable def c_towpathlaw01_Book_fillTxn_28 : Code := Code.r c_towpathlaw01_Book_fillTxn_26
noncomputable def c_towpathlaw01_Book_fillTxn_29 : Code := Code.r c_towpathlaw01_Book_fillTxn_22
noncomputable def c_towpathlaw01_Book_fillTxn_30 : Code := Code.l c_towpathlaw01_Book_fillTxn_29
noncomputable def c_towpathlaw01_Book_fillTxn_31 : Code := Code.l c_towpathlaw01_Book_fillTxn_30
noncomputable def r_towpathlaw01_Book_fillTxn_31 : Array Oper := Code.ops c_towpathlaw01_Book_fillTxn_31
noncomputable def c_towpathlaw01_Book_fillTxn_33 : Code := Code.r c_towpathlaw01_Book_fillTxn_29
noncomputable def r_towpathlaw01_Book_fillTxn_33 : Array Oper := Code.ops c_towpathlaw01_Book_fillTxn_33
noncomputable def c_towpathlaw01_Book_fillTxn_35 : Code := Code.r c_towpathlaw01_Book_fillTxn_12
noncomputable def r_towpathlaw01_Book_fillTxn_35 : Array Oper := Code.ops c_towpathlaw01_Book_fillTxn_35

set_option maxRecDepth 100000 in
set_option maxHeartbeats 4000000 in
theorem S_towpathlaw01_Book_fillTxn {b_ : Option Addr} {w : World} {R : World → Prop} (h : F_towpathlaw01_Book_fillTxn b_ R w) : C_towpathlaw01_Book_fillTxn b_ w R := by
  unfold F_towpathlaw01_Book_fillTxn at h
  unfold C_towpathlaw01_Book_fillTxn
  refine Calls.mono (calls_of_wpE (args := [Value.pointer b_]) (R := fun v w' => v = Value.tuple #[] ∧ R w') Tryz.func39 (c := c_towpathlaw01_Book_fillTxn_0) (by kernel_rfl) 35 (by kernel_rfl) (by kernel_rfl) [(0, Value.pointer b_)] (by kernel_rfl) ?_) ?_
  · refine wpE_seq (x := c_towpathlaw01_Book_fillTxn_1) (y := c_towpathlaw01_Book_fillTxn_3) (by kernel_rfl) ?_
    refine wpE_region (id := 0) (ops := r_towpathlaw01_Book_fillTxn_1) (by kernel_rfl) ?_
    refine reg_run [.plain] 1 [(0, [], Value.pointer b_), (2, [], Value.int .i64 0)] (by kernel_rfl) (by kernel_rfl) ?_
    refine reg_end [(0, Value.pointer b_), (2, Value.int .i64 0)] (by kernel_rfl) (by kernel_rfl) ?_
    change WpE _ _ c_towpathlaw01_Book_fillTxn_3 _ _ _
    refine wpE_block (id := 0) (x := c_towpathlaw01_Book_fillTxn_4) (by kernel_rfl) ?_
    obtain ⟨I, μ, h0, hr⟩ := h
    refine wpE_loop (x := c_towpathlaw01_Book_fillTxn_5) (by kernel_rfl) (fun m l w => ∃ (i : Int), l = [(0, Value.pointer b_), (2, Value.int .i64 i)] ∧ I i w ∧ μ i w = m) (l' := [(0, Value.pointer b_), (2, Value.int .i64 0)]) (Sub.mk (by kernel_rfl)) ⟨0, rfl, h0, rfl⟩ ?_
    rintro _ _ w1 ⟨i, rfl, hI, rfl⟩
    obtain ⟨again_, again__h, h⟩ : ∃ again_ : Int → World → Prop, (∀ i' w', again_ i' w' → I i' w' ∧ μ i' w' < μ i w1) ∧ F_towpathlaw01_Book_fillTxn_L0 b_ R again_ i w1 := ⟨_, fun _ _ h => h, hr i w1 hI⟩
    clear h0 hI
    unfold F_towpathlaw01_Book_fillTxn_L0 at h
    refine wpE_seq (x := c_towpathlaw01_Book_fillTxn_6) (y := c_towpathlaw01_Book_fillTxn_12) (by kernel_rfl) ?_
    refine wpE_seq (x := c_towpathlaw01_Book_fillTxn_7) (y := c_towpathlaw01_Book_fillTxn_9) (by kernel_rfl) ?_
    refine wpE_region (id := 1) (ops := r_towpathlaw01_Book_fillTxn_7) (by kernel_rfl) ?_
    refine reg_run [.plain, .plain] 2 [(0, [], Value.pointer b_), (2, [], Value.int .i64 i), (5, [], Value.int .i64 i), (6, [], Value.pointer b_)] (by kernel_rfl) (by kernel_rfl) ?_
    obtain ⟨hp_3, h⟩ := h
    refine reg_conv [(0, [], Value.pointer b_), (2, [], Value.int .i64 i), (5, [], Value.int .i64 i), (6, [], Value.pointer (some ⟨(pblk b_), (poff b_), none⟩))] (congrArg (fun pp => ([(0, [], Value.pointer b_), (2, [], Value.int .i64 i), (5, [], Value.int .i64 i), (6, [], Value.pointer pp)] : GEnv)) hp_3) ?_
    refine reg_run [.plain] 3 [(0, [], Value.pointer b_), (2, [], Value.int .i64 i), (5, [], Value.int .i64 i), (6, [], Value.pointer (some ⟨(pblk b_), (poff b_), none⟩)), (7, [], Value.pointer (some ⟨(pblk b_), (poff b_), none⟩))] (by kernel_rfl) (by kernel_rfl) ?_
    refine reg_run [.plain] 4 [(0, [], Value.pointer b_), (2, [], Value.int .i64 i), (5, [], Value.int .i64 i), (8, [], Value.pointer (some ⟨(pblk b_), (poff b_) + 7, none⟩))] (by kernel_rfl) (by kernel_rfl) ?_
    obtain ⟨v9, hc, h⟩ := h
    refine reg_load1 (t := 37) (a := (Go.Operand.tmp 8)) (b := (pblk b_)) (o := ((poff b_) + 7)) (ty := 37) (dst := some 9) (by kernel_rfl) (by kernel_rfl) (by kernel_rfl) hc ?_
    refine reg_run [.plain, .plain] 7 [(0, [], Value.pointer b_), (2, [], Value.int .i64 i), (11, [], Value.bool (decide (i < ((v9.len : Nat) : Int))))] (by kernel_rfl) (by kernel_rfl) ?_
    refine reg_end [(0, Value.pointer b_), (2, Value.int .i64 i), (11, Value.bool (decide (i < ((v9.len : Nat) : Int))))] (by kernel_rfl) (by kernel_rfl) ?_
    change WpE _ _ c_towpathlaw01_Book_fillTxn_9 _ _ _
    refine wpE_cond (o := (Operand.tmp 11)) (b := (decide (i < ((v9.len : Nat) : Int)))) (x := c_towpathlaw01_Book_fillTxn_10) (y := c_towpathlaw01_Book_fillTxn_11) (by kernel_rfl) (by kernel_rfl) (fun hb => ?_) (fun hb => ?_)
    · replace h := h.1 hb
      exact h.elim
    · replace h := h.2 hb
      refine wpE_exit (id := 0) (by kernel_rfl) ?_
      repeat (first | refine seqQ_exit ?_ | refine loopQ_exit ?_ | refine cutQ_exit ?_ | refine blockQ_hit ?_ | refine blockQ_miss (by kernel_rfl) ?_)
      refine retQ_normal ?_
      repeat (first | refine seqQ_ret ?_ | refine blockQ_ret ?_ | refine loopQ_ret ?_ | refine cutQ_ret ?_)
      exact retT (rs := []) (vs := []) (by kernel_rfl) (trivial) (by kernel_rfl) ⟨rfl, h⟩
  · rintro e w' ⟨v, rfl, rfl, h⟩; exact ⟨rfl, h⟩

/-! ### (*towpath/towpathlaw01.Book).fillHeld (function 40) -/
noncomputable def c_towpathlaw01_Book_fillHeld_0 : Code := (Tryz.f40.body).getD Code.skip
noncomputable def c_towpathlaw01_Book_fillHeld_1 : Code := Code.l c_towpathlaw01_Book_fillHeld_0
noncomputable def r_towpathlaw01_Book_fillHeld_1 : Array Oper := Code.ops c_towpathlaw01_Book_fillHeld_1
noncomputable def c_towpathlaw01_Book_fillHeld_3 : Code := Code.r c_towpathlaw01_Book_fillHeld_0
noncomputable def c_towpathlaw01_Book_fillHeld_4 : Code := Code.l c_towpathlaw01_Book_fillHeld_3
noncomputable def c_towpathlaw01_Book_fillHeld_5 : Code := Code.l c_towpathlaw01_Book_fillHeld_4
noncomputable def c_towpathlaw01_Book_fillHeld_6 : Code := Code.l c_towpathlaw01_Book_fillHeld_5
noncomputable def c_towpathlaw01_Book_fillHeld_7 : Code := Code.l c_towpathlaw01_Book_fillHeld_6
noncomputable def r_towpathlaw01_Book_fillHeld_7 : Array Oper := Code.ops c_towpathlaw01_Book_fillHeld_7
noncomputable def c_towpathlaw01_Book_fillHeld_9 : Code := Code.r c_towpathlaw01_Book_fillHeld_6
noncomputable def c_towpathlaw01_Book_fillHeld_10 : Code := Code.l c_towpathlaw01_Book_fillHeld_9
noncomputable def c_towpathlaw01_Book_fillHeld_11 : Code := Code.r c_towpathlaw01_Book_fillHeld_9
noncomputable def c_towpathlaw01_Book_fillHeld_12 : Code := Code.r c_towpathlaw01_Book_fillHeld_5
noncomputable def c_towpathlaw01_Book_fillHeld_13 : Code := Code.l c_towpathlaw01_Book_fillHeld_12
noncomputable def c_towpathlaw01_Book_fillHeld_14 : Code := Code.l c_towpathlaw01_Book_fillHeld_13
noncomputable def c_towpathlaw01_Book_fillHeld_15 : Code := Code.l c_towpathlaw01_Book_fillHeld_14
noncomputable def r_towpathlaw01_Book_fillHeld_15 : Array Oper := Code.ops c_towpathlaw01_Book_fillHeld_15
noncomputable def c_towpathlaw01_Book_fillHeld_17 : Code := Code.r c_towpathlaw01_Book_fillHeld_14
noncomputable def c_towpathlaw01_Book_fillHeld_18 : Code := Code.l c_towpathlaw01_Book_fillHeld_17
noncomputable def r_towpathlaw01_Book_fillHeld_18 : Array Oper := Code.ops c_towpathlaw01_Book_fillHeld_18
noncomputable def c_towpathlaw01_Book_fillHeld_20 : Code := Code.r c_towpathlaw01_Book_fillHeld_17
noncomputable def c_towpathlaw01_Book_fillHeld_21 : Code := Code.l c_towpathlaw01_Book_fillHeld_20
noncomputable def c_towpathlaw01_Book_fillHeld_22 : Code := Code.l c_towpathlaw01_Book_fillHeld_21
noncomputable def c_towpathlaw01_Book_fillHeld_23 : Code := Code.l c_towpathlaw01_Book_fillHeld_22
noncomputable def c_towpathlaw01_Book_fillHeld_24 : Code := Code.l c_towpathlaw01_Book_fillHeld_23
noncomputable def r_towpathlaw01_Book_fillHeld_24 : Array Oper := Code.ops c_towpathlaw01_Book_fillHeld_24
noncomputable def c_towpathlaw01_Book_fillHeld_26 : Code := Code.r c_towpathlaw01_Book_fillHeld_23
noncomputable def c_towpathlaw01_Book_fillHeld_27 : Code := Code.l c_towpathlaw01_Book_fillHeld_26
noncomputable def c_towpathlaw01_Book_fillHeld_28 : Code := Code.r c_towpathlaw01_Book_fillHeld_26
noncomputable def c_towpathlaw01_Book_fillHeld_29 : Code := Code.r c_towpathlaw01_Book_fillHeld_22
noncomputable def c_towpathlaw01_Book_fillHeld_30 : Code := Code.l c_towpathlaw01_Book_fillHeld_29
noncomputable def c_towpathlaw01_Book_fillHeld_31 : Code := Code.l c_towpathlaw01_Book_fillHeld_30
noncomputable def r_towpathlaw01_Book_fillHeld_31 : Array Oper := Code.ops c_towpathlaw01_Book_fillHeld_31
noncomputable def c_towpathlaw01_Book_fillHeld_33 : Code := Code.r c_towpathlaw01_Book_fillHeld_29
noncomputable def r_towpathlaw01_Book_fillHeld_33 : Array Oper := Code.ops c_towpathlaw01_Book_fillHeld_33
noncomputable def c_towpathlaw01_Book_fillHeld_35 : Code := Code.r c_towpathlaw01_Book_fillHeld_12
noncomputable def r_towpathlaw01_Book_fillHeld_35 : Array Oper := Code.ops c_towpathlaw01_Book_fillHeld_35

set_option maxRecDepth 100000 in
set_option maxHeartbeats 4000000 in
theorem S_towpathlaw01_Book_fillHeld {b_ : Option Addr} {w : World} {R : World → Prop} (h : F_towpathlaw01_Book_fillHeld b_ R w) : C_towpathlaw01_Book_fillHeld b_ w R := by
  unfold F_towpathlaw01_Book_fillHeld at h
  unfold C_towpathlaw01_Book_fillHeld
  refine Calls.mono (calls_of_wpE (args := [Value.pointer b_]) (R := fun v w' => v = Value.tuple #[] ∧ R w') Tryz.func40 (c := c_towpathlaw01_Book_fillHeld_0) (by kernel_rfl) 35 (by kernel_rfl) (by kernel_rfl) [(0, Value.pointer b_)] (by kernel_rfl) ?_) ?_
  · refine wpE_seq (x := c_towpathlaw01_Book_fillHeld_1) (y := c_towpathlaw01_Book_fillHeld_3) (by kernel_rfl) ?_
    refine wpE_region (id := 0) (ops := r_towpathlaw01_Book_fillHeld_1) (by kernel_rfl) ?_
    refine reg_run [.plain] 1 [(0, [], Value.pointer b_), (2, [], Value.int .i64 0)] (by kernel_rfl) (by kernel_rfl) ?_
    refine reg_end [(0, Value.pointer b_), (2, Value.int .i64 0)] (by kernel_rfl) (by kernel_rfl) ?_
    change WpE _ _ c_towpathlaw01_Book_fillHeld_3 _ _ _
    refine wpE_block (id := 0) (x := c_towpathlaw01_Book_fillHeld_4) (by kernel_rfl) ?_
    obtain ⟨I, μ, h0, hr⟩ := h
    refine wpE_loop (x := c_towpathlaw01_Book_fillHeld_5) (by kernel_rfl) (fun m l w => ∃ (i : Int), l = [(0, Value.pointer b_), (2, Value.int .i64 i)] ∧ I i w ∧ μ i w = m) (l' := [(0, Value.pointer b_), (2, Value.int .i64 0)]) (Sub.mk (by kernel_rfl)) ⟨0, rfl, h0, rfl⟩ ?_
    rintro _ _ w1 ⟨i, rfl, hI, rfl⟩
    obtain ⟨again_, again__h, h⟩ : ∃ again_ : Int → World → Prop, (∀ i' w', again_ i' w' → I i' w' ∧ μ i' w' < μ i w1) ∧ F_towpathlaw01_Book_fillHeld_L0 b_ R again_ i w1 := ⟨_, fun _ _ h => h, hr i w1 hI⟩
    clear h0 hI
    unfold F_towpathlaw01_Book_fillHeld_L0 at h
    refine wpE_seq (x := c_towpathlaw01_Book_fillHeld_6) (y := c_towpathlaw01_Book_fillHeld_12) (by kernel_rfl) ?_
    refine wpE_seq (x := c_towpathlaw01_Book_fillHeld_7) (y := c_towpathlaw01_Book_fillHeld_9) (by kernel_rfl) ?_
    refine wpE_region (id := 1) (ops := r_towpathlaw01_Book_fillHeld_7) (by kernel_rfl) ?_
    refine reg_run [.plain, .plain] 2 [(0, [], Value.pointer b_), (2, [], Value.int .i64 i), (5, [], Value.int .i64 i), (6, [], Value.pointer b_)] (by kernel_rfl) (by kernel_rfl) ?_
    obtain ⟨hp_3, h⟩ := h
    refine reg_conv [(0, [], Value.pointer b_), (2, [], Value.int .i64 i), (5, [], Value.int .i64 i), (6, [], Value.pointer (some ⟨(pblk b_), (poff b_), none⟩))] (congrArg (fun pp => ([(0, [], Value.pointer b_), (2, [], Value.int .i64 i), (5, [], Value.int .i64 i), (6, [], Value.pointer pp)] : GEnv)) hp_3) ?_
    refine reg_run [.plain] 3 [(0, [], Value.pointer b_), (2, [], Value.int .i64 i), (5, [], Value.int .i64 i), (6, [], Value.pointer (some ⟨(pblk b_), (poff b_), none⟩)), (7, [], Value.pointer (some ⟨(pblk b_), (poff b_), none⟩))] (by kernel_rfl) (by kernel_rfl) ?_
    refine reg_run [.plain] 4 [(0, [], Value.pointer b_), (2, [], Value.int .i64 i), (5, [], Value.int .i64 i), (8, [], Value.pointer (some ⟨(pblk b_), (poff b_) + 8, none⟩))] (by kernel_rfl) (by kernel_rfl) ?_
    obtain ⟨v9, hc, h⟩ := h
    refine reg_load1 (t := 38) (a := (Go.Operand.tmp 8)) (b := (pblk b_)) (o := ((poff b_) + 8)) (ty := 38) (dst := some 9) (by kernel_rfl) (by kernel_rfl) (by kernel_rfl) hc ?_
    refine reg_run [.plain, .plain] 7 [(0, [], Value.pointer b_), (2, [], Value.int .i64 i), (11, [], Value.bool (decide (i < ((v9.len : Nat) : Int))))] (by kernel_rfl) (by kernel_rfl) ?_
    refine reg_end [(0, Value.pointer b_), (2, Value.int .i64 i), (11, Value.bool (decide (i < ((v9.len : Nat) : Int))))] (by kernel_rfl) (by kernel_rfl) ?_
    change WpE _ _ c_towpathlaw01_Book_fillHeld_9 _ _ _
    refine wpE_cond (o := (Operand.tmp 11)) (b := (decide (i < ((v9.len : Nat) : Int)))) (x := c_towpathlaw01_Book_fillHeld_10) (y := c_towpathlaw01_Book_fillHeld_11) (by kernel_rfl) (by kernel_rfl) (fun hb => ?_) (fun hb => ?_)
    · replace h := h.1 hb
      exact h.elim
    · replace h := h.2 hb
      refine wpE_exit (id := 0) (by kernel_rfl) ?_
      repeat (first | refine seqQ_exit ?_ | refine loopQ_exit ?_ | refine cutQ_exit ?_ | refine blockQ_hit ?_ | refine blockQ_miss (by kernel_rfl) ?_)
      refine retQ_normal ?_
      repeat (first | refine seqQ_ret ?_ | refine blockQ_ret ?_ | refine loopQ_ret ?_ | refine cutQ_ret ?_)
      exact retT (rs := []) (vs := []) (by kernel_rfl) (trivial) (by kernel_rfl) ⟨rfl, h⟩
  · rintro e w' ⟨v, rfl, rfl, h⟩; exact ⟨rfl, h⟩

/-! ### (*towpath/towpathlaw01.Book).fillHeldList (function 41) -/
noncomputable def c_towpathlaw01_Book_fillHeldList_0 : Code := (Tryz.f41.body).getD Code.skip
noncomputable def c_towpathlaw01_Book_fillHeldList_1 : Code := Code.l c_towpathlaw01_Book_fillHeldList_0
noncomputable def r_towpathlaw01_Book_fillHeldList_1 : Array Oper := Code.ops c_towpathlaw01_Book_fillHeldList_1
noncomputable def c_towpathlaw01_Book_fillHeldList_3 : Code := Code.r c_towpathlaw01_Book_fillHeldList_0
noncomputable def c_towpathlaw01_Book_fillHeldList_4 : Code := Code.l c_towpathlaw01_Book_fillHeldList_3
noncomputable def c_towpathlaw01_Book_fillHeldList_5 : Code := Code.l c_towpathlaw01_Book_fillHeldList_4
noncomputable def c_towpathlaw01_Book_fillHeldList_6 : Code := Code.l c_towpathlaw01_Book_fillHeldList_5
noncomputable def c_towpathlaw01_Book_fillHeldList_7 : Code := Code.l c_towpathlaw01_Book_fillHeldList_6
noncomputable def r_towpathlaw01_Book_fillHeldList_7 : Array Oper := Code.ops c_towpathlaw01_Book_fillHeldList_7
noncomputable def c_towpathlaw01_Book_fillHeldList_9 : Code := Code.r c_towpathlaw01_Book_fillHeldList_6
noncomputable def c_towpathlaw01_Book_fillHeldList_10 : Code := Code.l c_towpathlaw01_Book_fillHeldList_9
noncomputable def c_towpathlaw01_Book_fillHeldList_11 : Code := Code.r c_towpathlaw01_Book_fillHeldList_9
noncomputable def c_towpathlaw01_Book_fillHeldList_12 : Code := Code.r c_towpathlaw01_Book_fillHeldList_5
noncomputable def c_towpathlaw01_Book_fillHeldList_13 : Code := Code.l c_towpathlaw01_Book_fillHeldList_12
noncomputable def c_towpathlaw01_Book_fillHeldList_14 : Code := Code.l c_towpathlaw01_Book_fillHeldList_13
noncomputable def c_towpathlaw01_Book_fillHeldList_15 : Code := Code.l c_towpathlaw01_Book_fillHeldList_14
noncomputable def r_towpathlaw01_Book_fillHeldList_15 : Array Oper := Code.ops c_towpathlaw01_Book_fillHeldList_15
noncomputable def c_towpathlaw01_Book_fillHeldList_17 : Code := Code.r c_towpathlaw01_Book_fillHeldList_14
noncomputable def c_towpathlaw01_Book_fillHeldList_18 : Code := Code.l c_towpathlaw01_Book_fillHeldList_17
noncomputable def r_towpathlaw01_Book_fillHeldList_18 : Array Oper := Code.ops c_towpathlaw01_Book_fillHeldList_18
noncomputable def c_towpathlaw01_Book_fillHeldList_20 : Code := Code.r c_towpathlaw01_Book_fillHeldList_17
noncomputable def c_towpathlaw01_Book_fillHeldList_21 : Code := Code.l c_towpathlaw01_Book_fillHeldList_20
noncomputable def c_towpathlaw01_Book_fillHeldList_22 : Code := Code.l c_towpathlaw01_Book_fillHeldList_21
noncomputable def c_towpathlaw01_Book_fillHeldList_23 : Code := Code.l c_towpathlaw01_Book_fillHeldList_22
noncomputable def c_towpathlaw01_Book_fillHeldList_24 : Code := Code.l c_towpathlaw01_Book_fillHeldList_23
noncomputable def r_towpathlaw01_Book_fillHeldList_24 : Array Oper := Code.ops c_towpathlaw01_Book_fillHeldList_24
noncomputable def c_towpathlaw01_Book_fillHeldList_26 : Code := Code.r c_towpathlaw01_Book_fillHeldList_23
noncomputable def c_towpathlaw01_Book_fillHeldList_27 : Code := Code.l c_towpathlaw01_Book_fillHeldList_26
noncomputable def c_towpathlaw01_Book_fillHeldList_28 : Code := Code.r c_towpathlaw01_Book_fillHeldList_26
noncomputable def c_towpathlaw01_Book_fillHeldList_29 : Code := Code.r c_towpathlaw01_Book_fillHeldList_22
noncomputable def c_towpathlaw01_Book_fillHeldList_30 : Code := Code.l c_towpathlaw01_Book_fillHeldList_29
noncomputable def c_towpathlaw01_Book_fillHeldList_31 : Code := Code.l c_towpathlaw01_Book_fillHeldList_30
noncomputable def r_towpathlaw01_Book_fillHeldList_31 : Array Oper := Code.ops c_towpathlaw01_Book_fillHeldList_31
noncomputable def c_towpathlaw01_Book_fillHeldList_33 : Code := Code.r c_towpathlaw01_Book_fillHeldList_29
noncomputable def r_towpathlaw01_Book_fillHeldList_33 : Array Oper := Code.ops c_towpathlaw01_Book_fillHeldList_33
noncomputable def c_towpathlaw01_Book_fillHeldList_35 : Code := Code.r c_towpathlaw01_Book_fillHeldList_12
noncomputable def r_towpathlaw01_Book_fillHeldList_35 : Array Oper := Code.ops c_towpathlaw01_Book_fillHeldList_35

set_option maxRecDepth 100000 in
set_option maxHeartbeats 4000000 in
theorem S_towpathlaw01_Book_fillHeldList {b_ : Option Addr} {w : World} {R : World → Prop} (h : F_towpathlaw01_Book_fillHeldList b_ R w) : C_towpathlaw01_Book_fillHeldList b_ w R := by
  unfold F_towpathlaw01_Book_fillHeldList at h
  unfold C_towpathlaw01_Book_fillHeldList
  refine Calls.mono (calls_of_wpE (args := [Value.pointer b_]) (R := fun v w' => v = Value.tuple #[] ∧ R w') Tryz.func41 (c := c_towpathlaw01_Book_fillHeldList_0) (by kernel_rfl) 35 (by kernel_rfl) (by kernel_rfl) [(0, Value.pointer b_)] (by kernel_rfl) ?_) ?_
  · refine wpE_seq (x := c_towpathlaw01_Book_fillHeldList_1) (y := c_towpathlaw01_Book_fillHeldList_3) (by kernel_rfl) ?_
    refine wpE_region (id := 0) (ops := r_towpathlaw01_Book_fillHeldList_1) (by kernel_rfl) ?_
    refine reg_run [.plain] 1 [(0, [], Value.pointer b_), (2, [], Value.int .i64 0)] (by kernel_rfl) (by kernel_rfl) ?_
    refine reg_end [(0, Value.pointer b_), (2, Value.int .i64 0)] (by kernel_rfl) (by kernel_rfl) ?_
    change WpE _ _ c_towpathlaw01_Book_fillHeldList_3 _ _ _
    refine wpE_block (id := 0) (x := c_towpathlaw01_Book_fillHeldList_4) (by kernel_rfl) ?_
    obtain ⟨I, μ, h0, hr⟩ := h
    refine wpE_loop (x := c_towpathlaw01_Book_fillHeldList_5) (by kernel_rfl) (fun m l w => ∃ (i : Int), l = [(0, Value.pointer b_), (2, Value.int .i64 i)] ∧ I i w ∧ μ i w = m) (l' := [(0, Value.pointer b_), (2, Value.int .i64 0)]) (Sub.mk (by kernel_rfl)) ⟨0, rfl, h0, rfl⟩ ?_
    rintro _ _ w1 ⟨i, rfl, hI, rfl⟩
    obtain ⟨again_, again__h, h⟩ : ∃ again_ : Int → World → Prop, (∀ i' w', again_ i' w' → I i' w' ∧ μ i' w' < μ i w1) ∧ F_towpathlaw01_Book_fillHeldList_L0 b_ R again_ i w1 := ⟨_, fun _ _ h => h, hr i w1 hI⟩
    clear h0 hI
    unfold F_towpathlaw01_Book_fillHeldList_L0 at h
    refine wpE_seq (x := c_towpathlaw01_Book_fillHeldList_6) (y := c_towpathlaw01_Book_fillHeldList_12) (by kernel_rfl) ?_
    refine wpE_seq (x := c_towpathlaw01_Book_fillHeldList_7) (y := c_towpathlaw01_Book_fillHeldList_9) (by kernel_rfl) ?_
    refine wpE_region (id := 1) (ops := r_towpathlaw01_Book_fillHeldList_7) (by kernel_rfl) ?_
    refine reg_run [.plain, .plain] 2 [(0, [], Value.pointer b_), (2, [], Value.int .i64 i), (5, [], Value.int .i64 i), (6, [], Value.pointer b_)] (by kernel_rfl) (by kernel_rfl) ?_
    obtain ⟨hp_3, h⟩ := h
    refine reg_conv [(0, [], Value.pointer b_), (2, [], Value.int .i64 i), (5, [], Value.int .i64 i), (6, [], Value.pointer (some ⟨(pblk b_), (poff b_), none⟩))] (congrArg (fun pp => ([(0, [], Value.pointer b_), (2, [], Value.int .i64 i), (5, [], Value.int .i64 i), (6, [], Value.pointer pp)] : GEnv)) hp_3) ?_
    refine reg_run [.plain] 3 [(0, [], Value.pointer b_), (2, [], Value.int .i64 i), (5, [], Value.int .i64 i), (6, [], Value.pointer (some ⟨(pblk b_), (poff b_), none⟩)), (7, [], Value.pointer (some ⟨(pblk b_), (poff b_), none⟩))] (by kernel_rfl) (by kernel_rfl) ?_
    refine reg_run [.plain] 4 [(0, [], Value.pointer b_), (2, [], Value.int .i64 i), (5, [], Value.int .i64 i), (8, [], Value.pointer (some ⟨(pblk b_), (poff b_) + 9, none⟩))] (by kernel_rfl) (by kernel_rfl) ?_
    obtain ⟨v9, hc, h⟩ := h
    refine reg_load1 (t := 39) (a := (Go.Operand.tmp 8)) (b := (pblk b_)) (o := ((poff b_) + 9)) (ty := 39) (dst := some 9) (by kernel_rfl) (by kernel_rfl) (by kernel_rfl) hc ?_
    refine reg_run [.plain, .plain] 7 [(0, [], Value.pointer b_), (2, [], Value.int .i64 i), (11, [], Value.bool (decide (i < ((v9.len : Nat) : Int))))] (by kernel_rfl) (by kernel_rfl) ?_
    refine reg_end [(0, Value.pointer b_), (2, Value.int .i64 i), (11, Value.bool (decide (i < ((v9.len : Nat) : Int))))] (by kernel_rfl) (by kernel_rfl) ?_
    change WpE _ _ c_towpathlaw01_Book_fillHeldList_9 _ _ _
    refine wpE_cond (o := (Operand.tmp 11)) (b := (decide (i < ((v9.len : Nat) : Int)))) (x := c_towpathlaw01_Book_fillHeldList_10) (y := c_towpathlaw01_Book_fillHeldList_11) (by kernel_rfl) (by kernel_rfl) (fun hb => ?_) (fun hb => ?_)
    · replace h := h.1 hb
      exact h.elim
    · replace h := h.2 hb
      refine wpE_exit (id := 0) (by kernel_rfl) ?_
      repeat (first | refine seqQ_exit ?_ | refine loopQ_exit ?_ | refine cutQ_exit ?_ | refine blockQ_hit ?_ | refine blockQ_miss (by kernel_rfl) ?_)
      refine retQ_normal ?_
      repeat (first | refine seqQ_ret ?_ | refine blockQ_ret ?_ | refine loopQ_ret ?_ | refine cutQ_ret ?_)
      exact retT (rs := []) (vs := []) (by kernel_rfl) (trivial) (by kernel_rfl) ⟨rfl, h⟩
  · rintro e w' ⟨v, rfl, rfl, h⟩; exact ⟨rfl, h⟩

/-! ### (*towpath/towpathlaw01.Book).fillEvent (function 42) -/
noncomputable def c_towpathlaw01_Book_fillEvent_0 : Code := (Tryz.f42.body).getD Code.skip
noncomputable def c_towpathlaw01_Book_fillEvent_1 : Code := Code.l c_towpathlaw01_Book_fillEvent_0
noncomputable def r_towpathlaw01_Book_fillEvent_1 : Array Oper := Code.ops c_towpathlaw01_Book_fillEvent_1
noncomputable def c_towpathlaw01_Book_fillEvent_3 : Code := Code.r c_towpathlaw01_Book_fillEvent_0
noncomputable def c_towpathlaw01_Book_fillEvent_4 : Code := Code.l c_towpathlaw01_Book_fillEvent_3
noncomputable def c_towpathlaw01_Book_fillEvent_5 : Code := Code.l c_towpathlaw01_Book_fillEvent_4
noncomputable def c_towpathlaw01_Book_fillEvent_6 : Code := Code.l c_towpathlaw01_Book_fillEvent_5
noncomputable def c_towpathlaw01_Book_fillEvent_7 : Code := Code.l c_towpathlaw01_Book_fillEvent_6
noncomputable def r_towpathlaw01_Book_fillEvent_7 : Array Oper := Code.ops c_towpathlaw01_Book_fillEvent_7
noncomputable def c_towpathlaw01_Book_fillEvent_9 : Code := Code.r c_towpathlaw01_Book_fillEvent_6
noncomputable def c_towpathlaw01_Book_fillEvent_10 : Code := Code.l c_towpathlaw01_Book_fillEvent_9
noncomputable def c_towpathlaw01_Book_fillEvent_11 : Code := Code.r c_towpathlaw01_Book_fillEvent_9
noncomputable def c_towpathlaw01_Book_fillEvent_12 : Code := Code.r c_towpathlaw01_Book_fillEvent_5
noncomputable def c_towpathlaw01_Book_fillEvent_13 : Code := Code.l c_towpathlaw01_Book_fillEvent_12
noncomputable def c_towpathlaw01_Book_fillEvent_14 : Code := Code.l c_towpathlaw01_Book_fillEvent_13
noncomputable def c_towpathlaw01_Book_fillEvent_15 : Code := Code.l c_towpathlaw01_Book_fillEvent_14
noncomputable def r_towpathlaw01_Book_fillEvent_15 : Array Oper := Code.ops c_towpathlaw01_Book_fillEvent_15
noncomputable def c_towpathlaw01_Book_fillEvent_17 : Code := Code.r c_towpathlaw01_Book_fillEvent_14
noncomputable def c_towpathlaw01_Book_fillEvent_18 : Code := Code.l c_towpathlaw01_Book_fillEvent_17
noncomputable def r_towpathlaw01_Book_fillEvent_18 : Array Oper := Code.ops c_towpathlaw01_Book_fillEvent_18
noncomputable def c_towpathlaw01_Book_fillEvent_20 : Code := Code.r c_towpathlaw01_Book_fillEvent_17
noncomputable def c_towpathlaw01_Book_fillEvent_21 : Code := Code.l c_towpathlaw01_Book_fillEvent_20
noncomputable def c_towpathlaw01_Book_fillEvent_22 : Code := Code.l c_towpathlaw01_Book_fillEvent_21
noncomputable def c_towpathlaw01_Book_fillEvent_23 : Code := Code.l c_towpathlaw01_Book_fillEvent_22
noncomputable def c_towpathlaw01_Book_fillEvent_24 : Code := Code.l c_towpathlaw01_Book_fillEvent_23
noncomputable def r_towpathlaw01_Book_fillEvent_24 : Array Oper := Code.ops c_towpathlaw01_Book_fillEvent_24
noncomputable def c_towpathlaw01_Book_fillEvent_26 : Code := Code.r c_towpathlaw01_Book_fillEvent_23
noncomputable def c_towpathlaw01_Book_fillEvent_27 : Code := Code.l c_towpathlaw01_Book_fillEvent_26
noncomputable def c_towpathlaw01_Book_fillEvent_28 : Code := Code.r c_towpathlaw01_Book_fillEvent_26
noncomputable def c_towpathlaw01_Book_fillEvent_29 : Code := Code.r c_towpathlaw01_Book_fillEvent_22
noncomputable def c_towpathlaw01_Book_fillEvent_30 : Code := Code.l c_towpathlaw01_Book_fillEvent_29
noncomputable def c_towpathlaw01_Book_fillEvent_31 : Code := Code.l c_towpathlaw01_Book_fillEvent_30
noncomputable def r_towpathlaw01_Book_fillEvent_31 : Array Oper := Code.ops c_towpathlaw01_Book_fillEvent_31
noncomputable def c_towpathlaw01_Book_fillEvent_33 : Code := Code.r c_towpathlaw01_Book_fillEvent_29
noncomputable def r_towpathlaw01_Book_fillEvent_33 : Array Oper := Code.ops c_towpathlaw01_Book_fillEvent_33
noncomputable def c_towpathlaw01_Book_fillEvent_35 : Code := Code.r c_towpathlaw01_Book_fillEvent_12
noncomputable def r_towpathlaw01_Book_fillEvent_35 : Array Oper := Code.ops c_towpathlaw01_Book_fillEvent_35

set_option maxRecDepth 100000 in
set_option maxHeartbeats 4000000 in
theorem S_towpathlaw01_Book_fillEvent {b_ : Option Addr} {w : World} {R : World → Prop} (h : F_towpathlaw01_Book_fillEvent b_ R w) : C_towpathlaw01_Book_fillEvent b_ w R := by
  unfold F_towpathlaw01_Book_fillEvent at h
  unfold C_towpathlaw01_Book_fillEvent
  refine Calls.mono (calls_of_wpE (args := [Value.pointer b_]) (R := fun v w' => v = Value.tuple #[] ∧ R w') Tryz.func42 (c := c_towpathlaw01_Book_fillEvent_0) (by kernel_rfl) 35 (by kernel_rfl) (by kernel_rfl) [(0, Value.pointer b_)] (by kernel_rfl) ?_) ?_
  · refine wpE_seq (x := c_towpathlaw01_Book_fillEvent_1) (y := c_towpathlaw01_Book_fillEvent_3) (by kernel_rfl) ?_
    refine wpE_region (id := 0) (ops := r_towpathlaw01_Book_fillEvent_1) (by kernel_rfl) ?_
    refine reg_run [.plain] 1 [(0, [], Value.pointer b_), (2, [], Value.int .i64 0)] (by kernel_rfl) (by kernel_rfl) ?_
    refine reg_end [(0, Value.pointer b_), (2, Value.int .i64 0)] (by kernel_rfl) (by kernel_rfl) ?_
    change WpE _ _ c_towpathlaw01_Book_fillEvent_3 _ _ _
    refine wpE_block (id := 0) (x := c_towpathlaw01_Book_fillEvent_4) (by kernel_rfl) ?_
    obtain ⟨I, μ, h0, hr⟩ := h
    refine wpE_loop (x := c_towpathlaw01_Book_fillEvent_5) (by kernel_rfl) (fun m l w => ∃ (i : Int), l = [(0, Value.pointer b_), (2, Value.int .i64 i)] ∧ I i w ∧ μ i w = m) (l' := [(0, Value.pointer b_), (2, Value.int .i64 0)]) (Sub.mk (by kernel_rfl)) ⟨0, rfl, h0, rfl⟩ ?_
    rintro _ _ w1 ⟨i, rfl, hI, rfl⟩
    obtain ⟨again_, again__h, h⟩ : ∃ again_ : Int → World → Prop, (∀ i' w', again_ i' w' → I i' w' ∧ μ i' w' < μ i w1) ∧ F_towpathlaw01_Book_fillEvent_L0 b_ R again_ i w1 := ⟨_, fun _ _ h => h, hr i w1 hI⟩
    clear h0 hI
    unfold F_towpathlaw01_Book_fillEvent_L0 at h
    refine wpE_seq (x := c_towpathlaw01_Book_fillEvent_6) (y := c_towpathlaw01_Book_fillEvent_12) (by kernel_rfl) ?_
    refine wpE_seq (x := c_towpathlaw01_Book_fillEvent_7) (y := c_towpathlaw01_Book_fillEvent_9) (by kernel_rfl) ?_
    refine wpE_region (id := 1) (ops := r_towpathlaw01_Book_fillEvent_7) (by kernel_rfl) ?_
    refine reg_run [.plain, .plain] 2 [(0, [], Value.pointer b_), (2, [], Value.int .i64 i), (5, [], Value.int .i64 i), (6, [], Value.pointer b_)] (by kernel_rfl) (by kernel_rfl) ?_
    obtain ⟨hp_3, h⟩ := h
    refine reg_conv [(0, [], Value.pointer b_), (2, [], Value.int .i64 i), (5, [], Value.int .i64 i), (6, [], Value.pointer (some ⟨(pblk b_), (poff b_), none⟩))] (congrArg (fun pp => ([(0, [], Value.pointer b_), (2, [], Value.int .i64 i), (5, [], Value.int .i64 i), (6, [], Value.pointer pp)] : GEnv)) hp_3) ?_
    refine reg_run [.plain] 3 [(0, [], Value.pointer b_), (2, [], Value.int .i64 i), (5, [], Value.int .i64 i), (6, [], Value.pointer (some ⟨(pblk b_), (poff b_), none⟩)), (7, [], Value.pointer (some ⟨(pblk b_), (poff b_), none⟩))] (by kernel_rfl) (by kernel_rfl) ?_
    refine reg_run [.plain] 4 [(0, [], Value.pointer b_), (2, [], Value.int .i64 i), (5, [], Value.int .i64 i), (8, [], Value.pointer (some ⟨(pblk b_), (poff b_) + 10, none⟩))] (by kernel_rfl) (by kernel_rfl) ?_
    obtain ⟨v9, hc, h⟩ := h
    refine reg_load1 (t := 40) (a := (Go.Operand.tmp 8)) (b := (pblk b_)) (o := ((poff b_) + 10)) (ty := 40) (dst := some 9) (by kernel_rfl) (by kernel_rfl) (by kernel_rfl) hc ?_
    refine reg_run [.plain, .plain] 7 [(0, [], Value.pointer b_), (2, [], Value.int .i64 i), (11, [], Value.bool (decide (i < ((v9.len : Nat) : Int))))] (by kernel_rfl) (by kernel_rfl) ?_
    refine reg_end [(0, Value.pointer b_), (2, Value.int .i64 i), (11, Value.bool (decide (i < ((v9.len : Nat) : Int))))] (by kernel_rfl) (by kernel_rfl) ?_
    change WpE _ _ c_towpathlaw01_Book_fillEvent_9 _ _ _
    refine wpE_cond (o := (Operand.tmp 11)) (b := (decide (i < ((v9.len : Nat) : Int)))) (x := c_towpathlaw01_Book_fillEvent_10) (y := c_towpathlaw01_Book_fillEvent_11) (by kernel_rfl) (by kernel_rfl) (fun hb => ?_) (fun hb => ?_)
    · replace h := h.1 hb
      exact h.elim
    · replace h := h.2 hb
      refine wpE_exit (id := 0) (by kernel_rfl) ?_
      repeat (first | refine seqQ_exit ?_ | refine loopQ_exit ?_ | refine cutQ_exit ?_ | refine blockQ_hit ?_ | refine blockQ_miss (by kernel_rfl) ?_)
      refine retQ_normal ?_
      repeat (first | refine seqQ_ret ?_ | refine blockQ_ret ?_ | refine loopQ_ret ?_ | refine cutQ_ret ?_)
      exact retT (rs := []) (vs := []) (by kernel_rfl) (trivial) (by kernel_rfl) ⟨rfl, h⟩
  · rintro e w' ⟨v, rfl, rfl, h⟩; exact ⟨rfl, h⟩

/-! ### (*towpath/towpathlaw01.Book).fillAnswer (function 43) -/
noncomputable def c_towpathlaw01_Book_fillAnswer_0 : Code := (Tryz.f43.body).getD Code.skip
noncomputable def c_towpathlaw01_Book_fillAnswer_1 : Code := Code.l c_towpathlaw01_Book_fillAnswer_0
noncomputable def r_towpathlaw01_Book_fillAnswer_1 : Array Oper := Code.ops c_towpathlaw01_Book_fillAnswer_1
noncomputable def c_towpathlaw01_Book_fillAnswer_3 : Code := Code.r c_towpathlaw01_Book_fillAnswer_0
noncomputable def c_towpathlaw01_Book_fillAnswer_4 : Code := Code.l c_towpathlaw01_Book_fillAnswer_3
noncomputable def c_towpathlaw01_Book_fillAnswer_5 : Code := Code.l c_towpathlaw01_Book_fillAnswer_4
noncomputable def c_towpathlaw01_Book_fillAnswer_6 : Code := Code.l c_towpathlaw01_Book_fillAnswer_5
noncomputable def c_towpathlaw01_Book_fillAnswer_7 : Code := Code.l c_towpathlaw01_Book_fillAnswer_6
noncomputable def r_towpathlaw01_Book_fillAnswer_7 : Array Oper := Code.ops c_towpathlaw01_Book_fillAnswer_7
noncomputable def c_towpathlaw01_Book_fillAnswer_9 : Code := Code.r c_towpathlaw01_Book_fillAnswer_6
noncomputable def c_towpathlaw01_Book_fillAnswer_10 : Code := Code.l c_towpathlaw01_Book_fillAnswer_9
noncomputable def c_towpathlaw01_Book_fillAnswer_11 : Code := Code.r c_towpathlaw01_Book_fillAnswer_9
noncomputable def c_towpathlaw01_Book_fillAnswer_12 : Code := Code.r c_towpathlaw01_Book_fillAnswer_5
noncomputable def c_towpathlaw01_Book_fillAnswer_13 : Code := Code.l c_towpathlaw01_Book_fillAnswer_12
noncomputable def c_towpathlaw01_Book_fillAnswer_14 : Code := Code.l c_towpathlaw01_Book_fillAnswer_13
noncomputable def c_towpathlaw01_Book_fillAnswer_15 : Code := Code.l c_towpathlaw01_Book_fillAnswer_14
noncomputable def r_towpathlaw01_Book_fillAnswer_15 : Array Oper := Code.ops c_towpathlaw01_Book_fillAnswer_15
noncomputable def c_towpathlaw01_Book_fillAnswer_17 : Code := Code.r c_towpathlaw01_Book_fillAnswer_14
noncomputable def c_towpathlaw01_Book_fillAnswer_18 : Code := Code.l c_towpathlaw01_Book_fillAnswer_17
noncomputable def r_towpathlaw01_Book_fillAnswer_18 : Array Oper := Code.ops c_towpathlaw01_Book_fillAnswer_18
noncomputable def c_towpathlaw01_Book_fillAnswer_20 : Code := Code.r c_towpathlaw01_Book_fillAnswer_17
noncomputable def c_towpathlaw01_Book_fillAnswer_21 : Code := Code.l c_towpathlaw01_Book_fillAnswer_20
noncomputable def c_towpathlaw01_Book_fillAnswer_22 : Code := Code.l c_towpathlaw01_Book_fillAnswer_21
noncomputable def c_towpathlaw01_Book_fillAnswer_23 : Code := Code.l c_towpathlaw01_Book_fillAnswer_22
noncomputable def c_towpathlaw01_Book_fillAnswer_24 : Code := Code.l c_towpathlaw01_Book_fillAnswer_23
noncomputable def r_towpathlaw01_Book_fillAnswer_24 : Array Oper := Code.ops c_towpathlaw01_Book_fillAnswer_24
noncomputable def c_towpathlaw01_Book_fillAnswer_26 : Code := Code.r c_towpathlaw01_Book_fillAnswer_23
noncomputable def c_towpathlaw01_Book_fillAnswer_27 : Code := Code.l c_towpathlaw01_Book_fillAnswer_26
noncomputable def c_towpathlaw01_Book_fillAnswer_28 : Code := Code.r c_towpathlaw01_Book_fillAnswer_26
noncomputable def c_towpathlaw01_Book_fillAnswer_29 : Code := Code.r c_towpathlaw01_Book_fillAnswer_22
noncomputable def c_towpathlaw01_Book_fillAnswer_30 : Code := Code.l c_towpathlaw01_Book_fillAnswer_29
noncomputable def c_towpathlaw01_Book_fillAnswer_31 : Code := Code.l c_towpathlaw01_Book_fillAnswer_30
noncomputable def r_towpathlaw01_Book_fillAnswer_31 : Array Oper := Code.ops c_towpathlaw01_Book_fillAnswer_31
noncomputable def c_towpathlaw01_Book_fillAnswer_33 : Code := Code.r c_towpathlaw01_Book_fillAnswer_29
noncomputable def r_towpathlaw01_Book_fillAnswer_33 : Array Oper := Code.ops c_towpathlaw01_Book_fillAnswer_33
noncomputable def c_towpathlaw01_Book_fillAnswer_35 : Code := Code.r c_towpathlaw01_Book_fillAnswer_12
noncomputable def r_towpathlaw01_Book_fillAnswer_35 : Array Oper := Code.ops c_towpathlaw01_Book_fillAnswer_35

set_option maxRecDepth 100000 in
set_option maxHeartbeats 4000000 in
theorem S_towpathlaw01_Book_fillAnswer {b_ : Option Addr} {w : World} {R : World → Prop} (h : F_towpathlaw01_Book_fillAnswer b_ R w) : C_towpathlaw01_Book_fillAnswer b_ w R := by
  unfold F_towpathlaw01_Book_fillAnswer at h
  unfold C_towpathlaw01_Book_fillAnswer
  refine Calls.mono (calls_of_wpE (args := [Value.pointer b_]) (R := fun v w' => v = Value.tuple #[] ∧ R w') Tryz.func43 (c := c_towpathlaw01_Book_fillAnswer_0) (by kernel_rfl) 35 (by kernel_rfl) (by kernel_rfl) [(0, Value.pointer b_)] (by kernel_rfl) ?_) ?_
  · refine wpE_seq (x := c_towpathlaw01_Book_fillAnswer_1) (y := c_towpathlaw01_Book_fillAnswer_3) (by kernel_rfl) ?_
    refine wpE_region (id := 0) (ops := r_towpathlaw01_Book_fillAnswer_1) (by kernel_rfl) ?_
    refine reg_run [.plain] 1 [(0, [], Value.pointer b_), (2, [], Value.int .i64 0)] (by kernel_rfl) (by kernel_rfl) ?_
    refine reg_end [(0, Value.pointer b_), (2, Value.int .i64 0)] (by kernel_rfl) (by kernel_rfl) ?_
    change WpE _ _ c_towpathlaw01_Book_fillAnswer_3 _ _ _
    refine wpE_block (id := 0) (x := c_towpathlaw01_Book_fillAnswer_4) (by kernel_rfl) ?_
    obtain ⟨I, μ, h0, hr⟩ := h
    refine wpE_loop (x := c_towpathlaw01_Book_fillAnswer_5) (by kernel_rfl) (fun m l w => ∃ (i : Int), l = [(0, Value.pointer b_), (2, Value.int .i64 i)] ∧ I i w ∧ μ i w = m) (l' := [(0, Value.pointer b_), (2, Value.int .i64 0)]) (Sub.mk (by kernel_rfl)) ⟨0, rfl, h0, rfl⟩ ?_
    rintro _ _ w1 ⟨i, rfl, hI, rfl⟩
    obtain ⟨again_, again__h, h⟩ : ∃ again_ : Int → World → Prop, (∀ i' w', again_ i' w' → I i' w' ∧ μ i' w' < μ i w1) ∧ F_towpathlaw01_Book_fillAnswer_L0 b_ R again_ i w1 := ⟨_, fun _ _ h => h, hr i w1 hI⟩
    clear h0 hI
    unfold F_towpathlaw01_Book_fillAnswer_L0 at h
    refine wpE_seq (x := c_towpathlaw01_Book_fillAnswer_6) (y := c_towpathlaw01_Book_fillAnswer_12) (by kernel_rfl) ?_
    refine wpE_seq (x := c_towpathlaw01_Book_fillAnswer_7) (y := c_towpathlaw01_Book_fillAnswer_9) (by kernel_rfl) ?_
    refine wpE_region (id := 1) (ops := r_towpathlaw01_Book_fillAnswer_7) (by kernel_rfl) ?_
    refine reg_run [.plain, .plain] 2 [(0, [], Value.pointer b_), (2, [], Value.int .i64 i), (5, [], Value.int .i64 i), (6, [], Value.pointer b_)] (by kernel_rfl) (by kernel_rfl) ?_
    obtain ⟨hp_3, h⟩ := h
    refine reg_conv [(0, [], Value.pointer b_), (2, [], Value.int .i64 i), (5, [], Value.int .i64 i), (6, [], Value.pointer (some ⟨(pblk b_), (poff b_), none⟩))] (congrArg (fun pp => ([(0, [], Value.pointer b_), (2, [], Value.int .i64 i), (5, [], Value.int .i64 i), (6, [], Value.pointer pp)] : GEnv)) hp_3) ?_
    refine reg_run [.plain] 3 [(0, [], Value.pointer b_), (2, [], Value.int .i64 i), (5, [], Value.int .i64 i), (6, [], Value.pointer (some ⟨(pblk b_), (poff b_), none⟩)), (7, [], Value.pointer (some ⟨(pblk b_), (poff b_), none⟩))] (by kernel_rfl) (by kernel_rfl) ?_
    refine reg_run [.plain] 4 [(0, [], Value.pointer b_), (2, [], Value.int .i64 i), (5, [], Value.int .i64 i), (8, [], Value.pointer (some ⟨(pblk b_), (poff b_) + 11, none⟩))] (by kernel_rfl) (by kernel_rfl) ?_
    obtain ⟨v9, hc, h⟩ := h
    refine reg_load1 (t := 41) (a := (Go.Operand.tmp 8)) (b := (pblk b_)) (o := ((poff b_) + 11)) (ty := 41) (dst := some 9) (by kernel_rfl) (by kernel_rfl) (by kernel_rfl) hc ?_
    refine reg_run [.plain, .plain] 7 [(0, [], Value.pointer b_), (2, [], Value.int .i64 i), (11, [], Value.bool (decide (i < ((v9.len : Nat) : Int))))] (by kernel_rfl) (by kernel_rfl) ?_
    refine reg_end [(0, Value.pointer b_), (2, Value.int .i64 i), (11, Value.bool (decide (i < ((v9.len : Nat) : Int))))] (by kernel_rfl) (by kernel_rfl) ?_
    change WpE _ _ c_towpathlaw01_Book_fillAnswer_9 _ _ _
    refine wpE_cond (o := (Operand.tmp 11)) (b := (decide (i < ((v9.len : Nat) : Int)))) (x := c_towpathlaw01_Book_fillAnswer_10) (y := c_towpathlaw01_Book_fillAnswer_11) (by kernel_rfl) (by kernel_rfl) (fun hb => ?_) (fun hb => ?_)
    · replace h := h.1 hb
      exact h.elim
    · replace h := h.2 hb
      refine wpE_exit (id := 0) (by kernel_rfl) ?_
      repeat (first | refine seqQ_exit ?_ | refine loopQ_exit ?_ | refine cutQ_exit ?_ | refine blockQ_hit ?_ | refine blockQ_miss (by kernel_rfl) ?_)
      refine retQ_normal ?_
      repeat (first | refine seqQ_ret ?_ | refine blockQ_ret ?_ | refine loopQ_ret ?_ | refine cutQ_ret ?_)
      exact retT (rs := []) (vs := []) (by kernel_rfl) (trivial) (by kernel_rfl) ⟨rfl, h⟩
  · rintro e w' ⟨v, rfl, rfl, h⟩; exact ⟨rfl, h⟩

/-! ### (*towpath/towpathlaw01.Book).growByte (function 44) -/
noncomputable def c_towpathlaw01_Book_growByte_0 : Code := (Tryz.f44.body).getD Code.skip
noncomputable def c_towpathlaw01_Book_growByte_1 : Code := Code.l c_towpathlaw01_Book_growByte_0
noncomputable def r_towpathlaw01_Book_growByte_1 : Array Oper := Code.ops c_towpathlaw01_Book_growByte_1
noncomputable def c_towpathlaw01_Book_growByte_3 : Code := Code.r c_towpathlaw01_Book_growByte_0
noncomputable def c_towpathlaw01_Book_growByte_4 : Code := Code.l c_towpathlaw01_Book_growByte_3
noncomputable def c_towpathlaw01_Book_growByte_5 : Code := Code.l c_towpathlaw01_Book_growByte_4
noncomputable def c_towpathlaw01_Book_growByte_6 : Code := Code.l c_towpathlaw01_Book_growByte_5
noncomputable def c_towpathlaw01_Book_growByte_7 : Code := Code.l c_towpathlaw01_Book_growByte_6
noncomputable def r_towpathlaw01_Book_growByte_7 : Array Oper := Code.ops c_towpathlaw01_Book_growByte_7
noncomputable def c_towpathlaw01_Book_growByte_9 : Code := Code.r c_towpathlaw01_Book_growByte_6
noncomputable def c_towpathlaw01_Book_growByte_10 : Code := Code.l c_towpathlaw01_Book_growByte_9
noncomputable def c_towpathlaw01_Book_growByte_11 : Code := Code.r c_towpathlaw01_Book_growByte_9
noncomputable def c_towpathlaw01_Book_growByte_12 : Code := Code.r c_towpathlaw01_Book_growByte_5
noncomputable def c_towpathlaw01_Book_growByte_13 : Code := Code.l c_towpathlaw01_Book_growByte_12
noncomputable def c_towpathlaw01_Book_growByte_14 : Code := Code.l c_towpathlaw01_Book_growByte_13
noncomputable def c_towpathlaw01_Book_growByte_15 : Code := Code.l c_towpathlaw01_Book_growByte_14
noncomputable def r_towpathlaw01_Book_growByte_15 : Array Oper := Code.ops c_towpathlaw01_Book_growByte_15
noncomputable def c_towpathlaw01_Book_growByte_17 : Code := Code.r c_towpathlaw01_Book_growByte_14
noncomputable def c_towpathlaw01_Book_growByte_18 : Code := Code.l c_towpathlaw01_Book_growByte_17
noncomputable def r_towpathlaw01_Book_growByte_18 : Array Oper := Code.ops c_towpathlaw01_Book_growByte_18
noncomputable def c_towpathlaw01_Book_growByte_20 : Code := Code.r c_towpathlaw01_Book_growByte_17
noncomputable def c_towpathlaw01_Book_growByte_21 : Code := Code.l c_towpathlaw01_Book_growByte_20
noncomputable def c_towpathlaw01_Book_growByte_22 : Code := Code.l c_towpathlaw01_Book_growByte_21
noncomputable def r_towpathlaw01_Book_growByte_22 : Array Oper := Code.ops c_towpathlaw01_Book_growByte_22
noncomputable def c_towpathlaw01_Book_growByte_24 : Code := Code.r c_towpathlaw01_Book_growByte_21
noncomputable def c_towpathlaw01_Book_growByte_25 : Code := Code.l c_towpathlaw01_Book_growByte_24
noncomputable def c_towpathlaw01_Book_growByte_26 : Code := Code.l c_towpathlaw01_Book_growByte_25
noncomputable def c_towpathlaw01_Book_growByte_27 : Code := Code.l c_towpathlaw01_Book_growByte_26
noncomputable def c_towpathlaw01_Book_growByte_28 : Code := Code.l c_towpathlaw01_Book_growByte_27
noncomputable def r_towpathlaw01_Book_growByte_28 : Array Oper := Code.ops c_towpathlaw01_Book_growByte_28
noncomputable def c_towpathlaw01_Book_growByte_30 : Code := Code.r c_towpathlaw01_Book_growByte_27
noncomputable def c_towpathlaw01_Book_growByte_31 : Code := Code.l c_towpathlaw01_Book_growByte_30
noncomputable def c_towpathlaw01_Book_growByte_32 : Code := Code.r c_towpathlaw01_Book_growByte_30
noncomputable def c_towpathlaw01_Book_growByte_33 : Code := Code.r c_towpathlaw01_Book_growByte_26
noncomputable def c_towpathlaw01_Book_growByte_34 : Code := Code.l c_towpathlaw01_Book_growByte_33
noncomputable def c_towpathlaw01_Book_growByte_35 : Code := Code.l c_towpathlaw01_Book_growByte_34
noncomputable def r_towpathlaw01_Book_growByte_35 : Array Oper := Code.ops c_towpathlaw01_Book_growByte_35
noncomputable def c_towpathlaw01_Book_growByte_37 : Code := Code.r c_towpathlaw01_Book_growByte_33
noncomputable def r_towpathlaw01_Book_growByte_37 : Array Oper := Code.ops c_towpathlaw01_Book_growByte_37
noncomputable def c_towpathlaw01_Book_growByte_39 : Code := Code.r c_towpathlaw01_Book_growByte_20
noncomputable def r_towpathlaw01_Book_growByte_39 : Array Oper := Code.ops c_towpathlaw01_Book_growByte_39
noncomputable def c_towpathlaw01_Book_growByte_41 : Code := Code.r c_towpathlaw01_Book_growByte_12
noncomputable def r_towpathlaw01_Book_growByte_41 : Array Oper := Code.ops c_towpathlaw01_Book_growByte_41

set_option maxRecDepth 100000 in
set_option maxHeartbeats 4000000 in
theorem S_towpathlaw01_Book_growByte {b_ : Option Addr} {w : World} {R : World → Prop} (h : F_towpathlaw01_Book_growByte b_ R w) : C_towpathlaw01_Book_growByte b_ w R := by
  unfold F_towpathlaw01_Book_growByte at h
  unfold C_towpathlaw01_Book_growByte
  refine Calls.mono (calls_of_wpE (args := [Value.pointer b_]) (R := fun v w' => v = Value.tuple #[] ∧ R w') Tryz.func44 (c := c_towpathlaw01_Book_growByte_0) (by kernel_rfl) 42 (by kernel_rfl) (by kernel_rfl) [(0, Value.pointer b_)] (by kernel_rfl) ?_) ?_
  · refine wpE_seq (x := c_towpathlaw01_Book_growByte_1) (y := c_towpathlaw01_Book_growByte_3) (by kernel_rfl) ?_
    refine wpE_region (id := 0) (ops := r_towpathlaw01_Book_growByte_1) (by kernel_rfl) ?_
    refine reg_run [.plain] 1 [(0, [], Value.pointer b_), (2, [], Value.int .i64 0)] (by kernel_rfl) (by kernel_rfl) ?_
    refine reg_end [(0, Value.pointer b_), (2, Value.int .i64 0)] (by kernel_rfl) (by kernel_rfl) ?_
    change WpE _ _ c_towpathlaw01_Book_growByte_3 _ _ _
    refine wpE_block (id := 0) (x := c_towpathlaw01_Book_growByte_4) (by kernel_rfl) ?_
    obtain ⟨I, μ, h0, hr⟩ := h
    refine wpE_loop (x := c_towpathlaw01_Book_growByte_5) (by kernel_rfl) (fun m l w => ∃ (i : Int), l = [(0, Value.pointer b_), (2, Value.int .i64 i)] ∧ I i w ∧ μ i w = m) (l' := [(0, Value.pointer b_), (2, Value.int .i64 0)]) (Sub.mk (by kernel_rfl)) ⟨0, rfl, h0, rfl⟩ ?_
    rintro _ _ w1 ⟨i, rfl, hI, rfl⟩
    obtain ⟨again_, again__h, h⟩ : ∃ again_ : Int → World → Prop, (∀ i' w', again_ i' w' → I i' w' ∧ μ i' w' < μ i w1) ∧ F_towpathlaw01_Book_growByte_L0 b_ R again_ i w1 := ⟨_, fun _ _ h => h, hr i w1 hI⟩
    clear h0 hI
    unfold F_towpathlaw01_Book_growByte_L0 at h
    refine wpE_seq (x := c_towpathlaw01_Book_growByte_6) (y := c_towpathlaw01_Book_growByte_12) (by kernel_rfl) ?_
    refine wpE_seq (x := c_towpathlaw01_Book_growByte_7) (y := c_towpathlaw01_Book_growByte_9) (by kernel_rfl) ?_
    refine wpE_region (id := 1) (ops := r_towpathlaw01_Book_growByte_7) (by kernel_rfl) ?_
    refine reg_run [.plain, .plain] 2 [(0, [], Value.pointer b_), (2, [], Value.int .i64 i), (6, [], Value.int .i64 i), (7, [], Value.pointer b_)] (by kernel_rfl) (by kernel_rfl) ?_
    obtain ⟨hp_3, h⟩ := h
    refine reg_conv [(0, [], Value.pointer b_), (2, [], Value.int .i64 i), (6, [], Value.int .i64 i), (7, [], Value.pointer (some ⟨(pblk b_), (poff b_), none⟩))] (congrArg (fun pp => ([(0, [], Value.pointer b_), (2, [], Value.int .i64 i), (6, [], Value.int .i64 i), (7, [], Value.pointer pp)] : GEnv)) hp_3) ?_
    refine reg_run [.plain] 3 [(0, [], Value.pointer b_), (2, [], Value.int .i64 i), (6, [], Value.int .i64 i), (7, [], Value.pointer (some ⟨(pblk b_), (poff b_), none⟩)), (8, [], Value.pointer (some ⟨(pblk b_), (poff b_), none⟩))] (by kernel_rfl) (by kernel_rfl) ?_
    refine reg_run [.plain] 4 [(0, [], Value.pointer b_), (2, [], Value.int .i64 i), (6, [], Value.int .i64 i), (9, [], Value.pointer (some ⟨(pblk b_), (poff b_) + 1, none⟩))] (by kernel_rfl) (by kernel_rfl) ?_
    obtain ⟨v10, hc, h⟩ := h
    refine reg_load1 (t := 31) (a := (Go.Operand.tmp 9)) (b := (pblk b_)) (o := ((poff b_) + 1)) (ty := 31) (dst := some 10) (by kernel_rfl) (by kernel_rfl) (by kernel_rfl) hc ?_
    refine reg_run [.plain, .plain] 7 [(0, [], Value.pointer b_), (2, [], Value.int .i64 i), (12, [], Value.bool (decide (i < ((v10.len : Nat) : Int))))] (by kernel_rfl) (by kernel_rfl) ?_
    refine reg_end [(0, Value.pointer b_), (2, Value.int .i64 i), (12, Value.bool (decide (i < ((v10.len : Nat) : Int))))] (by kernel_rfl) (by kernel_rfl) ?_
    change WpE _ _ c_towpathlaw01_Book_growByte_9 _ _ _
    refine wpE_cond (o := (Operand.tmp 12)) (b := (decide (i < ((v10.len : Nat) : Int)))) (x := c_towpathlaw01_Book_growByte_10) (y := c_towpathlaw01_Book_growByte_11) (by kernel_rfl) (by kernel_rfl) (fun hb => ?_) (fun hb => ?_)
    · replace h := h.1 hb
      refine wpE_skip (by kernel_rfl) ?_
      change WpE _ _ c_towpathlaw01_Book_growByte_12 _ _ _
      refine wpE_seq (x := c_towpathlaw01_Book_growByte_13) (y := c_towpathlaw01_Book_growByte_41) (by kernel_rfl) ?_
      refine wpE_block (id := 1) (x := c_towpathlaw01_Book_growByte_14) (by kernel_rfl) ?_
      refine wpE_seq (x := c_towpathlaw01_Book_growByte_15) (y := c_towpathlaw01_Book_growByte_17) (by kernel_rfl) ?_
      refine wpE_region (id := 3) (ops := r_towpathlaw01_Book_growByte_15) (by kernel_rfl) ?_
      refine reg_run [.plain] 1 [(0, [], Value.pointer b_), (2, [], Value.int .i64 i), (15, [], Value.pointer b_)] (by kernel_rfl) (by kernel_rfl) ?_
      obtain ⟨hp_12, h⟩ := h
      refine reg_conv [(0, [], Value.pointer b_), (2, [], Value.int .i64 i), (15, [], Value.pointer (some ⟨(pblk b_), (poff b_), none⟩))] (congrArg (fun pp => ([(0, [], Value.pointer b_), (2, [], Value.int .i64 i), (15, [], Value.pointer pp)] : GEnv)) hp_12) ?_
      refine reg_run [.plain] 2 [(0, [], Value.pointer b_), (2, [], Value.int .i64 i), (15, [], Value.pointer (some ⟨(pblk b_), (poff b_), none⟩)), (16, [], Value.pointer (some ⟨(pblk b_), (poff b_), none⟩))] (by kernel_rfl) (by kernel_rfl) ?_
      refine reg_run [.plain] 3 [(0, [], Value.pointer b_), (2, [], Value.int .i64 i), (17, [], Value.pointer (some ⟨(pblk b_), (poff b_) + 1, none⟩))] (by kernel_rfl) (by kernel_rfl) ?_
      obtain ⟨v18, hc, h⟩ := h
      refine reg_load1 (t := 31) (a := (Go.Operand.tmp 17)) (b := (pblk b_)) (o := ((poff b_) + 1)) (ty := 31) (dst := some 18) (by kernel_rfl) (by kernel_rfl) (by kernel_rfl) hc ?_
      refine reg_run [.plain] 5 [(0, [], Value.pointer b_), (2, [], Value.int .i64 i), (18, [], Value.slice v18.ptr v18.len v18.cap), (19, [], Value.int .i64 i)] (by kernel_rfl) (by kernel_rfl) ?_
      obtain ⟨hp_13, h⟩ := h
      refine reg_conv [(0, [], Value.pointer b_), (2, [], Value.int .i64 i), (18, [], Value.slice (some ⟨(pblk v18.ptr), (poff v18.ptr), none⟩) v18.len v18.cap), (19, [], Value.int .i64 i)] (congrArg (fun pp => ([(0, [], Value.pointer b_), (2, [], Value.int .i64 i), (18, [], Value.slice pp v18.len v18.cap), (19, [], Value.int .i64 i)] : GEnv)) hp_13) ?_
      obtain ⟨h0, h1, h⟩ := h
      refine reg_indexS (t := 31) (e := 67) (x := (Go.Operand.tmp 18)) (ix := (Go.Operand.tmp 19)) (b := (pblk v18.ptr)) (o := (poff v18.ptr)) (l := v18.len) (c := v18.cap) (k := .i64) (j := i) (ty := 0) (dst := some 20) (sz := 3) (by kernel_rfl) (by kernel_rfl) (by kernel_rfl) (by kernel_rfl) (by kernel_rfl) h0 h1 ?_
      refine reg_run [] 6 [(0, [], Value.pointer b_), (2, [], Value.int .i64 i), (20, [], Value.pointer (some ⟨(pblk v18.ptr), (poff v18.ptr) + i.toNat * 3, none⟩))] (by kernel_rfl) (by kernel_rfl) ?_
      obtain ⟨v21, hc, h⟩ := h
      refine reg_loadN (t := 67) (a := (Go.Operand.tmp 20)) (b := (pblk v18.ptr)) (o := ((poff v18.ptr) + i.toNat * 3)) (ty := 67) (dst := some 21) [Value.slice v21.l.ptr v21.l.len v21.l.cap, Value.slice v21.long.ptr v21.long.len v21.long.cap, Value.int .i64 v21.n] (by kernel_rfl) (by kernel_rfl) (by kernel_rfl) (k := 3) (by kernel_rfl) (by kernel_rfl) hc ?_
      refine reg_run [] 7 [(0, [], Value.pointer b_), (2, [], Value.int .i64 i), (21, [], Value.agg #[Value.slice v21.l.ptr v21.l.len v21.l.cap, Value.slice v21.long.ptr v21.long.len v21.long.cap, Value.int .i64 v21.n])] (by kernel_rfl) (by kernel_rfl) ?_
      refine reg_new (op := (Go.Op.alloc 67)) (ty := 0) (dst := some 3) (fun bb => Value.pointer (some ⟨bb, 0, none⟩)) (Obj.cells ([Value.slice none 0 0, Value.slice none 0 0, Value.int .i64 0]).toArray ty_towpathlaw01_heldByte (0, 0)) (by kernel_rfl) (by kernel_rfl) (fun b_1 w2 hb hw => ?_)
      replace h := h b_1 w2 hb hw
      clear hb hw
      refine reg_run [] 8 [(0, [], Value.pointer b_), (2, [], Value.int .i64 i), (3, [], Value.pointer (some ⟨b_1, 0, none⟩)), (21, [], Value.agg #[Value.slice v21.l.ptr v21.l.len v21.l.cap, Value.slice v21.long.ptr v21.long.len v21.long.cap, Value.int .i64 v21.n])] (by kernel_rfl) (by kernel_rfl) ?_
      obtain ⟨hc, h⟩ := h
      refine reg_store (t := 67) (a := (Go.Operand.tmp 3)) (x := (Go.Operand.tmp 21)) (b := b_1) (o := 0) (ty := 0) (dst := none) [Value.slice v21.l.ptr v21.l.len v21.l.cap, Value.slice v21.long.ptr v21.long.len v21.long.cap, Value.int .i64 v21.n] (by kernel_rfl) (by kernel_rfl) (by kernel_rfl) (k := 3) (by kernel_rfl) (by kernel_rfl) (by kernel_rfl) hc (fun w3 hw => ?_)
      replace h := h w3 hw
      clear hw
      refine reg_end [(0, Value.pointer b_), (2, Value.int .i64 i), (3, Value.pointer (some ⟨b_1, 0, none⟩))] (by kernel_rfl) (by kernel_rfl) ?_
      change WpE _ _ c_towpathlaw01_Book_growByte_17 _ _ _
      refine wpE_seq (x := c_towpathlaw01_Book_growByte_18) (y := c_towpathlaw01_Book_growByte_20) (by kernel_rfl) ?_
      refine wpE_region (id := 4) (ops := r_towpathlaw01_Book_growByte_18) (by kernel_rfl) ?_
      refine reg_run [.plain] 1 [(0, [], Value.pointer b_), (2, [], Value.int .i64 i), (3, [], Value.pointer (some ⟨b_1, 0, none⟩)), (22, [], Value.pointer (some ⟨b_1, 0, none⟩))] (by kernel_rfl) (by kernel_rfl) ?_
      obtain ⟨long, hc, h⟩ := h
      refine reg_load1 (t := 45) (a := (Go.Operand.tmp 22)) (b := b_1) (o := 0) (ty := 45) (dst := some 23) (by kernel_rfl) (by kernel_rfl) (by kernel_rfl) hc ?_
      refine reg_run [.plain] 3 [(0, [], Value.pointer b_), (2, [], Value.int .i64 i), (3, [], Value.pointer (some ⟨b_1, 0, none⟩)), (4, [], Value.slice long.ptr long.len long.cap)] (by kernel_rfl) (by kernel_rfl) ?_
      refine reg_end [(0, Value.pointer b_), (2, Value.int .i64 i), (3, Value.pointer (some ⟨b_1, 0, none⟩)), (4, Value.slice long.ptr long.len long.cap)] (by kernel_rfl) (by kernel_rfl) ?_
      change WpE _ _ c_towpathlaw01_Book_growByte_20 _ _ _
      refine wpE_seq (x := c_towpathlaw01_Book_growByte_21) (y := c_towpathlaw01_Book_growByte_39) (by kernel_rfl) ?_
      refine wpE_seq (x := c_towpathlaw01_Book_growByte_22) (y := c_towpathlaw01_Book_growByte_24) (by kernel_rfl) ?_
      refine wpE_region (id := 5) (ops := r_towpathlaw01_Book_growByte_22) (by kernel_rfl) ?_
      refine reg_run [.plain] 1 [(0, [], Value.pointer b_), (2, [], Value.int .i64 i), (3, [], Value.pointer (some ⟨b_1, 0, none⟩)), (4, [], Value.slice long.ptr long.len long.cap), (5, [], Value.int .i64 0)] (by kernel_rfl) (by kernel_rfl) ?_
      refine reg_end [(0, Value.pointer b_), (2, Value.int .i64 i), (3, Value.pointer (some ⟨b_1, 0, none⟩)), (4, Value.slice long.ptr long.len long.cap), (5, Value.int .i64 0)] (by kernel_rfl) (by kernel_rfl) ?_
      change WpE _ _ c_towpathlaw01_Book_growByte_24 _ _ _
      refine wpE_block (id := 2) (x := c_towpathlaw01_Book_growByte_25) (by kernel_rfl) ?_
      obtain ⟨I, μ, h0, hr⟩ := h
      refine wpE_loop (x := c_towpathlaw01_Book_growByte_26) (by kernel_rfl) (fun m l w => ∃ (long1 : Slc) (k : Int), l = [(0, Value.pointer b_), (2, Value.int .i64 i), (3, Value.pointer (some ⟨b_1, 0, none⟩)), (4, Value.slice long1.ptr long1.len long1.cap), (5, Value.int .i64 k)] ∧ I long1 k w ∧ μ long1 k w = m) (l' := [(0, Value.pointer b_), (2, Value.int .i64 i), (3, Value.pointer (some ⟨b_1, 0, none⟩)), (4, Value.slice long.ptr long.len long.cap), (5, Value.int .i64 0)]) (Sub.mk (by kernel_rfl)) ⟨long, 0, rfl, h0, rfl⟩ ?_
      rintro _ _ w4 ⟨long1, k, rfl, hI, rfl⟩
      obtain ⟨again_1, again_1_h, h⟩ : ∃ again_1 : Slc → Int → World → Prop, (∀ long1' k' w', again_1 long1' k' w' → I long1' k' w' ∧ μ long1' k' w' < μ long1 k w4) ∧ F_towpathlaw01_Book_growByte_L1 b_ i again_ b_1 again_1 long1 k w4 := ⟨_, fun _ _ _ h => h, hr long1 k w4 hI⟩
      clear h0 hI
      unfold F_towpathlaw01_Book_growByte_L1 at h
      refine wpE_seq (x := c_towpathlaw01_Book_growByte_27) (y := c_towpathlaw01_Book_growByte_33) (by kernel_rfl) ?_
      refine wpE_seq (x := c_towpathlaw01_Book_growByte_28) (y := c_towpathlaw01_Book_growByte_30) (by kernel_rfl) ?_
      refine wpE_region (id := 6) (ops := r_towpathlaw01_Book_growByte_28) (by kernel_rfl) ?_
      refine reg_run [.plain, .plain] 2 [(0, [], Value.pointer b_), (2, [], Value.int .i64 i), (3, [], Value.pointer (some ⟨b_1, 0, none⟩)), (4, [], Value.slice long1.ptr long1.len long1.cap), (5, [], Value.int .i64 k), (25, [], Value.bool (decide (k < 70)))] (by kernel_rfl) (by kernel_rfl) ?_
      refine reg_end [(0, Value.pointer b_), (2, Value.int .i64 i), (3, Value.pointer (some ⟨b_1, 0, none⟩)), (4, Value.slice long1.ptr long1.len long1.cap), (5, Value.int .i64 k), (25, Value.bool (decide (k < 70)))] (by kernel_rfl) (by kernel_rfl) ?_
      change WpE _ _ c_towpathlaw01_Book_growByte_30 _ _ _
      refine wpE_cond (o := (Operand.tmp 25)) (b := (decide (k < 70))) (x := c_towpathlaw01_Book_growByte_31) (y := c_towpathlaw01_Book_growByte_32) (by kernel_rfl) (by kernel_rfl) (fun hb => ?_) (fun hb => ?_)
      · replace h := h.1 hb
        refine wpE_skip (by kernel_rfl) ?_
        change WpE _ _ c_towpathlaw01_Book_growByte_33 _ _ _
        refine wpE_seq (x := c_towpathlaw01_Book_growByte_34) (y := c_towpathlaw01_Book_growByte_37) (by kernel_rfl) ?_
        refine wpE_block (id := 3) (x := c_towpathlaw01_Book_growByte_35) (by kernel_rfl) ?_
        refine wpE_region (id := 8) (ops := r_towpathlaw01_Book_growByte_35) (by kernel_rfl) ?_
        refine reg_run [.plain, .plain] 2 [(0, [], Value.pointer b_), (2, [], Value.int .i64 i), (3, [], Value.pointer (some ⟨b_1, 0, none⟩)), (4, [], Value.slice long1.ptr long1.len long1.cap), (5, [], Value.int .i64 k), (28, [], Value.slice long1.ptr long1.len long1.cap), (29, [], Value.pointer (some ⟨b_1, 2, none⟩))] (by kernel_rfl) (by kernel_rfl) ?_
        obtain ⟨v30, hc, h⟩ := h
        refine reg_load1 (t := 3) (a := (Go.Operand.tmp 29)) (b := b_1) (o := 2) (ty := 3) (dst := some 30) (by kernel_rfl) (by kernel_rfl) (by kernel_rfl) hc ?_
        refine reg_run [] 3 [(0, [], Value.pointer b_), (2, [], Value.int .i64 i), (3, [], Value.pointer (some ⟨b_1, 0, none⟩)), (4, [], Value.slice long1.ptr long1.len long1.cap), (5, [], Value.int .i64 k), (28, [], Value.slice long1.ptr long1.len long1.cap), (30, [], Value.int .i64 v30)] (by kernel_rfl) (by kernel_rfl) ?_
        refine reg_enter (op := (Go.Op.call (Go.Call.mk (Go.Callee.value (Go.Operand.func 68)) #[(Go.Operand.tmp 30)] #[3]))) (ty := 5) (dst := some 31) 68 #[Value.int .i64 v30] (by kernel_rfl) (fun ww => by kernel_rfl) (Calls.mono h ?_)
        rintro _ w5 ⟨v31, rfl, h⟩
        refine ⟨_, rfl, ?_⟩
        refine reg_run [] 4 [(0, [], Value.pointer b_), (2, [], Value.int .i64 i), (3, [], Value.pointer (some ⟨b_1, 0, none⟩)), (4, [], Value.slice long1.ptr long1.len long1.cap), (5, [], Value.int .i64 k), (28, [], Value.slice long1.ptr long1.len long1.cap), (31, [], Value.int .u8 v31)] (by kernel_rfl) (by kernel_rfl) ?_
        refine reg_new (op := (Go.Op.buildSlice 45 1 #[(0, (Go.Operand.tmp 31))])) (ty := 45) (dst := some 32) (fun bb => Value.slice (some ⟨bb, 0, none⟩) 1 1) (Obj.cells ([Value.int .u8 v31]).toArray ty_uint8 (0, 0)) (by kernel_rfl) (by kernel_rfl) (fun b_2 w6 hb hw => ?_)
        replace h := h b_2 w6 hb hw
        clear hb hw
        refine reg_run [] 5 [(0, [], Value.pointer b_), (2, [], Value.int .i64 i), (3, [], Value.pointer (some ⟨b_1, 0, none⟩)), (4, [], Value.slice long1.ptr long1.len long1.cap), (5, [], Value.int .i64 k), (28, [], Value.slice long1.ptr long1.len long1.cap), (32, [], Value.slice (some ⟨b_2, 0, none⟩) 1 1)] (by kernel_rfl) (by kernel_rfl) ?_
        obtain ⟨src, hs, h⟩ := h
        refine reg_append (t := 45) (tx := 45) (e := 5) (a := (Go.Operand.tmp 28)) (xo := (Go.Operand.tmp 32)) (s := long1) (x := (Slc.mk (some ⟨b_2, 0, none⟩) 1 1)) (sz := 1) (by_ := 1) (zs := [Value.int .u8 0]) (ty := 45) (dst := some 33)  src (by kernel_rfl) (by kernel_rfl) (by kernel_rfl) (by kernel_rfl) (by kernel_rfl) (by kernel_rfl) (by kernel_rfl) (by kernel_rfl) (by kernel_rfl) hs (AppendW.mono h (fun long2 w7 h => ?_))
        refine reg_run [.plain] 7 [(0, [], Value.pointer b_), (2, [], Value.int .i64 i), (3, [], Value.pointer (some ⟨b_1, 0, none⟩)), (4, [], Value.slice long2.ptr long2.len long2.cap), (5, [], Value.int .i64 k)] (by kernel_rfl) (by kernel_rfl) ?_
        refine reg_end [(0, Value.pointer b_), (2, Value.int .i64 i), (3, Value.pointer (some ⟨b_1, 0, none⟩)), (4, Value.slice long2.ptr long2.len long2.cap), (5, Value.int .i64 k)] (by kernel_rfl) (by kernel_rfl) ?_
        change WpE _ _ c_towpathlaw01_Book_growByte_37 _ _ _
        refine wpE_region (id := 7) (ops := r_towpathlaw01_Book_growByte_37) (by kernel_rfl) ?_
        refine reg_run [.plain, .plain, .plain] 3 [(0, [], Value.pointer b_), (2, [], Value.int .i64 i), (3, [], Value.pointer (some ⟨b_1, 0, none⟩)), (4, [], Value.slice long2.ptr long2.len long2.cap), (5, [], Value.int .i64 (IntKind.i64.wrap (k + 1)))] (by kernel_rfl) (by kernel_rfl) ?_
        refine reg_end [(0, Value.pointer b_), (2, Value.int .i64 i), (3, Value.pointer (some ⟨b_1, 0, none⟩)), (4, Value.slice long2.ptr long2.len long2.cap), (5, Value.int .i64 (IntKind.i64.wrap (k + 1)))] (by kernel_rfl) (by kernel_rfl) ?_
        have hb_ := again_1_h _ _ _ h
        exact ⟨_, hb_.2, [(0, Value.pointer b_), (2, Value.int .i64 i), (3, Value.pointer (some ⟨b_1, 0, none⟩)), (4, Value.slice long2.ptr long2.len long2.cap), (5, Value.int .i64 (IntKind.i64.wrap (k + 1)))], Sub.mk (by kernel_rfl), long2, (IntKind.i64.wrap (k + 1)), rfl, hb_.1, rfl⟩
      · replace h := h.2 hb
        refine wpE_exit (id := 2) (by kernel_rfl) ?_
        change WpE _ _ c_towpathlaw01_Book_growByte_39 _ _ _
        refine wpE_region (id := 9) (ops := r_towpathlaw01_Book_growByte_39) (by kernel_rfl) ?_
        refine reg_run [.plain] 1 [(0, [], Value.pointer b_), (2, [], Value.int .i64 i), (4, [], Value.slice long1.ptr long1.len long1.cap), (34, [], Value.pointer b_)] (by kernel_rfl) (by kernel_rfl) ?_
        obtain ⟨hp_14, h⟩ := h
        refine reg_conv [(0, [], Value.pointer b_), (2, [], Value.int .i64 i), (4, [], Value.slice long1.ptr long1.len long1.cap), (34, [], Value.pointer (some ⟨(pblk b_), (poff b_), none⟩))] (congrArg (fun pp => ([(0, [], Value.pointer b_), (2, [], Value.int .i64 i), (4, [], Value.slice long1.ptr long1.len long1.cap), (34, [], Value.pointer pp)] : GEnv)) hp_14) ?_
        refine reg_run [.plain] 2 [(0, [], Value.pointer b_), (2, [], Value.int .i64 i), (4, [], Value.slice long1.ptr long1.len long1.cap), (34, [], Value.pointer (some ⟨(pblk b_), (poff b_), none⟩)), (35, [], Value.pointer (some ⟨(pblk b_), (poff b_), none⟩))] (by kernel_rfl) (by kernel_rfl) ?_
        refine reg_run [.plain] 3 [(0, [], Value.pointer b_), (2, [], Value.int .i64 i), (4, [], Value.slice long1.ptr long1.len long1.cap), (36, [], Value.pointer (some ⟨(pblk b_), (poff b_) + 1, none⟩))] (by kernel_rfl) (by kernel_rfl) ?_
        obtain ⟨v37, hc, h⟩ := h
        refine reg_load1 (t := 31) (a := (Go.Operand.tmp 36)) (b := (pblk b_)) (o := ((poff b_) + 1)) (ty := 31) (dst := some 37) (by kernel_rfl) (by kernel_rfl) (by kernel_rfl) hc ?_
        refine reg_run [.plain, .plain] 6 [(0, [], Value.pointer b_), (2, [], Value.int .i64 i), (37, [], Value.slice v37.ptr v37.len v37.cap), (38, [], Value.int .i64 i), (39, [], Value.slice long1.ptr long1.len long1.cap)] (by kernel_rfl) (by kernel_rfl) ?_
        obtain ⟨hp_15, h⟩ := h
        refine reg_conv [(0, [], Value.pointer b_), (2, [], Value.int .i64 i), (37, [], Value.slice (some ⟨(pblk v37.ptr), (poff v37.ptr), none⟩) v37.len v37.cap), (38, [], Value.int .i64 i), (39, [], Value.slice long1.ptr long1.len long1.cap)] (congrArg (fun pp => ([(0, [], Value.pointer b_), (2, [], Value.int .i64 i), (37, [], Value.slice pp v37.len v37.cap), (38, [], Value.int .i64 i), (39, [], Value.slice long1.ptr long1.len long1.cap)] : GEnv)) hp_15) ?_
        obtain ⟨h0, h1, h⟩ := h
        refine reg_indexS (t := 31) (e := 67) (x := (Go.Operand.tmp 37)) (ix := (Go.Operand.tmp 38)) (b := (pblk v37.ptr)) (o := (poff v37.ptr)) (l := v37.len) (c := v37.cap) (k := .i64) (j := i) (ty := 0) (dst := some 40) (sz := 3) (by kernel_rfl) (by kernel_rfl) (by kernel_rfl) (by kernel_rfl) (by kernel_rfl) h0 h1 ?_
        refine reg_run [.plain] 8 [(0, [], Value.pointer b_), (2, [], Value.int .i64 i), (39, [], Value.slice long1.ptr long1.len long1.cap), (41, [], Value.pointer (some ⟨(pblk v37.ptr), ((poff v37.ptr) + i.toNat * 3) + 1, none⟩))] (by kernel_rfl) (by kernel_rfl) ?_
        obtain ⟨hc, h⟩ := h
        refine reg_store (t := 45) (a := (Go.Operand.tmp 41)) (x := (Go.Operand.tmp 39)) (b := (pblk v37.ptr)) (o := (((poff v37.ptr) + i.toNat * 3) + 1)) (ty := 0) (dst := none) [Value.slice long1.ptr long1.len long1.cap] (by kernel_rfl) (by kernel_rfl) (by kernel_rfl) (k := 1) (by kernel_rfl) (by kernel_rfl) (by kernel_rfl) hc (fun w8 hw => ?_)
        replace h := h w8 hw
        clear hw
        refine reg_end [(0, Value.pointer b_), (2, Value.int .i64 i)] (by kernel_rfl) (by kernel_rfl) ?_
        change WpE _ _ c_towpathlaw01_Book_growByte_41 _ _ _
        refine wpE_region (id := 2) (ops := r_towpathlaw01_Book_growByte_41) (by kernel_rfl) ?_
        refine reg_run [.plain, .plain, .plain] 3 [(0, [], Value.pointer b_), (2, [], Value.int .i64 (IntKind.i64.wrap (i + 1)))] (by kernel_rfl) (by kernel_rfl) ?_
        refine reg_end [(0, Value.pointer b_), (2, Value.int .i64 (IntKind.i64.wrap (i + 1)))] (by kernel_rfl) (by kernel_rfl) ?_
        have hb_ := again__h _ _ h
        exact ⟨_, hb_.2, [(0, Value.pointer b_), (2, Value.int .i64 (IntKind.i64.wrap (i + 1)))], Sub.mk (by kernel_rfl), (IntKind.i64.wrap (i + 1)), rfl, hb_.1, rfl⟩
    · replace h := h.2 hb
      refine wpE_exit (id := 0) (by kernel_rfl) ?_
      repeat (first | refine seqQ_exit ?_ | refine loopQ_exit ?_ | refine cutQ_exit ?_ | refine blockQ_hit ?_ | refine blockQ_miss (by kernel_rfl) ?_)
      refine retQ_normal ?_
      repeat (first | refine seqQ_ret ?_ | refine blockQ_ret ?_ | refine loopQ_ret ?_ | refine cutQ_ret ?_)
      exact retT (rs := []) (vs := []) (by kernel_rfl) (trivial) (by kernel_rfl) ⟨rfl, h⟩
  · rintro e w' ⟨v, rfl, rfl, h⟩; exact ⟨rfl, h⟩

/-! ### (*towpath/towpathlaw01.Book).growInt (function 45) -/
noncomputable def c_towpathlaw01_Book_growInt_0 : Code := (Tryz.f45.body).getD Code.skip
noncomputable def c_towpathlaw01_Book_growInt_1 : Code := Code.l c_towpathlaw01_Book_growInt_0
noncomputable def r_towpathlaw01_Book_growInt_1 : Array Oper := Code.ops c_towpathlaw01_Book_growInt_1
noncomputable def c_towpathlaw01_Book_growInt_3 : Code := Code.r c_towpathlaw01_Book_growInt_0
noncomputable def c_towpathlaw01_Book_growInt_4 : Code := Code.l c_towpathlaw01_Book_growInt_3
noncomputable def c_towpathlaw01_Book_growInt_5 : Code := Code.l c_towpathlaw01_Book_growInt_4
noncomputable def c_towpathlaw01_Book_growInt_6 : Code := Code.l c_towpathlaw01_Book_growInt_5
noncomputable def c_towpathlaw01_Book_growInt_7 : Code := Code.l c_towpathlaw01_Book_growInt_6
noncomputable def r_towpathlaw01_Book_growInt_7 : Array Oper := Code.ops c_towpathlaw01_Book_growInt_7
noncomputable def c_towpathlaw01_Book_growInt_9 : Code := Code.r c_towpathlaw01_Book_growInt_6
noncomputable def c_towpathlaw01_Book_growInt_10 : Code := Code.l c_towpathlaw01_Book_growInt_9
noncomputable def c_towpathlaw01_Book_growInt_11 : Code := Code.r c_towpathlaw01_Book_growInt_9
noncomputable def c_towpathlaw01_Book_growInt_12 : Code := Code.r c_towpathlaw01_Book_growInt_5
noncomputable def c_towpathlaw01_Book_growInt_13 : Code := Code.l c_towpathlaw01_Book_growInt_12
noncomputable def c_towpathlaw01_Book_growInt_14 : Code := Code.l c_towpathlaw01_Book_growInt_13
noncomputable def c_towpathlaw01_Book_growInt_15 : Code := Code.l c_towpathlaw01_Book_growInt_14
noncomputable def r_towpathlaw01_Book_growInt_15 : Array Oper := Code.ops c_towpathlaw01_Book_growInt_15
noncomputable def c_towpathlaw01_Book_growInt_17 : Code := Code.r c_towpathlaw01_Book_growInt_14
noncomputable def c_towpathlaw01_Book_growInt_18 : Code := Code.l c_towpathlaw01_Book_growInt_17
noncomputable def r_towpathlaw01_Book_growInt_18 : Array Oper := Code.ops c_towpathlaw01_Book_growInt_18
noncomputable def c_towpathlaw01_Book_growInt_20 : Code := Code.r c_towpathlaw01_Book_growInt_17
noncomputable def c_towpathlaw01_Book_growInt_21 : Code := Code.l c_towpathlaw01_Book_growInt_20
noncomputable def c_towpathlaw01_Book_growInt_22 : Code := Code.l c_towpathlaw01_Book_growInt_21
noncomputable def r_towpathlaw01_Book_growInt_22 : Array Oper := Code.ops c_towpathlaw01_Book_growInt_22
noncomputable def c_towpathlaw01_Book_growInt_24 : Code := Code.r c_towpathlaw01_Book_growInt_21
noncomputable def c_towpathlaw01_Book_growInt_25 : Code := Code.l c_towpathlaw01_Book_growInt_24
noncomputable def c_towpathlaw01_Book_growInt_26 : Code := Code.l c_towpathlaw01_Book_growInt_25
noncomputable def c_towpathlaw01_Book_growInt_27 : Code := Code.l c_towpathlaw01_Book_growInt_26
noncomputable def c_towpathlaw01_Book_growInt_28 : Code := Code.l c_towpathlaw01_Book_growInt_27
noncomputable def r_towpathlaw01_Book_growInt_28 : Array Oper := Code.ops c_towpathlaw01_Book_growInt_28
noncomputable def c_towpathlaw01_Book_growInt_30 : Code := Code.r c_towpathlaw01_Book_growInt_27
noncomputable def c_towpathlaw01_Book_growInt_31 : Code := Code.l c_towpathlaw01_Book_growInt_30
noncomputable def c_towpathlaw01_Book_growInt_32 : Code := Code.r c_towpathlaw01_Book_growInt_30
noncomputable def c_towpathlaw01_Book_growInt_33 : Code := Code.r c_towpathlaw01_Book_growInt_26
noncomputable def c_towpathlaw01_Book_growInt_34 : Code := Code.l c_towpathlaw01_Book_growInt_33
noncomputable def c_towpathlaw01_Book_growInt_35 : Code := Code.l c_towpathlaw01_Book_growInt_34
noncomputable def r_towpathlaw01_Book_growInt_35 : Array Oper := Code.ops c_towpathlaw01_Book_growInt_35
noncomputable def c_towpathlaw01_Book_growInt_37 : Code := Code.r c_towpathlaw01_Book_growInt_33
noncomputable def r_towpathlaw01_Book_growInt_37 : Array Oper := Code.ops c_towpathlaw01_Book_growInt_37
noncomputable def c_towpathlaw01_Book_growInt_39 : Code := Code.r c_towpathlaw01_Book_growInt_20
noncomputable def r_towpathlaw01_Book_growInt_39 : Array Oper := Code.ops c_towpathlaw01_Book_growInt_39
noncomputable def c_towpathlaw01_Book_growInt_41 : Code := Code.r c_towpathlaw01_Book_growInt_12
noncomputable def r_towpathlaw01_Book_growInt_41 : Array Oper := Code.ops c_towpathlaw01_Book_growInt_41

set_option maxRecDepth 100000 in
set_option maxHeartbeats 4000000 in
theorem S_towpathlaw01_Book_growInt {b_ : Option Addr} {w : World} {R : World → Prop} (h : F_towpathlaw01_Book_growInt b_ R w) : C_towpathlaw01_Book_growInt b_ w R := by
  unfold F_towpathlaw01_Book_growInt at h
  unfold C_towpathlaw01_Book_growInt
  refine Calls.mono (calls_of_wpE (args := [Value.pointer b_]) (R := fun v w' => v = Value.tuple #[] ∧ R w') Tryz.func45 (c := c_towpathlaw01_Book_growInt_0) (by kernel_rfl) 42 (by kernel_rfl) (by kernel_rfl) [(0, Value.pointer b_)] (by kernel_rfl) ?_) ?_
  · refine wpE_seq (x := c_towpathlaw01_Book_growInt_1) (y := c_towpathlaw01_Book_growInt_3) (by kernel_rfl) ?_
    refine wpE_region (id := 0) (ops := r_towpathlaw01_Book_growInt_1) (by kernel_rfl) ?_
    refine reg_run [.plain] 1 [(0, [], Value.pointer b_), (2, [], Value.int .i64 0)] (by kernel_rfl) (by kernel_rfl) ?_
    refine reg_end [(0, Value.pointer b_), (2, Value.int .i64 0)] (by kernel_rfl) (by kernel_rfl) ?_
    change WpE _ _ c_towpathlaw01_Book_growInt_3 _ _ _
    refine wpE_block (id := 0) (x := c_towpathlaw01_Book_growInt_4) (by kernel_rfl) ?_
    obtain ⟨I, μ, h0, hr⟩ := h
    refine wpE_loop (x := c_towpathlaw01_Book_growInt_5) (by kernel_rfl) (fun m l w => ∃ (i : Int), l = [(0, Value.pointer b_), (2, Value.int .i64 i)] ∧ I i w ∧ μ i w = m) (l' := [(0, Value.pointer b_), (2, Value.int .i64 0)]) (Sub.mk (by kernel_rfl)) ⟨0, rfl, h0, rfl⟩ ?_
    rintro _ _ w1 ⟨i, rfl, hI, rfl⟩
    obtain ⟨again_, again__h, h⟩ : ∃ again_ : Int → World → Prop, (∀ i' w', again_ i' w' → I i' w' ∧ μ i' w' < μ i w1) ∧ F_towpathlaw01_Book_growInt_L0 b_ R again_ i w1 := ⟨_, fun _ _ h => h, hr i w1 hI⟩
    clear h0 hI
    unfold F_towpathlaw01_Book_growInt_L0 at h
    refine wpE_seq (x := c_towpathlaw01_Book_growInt_6) (y := c_towpathlaw01_Book_growInt_12) (by kernel_rfl) ?_
    refine wpE_seq (x := c_towpathlaw01_Book_growInt_7) (y := c_towpathlaw01_Book_growInt_9) (by kernel_rfl) ?_
    refine wpE_region (id := 1) (ops := r_towpathlaw01_Book_growInt_7) (by kernel_rfl) ?_
    refine reg_run [.plain, .plain] 2 [(0, [], Value.pointer b_), (2, [], Value.int .i64 i), (6, [], Value.int .i64 i), (7, [], Value.pointer b_)] (by kernel_rfl) (by kernel_rfl) ?_
    obtain ⟨hp_3, h⟩ := h
    refine reg_conv [(0, [], Value.pointer b_), (2, [], Value.int .i64 i), (6, [], Value.int .i64 i), (7, [], Value.pointer (some ⟨(pblk b_), (poff b_), none⟩))] (congrArg (fun pp => ([(0, [], Value.pointer b_), (2, [], Value.int .i64 i), (6, [], Value.int .i64 i), (7, [], Value.pointer pp)] : GEnv)) hp_3) ?_
    refine reg_run [.plain] 3 [(0, [], Value.pointer b_), (2, [], Value.int .i64 i), (6, [], Value.int .i64 i), (7, [], Value.pointer (some ⟨(pblk b_), (poff b_), none⟩)), (8, [], Value.pointer (some ⟨(pblk b_), (poff b_), none⟩))] (by kernel_rfl) (by kernel_rfl) ?_
    refine reg_run [.plain] 4 [(0, [], Value.pointer b_), (2, [], Value.int .i64 i), (6, [], Value.int .i64 i), (9, [], Value.pointer (some ⟨(pblk b_), (poff b_) + 2, none⟩))] (by kernel_rfl) (by kernel_rfl) ?_
    obtain ⟨v10, hc, h⟩ := h
    refine reg_load1 (t := 32) (a := (Go.Operand.tmp 9)) (b := (pblk b_)) (o := ((poff b_) + 2)) (ty := 32) (dst := some 10) (by kernel_rfl) (by kernel_rfl) (by kernel_rfl) hc ?_
    refine reg_run [.plain, .plain] 7 [(0, [], Value.pointer b_), (2, [], Value.int .i64 i), (12, [], Value.bool (decide (i < ((v10.len : Nat) : Int))))] (by kernel_rfl) (by kernel_rfl) ?_
    refine reg_end [(0, Value.pointer b_), (2, Value.int .i64 i), (12, Value.bool (decide (i < ((v10.len : Nat) : Int))))] (by kernel_rfl) (by kernel_rfl) ?_
    change WpE _ _ c_towpathlaw01_Book_growInt_9 _ _ _
    refine wpE_cond (o := (Operand.tmp 12)) (b := (decide (i < ((v10.len : Nat) : Int)))) (x := c_towpathlaw01_Book_growInt_10) (y := c_towpathlaw01_Book_growInt_11) (by kernel_rfl) (by kernel_rfl) (fun hb => ?_) (fun hb => ?_)
    · replace h := h.1 hb
      exact h.elim
    · replace h := h.2 hb
      refine wpE_exit (id := 0) (by kernel_rfl) ?_
      repeat (first | refine seqQ_exit ?_ | refine loopQ_exit ?_ | refine cutQ_exit ?_ | refine blockQ_hit ?_ | refine blockQ_miss (by kernel_rfl) ?_)
      refine retQ_normal ?_
      repeat (first | refine seqQ_ret ?_ | refine blockQ_ret ?_ | refine loopQ_ret ?_ | refine cutQ_ret ?_)
      exact retT (rs := []) (vs := []) (by kernel_rfl) (trivial) (by kernel_rfl) ⟨rfl, h⟩
  · rintro e w' ⟨v, rfl, rfl, h⟩; exact ⟨rfl, h⟩

/-! ### (*towpath/towpathlaw01.Book).growText (function 46) -/
noncomputable def c_towpathlaw01_Book_growText_0 : Code := (Tryz.f46.body).getD Code.skip
noncomputable def c_towpathlaw01_Book_growText_1 : Code := Code.l c_towpathlaw01_Book_growText_0
noncomputable def r_towpathlaw01_Book_growText_1 : Array Oper := Code.ops c_towpathlaw01_Book_growText_1
noncomputable def c_towpathlaw01_Book_growText_3 : Code := Code.r c_towpathlaw01_Book_growText_0
noncomputable def c_towpathlaw01_Book_growText_4 : Code := Code.l c_towpathlaw01_Book_growText_3
noncomputable def c_towpathlaw01_Book_growText_5 : Code := Code.l c_towpathlaw01_Book_growText_4
noncomputable def c_towpathlaw01_Book_growText_6 : Code := Code.l c_towpathlaw01_Book_growText_5
noncomputable def c_towpathlaw01_Book_growText_7 : Code := Code.l c_towpathlaw01_Book_growText_6
noncomputable def r_towpathlaw01_Book_growText_7 : Array Oper := Code.ops c_towpathlaw01_Book_growText_7
noncomputable def c_towpathlaw01_Book_growText_9 : Code := Code.r c_towpathlaw01_Book_growText_6
noncomputable def c_towpathlaw01_Book_growText_10 : Code := Code.l c_towpathlaw01_Book_growText_9
noncomputable def c_towpathlaw01_Book_growText_11 : Code := Code.r c_towpathlaw01_Book_growText_9
noncomputable def c_towpathlaw01_Book_growText_12 : Code := Code.r c_towpathlaw01_Book_growText_5
noncomputable def c_towpathlaw01_Book_growText_13 : Code := Code.l c_towpathlaw01_Book_growText_12
noncomputable def c_towpathlaw01_Book_growText_14 : Code := Code.l c_towpathlaw01_Book_growText_13
noncomputable def c_towpathlaw01_Book_growText_15 : Code := Code.l c_towpathlaw01_Book_growText_14
noncomputable def r_towpathlaw01_Book_growText_15 : Array Oper := Code.ops c_towpathlaw01_Book_growText_15
noncomputable def c_towpathlaw01_Book_growText_17 : Code := Code.r c_towpathlaw01_Book_growText_14
noncomputable def c_towpathlaw01_Book_growText_18 : Code := Code.l c_towpathlaw01_Book_growText_17
noncomputable def r_towpathlaw01_Book_growText_18 : Array Oper := Code.ops c_towpathlaw01_Book_growText_18
noncomputable def c_towpathlaw01_Book_growText_20 : Code := Code.r c_towpathlaw01_Book_growText_17
noncomputable def c_towpathlaw01_Book_growText_21 : Code := Code.l c_towpathlaw01_Book_growText_20
noncomputable def c_towpathlaw01_Book_growText_22 : Code := Code.l c_towpathlaw01_Book_growText_21
noncomputable def r_towpathlaw01_Book_growText_22 : Array Oper := Code.ops c_towpathlaw01_Book_growText_22
noncomputable def c_towpathlaw01_Book_growText_24 : Code := Code.r c_towpathlaw01_Book_growText_21
noncomputable def c_towpathlaw01_Book_growText_25 : Code := Code.l c_towpathlaw01_Book_growText_24
noncomputable def c_towpathlaw01_Book_growText_26 : Code := Code.l c_towpathlaw01_Book_growText_25
noncomputable def c_towpathlaw01_Book_growText_27 : Code := Code.l c_towpathlaw01_Book_growText_26
noncomputable def c_towpathlaw01_Book_growText_28 : Code := Code.l c_towpathlaw01_Book_growText_27
noncomputable def r_towpathlaw01_Book_growText_28 : Array Oper := Code.ops c_towpathlaw01_Book_growText_28
noncomputable def c_towpathlaw01_Book_growText_30 : Code := Code.r c_towpathlaw01_Book_growText_27
noncomputable def c_towpathlaw01_Book_growText_31 : Code := Code.l c_towpathlaw01_Book_growText_30
noncomputable def c_towpathlaw01_Book_growText_32 : Code := Code.r c_towpathlaw01_Book_growText_30
noncomputable def c_towpathlaw01_Book_growText_33 : Code := Code.r c_towpathlaw01_Book_growText_26
noncomputable def c_towpathlaw01_Book_growText_34 : Code := Code.l c_towpathlaw01_Book_growText_33
noncomputable def c_towpathlaw01_Book_growText_35 : Code := Code.l c_towpathlaw01_Book_growText_34
noncomputable def r_towpathlaw01_Book_growText_35 : Array Oper := Code.ops c_towpathlaw01_Book_growText_35
noncomputable def c_towpathlaw01_Book_growText_37 : Code := Code.r c_towpathlaw01_Book_growText_33
noncomputable def r_towpathlaw01_Book_growText_37 : Array Oper := Code.ops c_towpathlaw01_Book_growText_37
noncomputable def c_towpathlaw01_Book_growText_39 : Code := Code.r c_towpathlaw01_Book_growText_20
noncomputable def r_towpathlaw01_Book_growText_39 : Array Oper := Code.ops c_towpathlaw01_Book_growText_39
noncomputable def c_towpathlaw01_Book_growText_41 : Code := Code.r c_towpathlaw01_Book_growText_12
noncomputable def r_towpathlaw01_Book_growText_41 : Array Oper := Code.ops c_towpathlaw01_Book_growText_41

set_option maxRecDepth 100000 in
set_option maxHeartbeats 4000000 in
theorem S_towpathlaw01_Book_growText {b_ : Option Addr} {w : World} {R : World → Prop} (h : F_towpathlaw01_Book_growText b_ R w) : C_towpathlaw01_Book_growText b_ w R := by
  unfold F_towpathlaw01_Book_growText at h
  unfold C_towpathlaw01_Book_growText
  refine Calls.mono (calls_of_wpE (args := [Value.pointer b_]) (R := fun v w' => v = Value.tuple #[] ∧ R w') Tryz.func46 (c := c_towpathlaw01_Book_growText_0) (by kernel_rfl) 42 (by kernel_rfl) (by kernel_rfl) [(0, Value.pointer b_)] (by kernel_rfl) ?_) ?_
  · refine wpE_seq (x := c_towpathlaw01_Book_growText_1) (y := c_towpathlaw01_Book_growText_3) (by kernel_rfl) ?_
    refine wpE_region (id := 0) (ops := r_towpathlaw01_Book_growText_1) (by kernel_rfl) ?_
    refine reg_run [.plain] 1 [(0, [], Value.pointer b_), (2, [], Value.int .i64 0)] (by kernel_rfl) (by kernel_rfl) ?_
    refine reg_end [(0, Value.pointer b_), (2, Value.int .i64 0)] (by kernel_rfl) (by kernel_rfl) ?_
    change WpE _ _ c_towpathlaw01_Book_growText_3 _ _ _
    refine wpE_block (id := 0) (x := c_towpathlaw01_Book_growText_4) (by kernel_rfl) ?_
    obtain ⟨I, μ, h0, hr⟩ := h
    refine wpE_loop (x := c_towpathlaw01_Book_growText_5) (by kernel_rfl) (fun m l w => ∃ (i : Int), l = [(0, Value.pointer b_), (2, Value.int .i64 i)] ∧ I i w ∧ μ i w = m) (l' := [(0, Value.pointer b_), (2, Value.int .i64 0)]) (Sub.mk (by kernel_rfl)) ⟨0, rfl, h0, rfl⟩ ?_
    rintro _ _ w1 ⟨i, rfl, hI, rfl⟩
    obtain ⟨again_, again__h, h⟩ : ∃ again_ : Int → World → Prop, (∀ i' w', again_ i' w' → I i' w' ∧ μ i' w' < μ i w1) ∧ F_towpathlaw01_Book_growText_L0 b_ R again_ i w1 := ⟨_, fun _ _ h => h, hr i w1 hI⟩
    clear h0 hI
    unfold F_towpathlaw01_Book_growText_L0 at h
    refine wpE_seq (x := c_towpathlaw01_Book_growText_6) (y := c_towpathlaw01_Book_growText_12) (by kernel_rfl) ?_
    refine wpE_seq (x := c_towpathlaw01_Book_growText_7) (y := c_towpathlaw01_Book_growText_9) (by kernel_rfl) ?_
    refine wpE_region (id := 1) (ops := r_towpathlaw01_Book_growText_7) (by kernel_rfl) ?_
    refine reg_run [.plain, .plain] 2 [(0, [], Value.pointer b_), (2, [], Value.int .i64 i), (6, [], Value.int .i64 i), (7, [], Value.pointer b_)] (by kernel_rfl) (by kernel_rfl) ?_
    obtain ⟨hp_3, h⟩ := h
    refine reg_conv [(0, [], Value.pointer b_), (2, [], Value.int .i64 i), (6, [], Value.int .i64 i), (7, [], Value.pointer (some ⟨(pblk b_), (poff b_), none⟩))] (congrArg (fun pp => ([(0, [], Value.pointer b_), (2, [], Value.int .i64 i), (6, [], Value.int .i64 i), (7, [], Value.pointer pp)] : GEnv)) hp_3) ?_
    refine reg_run [.plain] 3 [(0, [], Value.pointer b_), (2, [], Value.int .i64 i), (6, [], Value.int .i64 i), (7, [], Value.pointer (some ⟨(pblk b_), (poff b_), none⟩)), (8, [], Value.pointer (some ⟨(pblk b_), (poff b_), none⟩))] (by kernel_rfl) (by kernel_rfl) ?_
    refine reg_run [.plain] 4 [(0, [], Value.pointer b_), (2, [], Value.int .i64 i), (6, [], Value.int .i64 i), (9, [], Value.pointer (some ⟨(pblk b_), (poff b_) + 3, none⟩))] (by kernel_rfl) (by kernel_rfl) ?_
    obtain ⟨v10, hc, h⟩ := h
    refine reg_load1 (t := 33) (a := (Go.Operand.tmp 9)) (b := (pblk b_)) (o := ((poff b_) + 3)) (ty := 33) (dst := some 10) (by kernel_rfl) (by kernel_rfl) (by kernel_rfl) hc ?_
    refine reg_run [.plain, .plain] 7 [(0, [], Value.pointer b_), (2, [], Value.int .i64 i), (12, [], Value.bool (decide (i < ((v10.len : Nat) : Int))))] (by kernel_rfl) (by kernel_rfl) ?_
    refine reg_end [(0, Value.pointer b_), (2, Value.int .i64 i), (12, Value.bool (decide (i < ((v10.len : Nat) : Int))))] (by kernel_rfl) (by kernel_rfl) ?_
    change WpE _ _ c_towpathlaw01_Book_growText_9 _ _ _
    refine wpE_cond (o := (Operand.tmp 12)) (b := (decide (i < ((v10.len : Nat) : Int)))) (x := c_towpathlaw01_Book_growText_10) (y := c_towpathlaw01_Book_growText_11) (by kernel_rfl) (by kernel_rfl) (fun hb => ?_) (fun hb => ?_)
    · replace h := h.1 hb
      exact h.elim
    · replace h := h.2 hb
      refine wpE_exit (id := 0) (by kernel_rfl) ?_
      repeat (first | refine seqQ_exit ?_ | refine loopQ_exit ?_ | refine cutQ_exit ?_ | refine blockQ_hit ?_ | refine blockQ_miss (by kernel_rfl) ?_)
      refine retQ_normal ?_
      repeat (first | refine seqQ_ret ?_ | refine blockQ_ret ?_ | refine loopQ_ret ?_ | refine cutQ_ret ?_)
      exact retT (rs := []) (vs := []) (by kernel_rfl) (trivial) (by kernel_rfl) ⟨rfl, h⟩
  · rintro e w' ⟨v, rfl, rfl, h⟩; exact ⟨rfl, h⟩

/-! ### (*towpath/towpathlaw01.Book).growWrite (function 47) -/
noncomputable def c_towpathlaw01_Book_growWrite_0 : Code := (Tryz.f47.body).getD Code.skip
noncomputable def c_towpathlaw01_Book_growWrite_1 : Code := Code.l c_towpathlaw01_Book_growWrite_0
noncomputable def r_towpathlaw01_Book_growWrite_1 : Array Oper := Code.ops c_towpathlaw01_Book_growWrite_1
noncomputable def c_towpathlaw01_Book_growWrite_3 : Code := Code.r c_towpathlaw01_Book_growWrite_0
noncomputable def c_towpathlaw01_Book_growWrite_4 : Code := Code.l c_towpathlaw01_Book_growWrite_3
noncomputable def c_towpathlaw01_Book_growWrite_5 : Code := Code.l c_towpathlaw01_Book_growWrite_4
noncomputable def c_towpathlaw01_Book_growWrite_6 : Code := Code.l c_towpathlaw01_Book_growWrite_5
noncomputable def c_towpathlaw01_Book_growWrite_7 : Code := Code.l c_towpathlaw01_Book_growWrite_6
noncomputable def r_towpathlaw01_Book_growWrite_7 : Array Oper := Code.ops c_towpathlaw01_Book_growWrite_7
noncomputable def c_towpathlaw01_Book_growWrite_9 : Code := Code.r c_towpathlaw01_Book_growWrite_6
noncomputable def c_towpathlaw01_Book_growWrite_10 : Code := Code.l c_towpathlaw01_Book_growWrite_9
noncomputable def c_towpathlaw01_Book_growWrite_11 : Code := Code.r c_towpathlaw01_Book_growWrite_9
noncomputable def c_towpathlaw01_Book_growWrite_12 : Code := Code.r c_towpathlaw01_Book_growWrite_5
noncomputable def c_towpathlaw01_Book_growWrite_13 : Code := Code.l c_towpathlaw01_Book_growWrite_12
noncomputable def c_towpathlaw01_Book_growWrite_14 : Code := Code.l c_towpathlaw01_Book_growWrite_13
noncomputable def c_towpathlaw01_Book_growWrite_15 : Code := Code.l c_towpathlaw01_Book_growWrite_14
noncomputable def r_towpathlaw01_Book_growWrite_15 : Array Oper := Code.ops c_towpathlaw01_Book_growWrite_15
noncomputable def c_towpathlaw01_Book_growWrite_17 : Code := Code.r c_towpathlaw01_Book_growWrite_14
noncomputable def c_towpathlaw01_Book_growWrite_18 : Code := Code.l c_towpathlaw01_Book_growWrite_17
noncomputable def r_towpathlaw01_Book_growWrite_18 : Array Oper := Code.ops c_towpathlaw01_Book_growWrite_18
noncomputable def c_towpathlaw01_Book_growWrite_20 : Code := Code.r c_towpathlaw01_Book_growWrite_17
noncomputable def c_towpathlaw01_Book_growWrite_21 : Code := Code.l c_towpathlaw01_Book_growWrite_20
noncomputable def c_towpathlaw01_Book_growWrite_22 : Code := Code.l c_towpathlaw01_Book_growWrite_21
noncomputable def r_towpathlaw01_Book_growWrite_22 : Array Oper := Code.ops c_towpathlaw01_Book_growWrite_22
noncomputable def c_towpathlaw01_Book_growWrite_24 : Code := Code.r c_towpathlaw01_Book_growWrite_21
noncomputable def c_towpathlaw01_Book_growWrite_25 : Code := Code.l c_towpathlaw01_Book_growWrite_24
noncomputable def c_towpathlaw01_Book_growWrite_26 : Code := Code.l c_towpathlaw01_Book_growWrite_25
noncomputable def c_towpathlaw01_Book_growWrite_27 : Code := Code.l c_towpathlaw01_Book_growWrite_26
noncomputable def c_towpathlaw01_Book_growWrite_28 : Code := Code.l c_towpathlaw01_Book_growWrite_27
noncomputable def r_towpathlaw01_Book_growWrite_28 : Array Oper := Code.ops c_towpathlaw01_Book_growWrite_28
noncomputable def c_towpathlaw01_Book_growWrite_30 : Code := Code.r c_towpathlaw01_Book_growWrite_27
noncomputable def c_towpathlaw01_Book_growWrite_31 : Code := Code.l c_towpathlaw01_Book_growWrite_30
noncomputable def c_towpathlaw01_Book_growWrite_32 : Code := Code.r c_towpathlaw01_Book_growWrite_30
noncomputable def c_towpathlaw01_Book_growWrite_33 : Code := Code.r c_towpathlaw01_Book_growWrite_26
noncomputable def c_towpathlaw01_Book_growWrite_34 : Code := Code.l c_towpathlaw01_Book_growWrite_33
noncomputable def c_towpathlaw01_Book_growWrite_35 : Code := Code.l c_towpathlaw01_Book_growWrite_34
noncomputable def r_towpathlaw01_Book_growWrite_35 : Array Oper := Code.ops c_towpathlaw01_Book_growWrite_35
noncomputable def c_towpathlaw01_Book_growWrite_37 : Code := Code.r c_towpathlaw01_Book_growWrite_33
noncomputable def r_towpathlaw01_Book_growWrite_37 : Array Oper := Code.ops c_towpathlaw01_Book_growWrite_37
noncomputable def c_towpathlaw01_Book_growWrite_39 : Code := Code.r c_towpathlaw01_Book_growWrite_20
noncomputable def r_towpathlaw01_Book_growWrite_39 : Array Oper := Code.ops c_towpathlaw01_Book_growWrite_39
noncomputable def c_towpathlaw01_Book_growWrite_41 : Code := Code.r c_towpathlaw01_Book_growWrite_12
noncomputable def r_towpathlaw01_Book_growWrite_41 : Array Oper := Code.ops c_towpathlaw01_Book_growWrite_41

set_option maxRecDepth 100000 in
set_option maxHeartbeats 4000000 in
theorem S_towpathlaw01_Book_growWrite {b_ : Option Addr} {w : World} {R : World → Prop} (h : F_towpathlaw01_Book_growWrite b_ R w) : C_towpathlaw01_Book_growWrite b_ w R := by
  unfold F_towpathlaw01_Book_growWrite at h
  unfold C_towpathlaw01_Book_growWrite
  refine Calls.mono (calls_of_wpE (args := [Value.pointer b_]) (R := fun v w' => v = Value.tuple #[] ∧ R w') Tryz.func47 (c := c_towpathlaw01_Book_growWrite_0) (by kernel_rfl) 42 (by kernel_rfl) (by kernel_rfl) [(0, Value.pointer b_)] (by kernel_rfl) ?_) ?_
  · refine wpE_seq (x := c_towpathlaw01_Book_growWrite_1) (y := c_towpathlaw01_Book_growWrite_3) (by kernel_rfl) ?_
    refine wpE_region (id := 0) (ops := r_towpathlaw01_Book_growWrite_1) (by kernel_rfl) ?_
    refine reg_run [.plain] 1 [(0, [], Value.pointer b_), (2, [], Value.int .i64 0)] (by kernel_rfl) (by kernel_rfl) ?_
    refine reg_end [(0, Value.pointer b_), (2, Value.int .i64 0)] (by kernel_rfl) (by kernel_rfl) ?_
    change WpE _ _ c_towpathlaw01_Book_growWrite_3 _ _ _
    refine wpE_block (id := 0) (x := c_towpathlaw01_Book_growWrite_4) (by kernel_rfl) ?_
    obtain ⟨I, μ, h0, hr⟩ := h
    refine wpE_loop (x := c_towpathlaw01_Book_growWrite_5) (by kernel_rfl) (fun m l w => ∃ (i : Int), l = [(0, Value.pointer b_), (2, Value.int .i64 i)] ∧ I i w ∧ μ i w = m) (l' := [(0, Value.pointer b_), (2, Value.int .i64 0)]) (Sub.mk (by kernel_rfl)) ⟨0, rfl, h0, rfl⟩ ?_
    rintro _ _ w1 ⟨i, rfl, hI, rfl⟩
    obtain ⟨again_, again__h, h⟩ : ∃ again_ : Int → World → Prop, (∀ i' w', again_ i' w' → I i' w' ∧ μ i' w' < μ i w1) ∧ F_towpathlaw01_Book_growWrite_L0 b_ R again_ i w1 := ⟨_, fun _ _ h => h, hr i w1 hI⟩
    clear h0 hI
    unfold F_towpathlaw01_Book_growWrite_L0 at h
    refine wpE_seq (x := c_towpathlaw01_Book_growWrite_6) (y := c_towpathlaw01_Book_growWrite_12) (by kernel_rfl) ?_
    refine wpE_seq (x := c_towpathlaw01_Book_growWrite_7) (y := c_towpathlaw01_Book_growWrite_9) (by kernel_rfl) ?_
    refine wpE_region (id := 1) (ops := r_towpathlaw01_Book_growWrite_7) (by kernel_rfl) ?_
    refine reg_run [.plain, .plain] 2 [(0, [], Value.pointer b_), (2, [], Value.int .i64 i), (6, [], Value.int .i64 i), (7, [], Value.pointer b_)] (by kernel_rfl) (by kernel_rfl) ?_
    obtain ⟨hp_3, h⟩ := h
    refine reg_conv [(0, [], Value.pointer b_), (2, [], Value.int .i64 i), (6, [], Value.int .i64 i), (7, [], Value.pointer (some ⟨(pblk b_), (poff b_), none⟩))] (congrArg (fun pp => ([(0, [], Value.pointer b_), (2, [], Value.int .i64 i), (6, [], Value.int .i64 i), (7, [], Value.pointer pp)] : GEnv)) hp_3) ?_
    refine reg_run [.plain] 3 [(0, [], Value.pointer b_), (2, [], Value.int .i64 i), (6, [], Value.int .i64 i), (7, [], Value.pointer (some ⟨(pblk b_), (poff b_), none⟩)), (8, [], Value.pointer (some ⟨(pblk b_), (poff b_), none⟩))] (by kernel_rfl) (by kernel_rfl) ?_
    refine reg_run [.plain] 4 [(0, [], Value.pointer b_), (2, [], Value.int .i64 i), (6, [], Value.int .i64 i), (9, [], Value.pointer (some ⟨(pblk b_), (poff b_) + 4, none⟩))] (by kernel_rfl) (by kernel_rfl) ?_
    obtain ⟨v10, hc, h⟩ := h
    refine reg_load1 (t := 34) (a := (Go.Operand.tmp 9)) (b := (pblk b_)) (o := ((poff b_) + 4)) (ty := 34) (dst := some 10) (by kernel_rfl) (by kernel_rfl) (by kernel_rfl) hc ?_
    refine reg_run [.plain, .plain] 7 [(0, [], Value.pointer b_), (2, [], Value.int .i64 i), (12, [], Value.bool (decide (i < ((v10.len : Nat) : Int))))] (by kernel_rfl) (by kernel_rfl) ?_
    refine reg_end [(0, Value.pointer b_), (2, Value.int .i64 i), (12, Value.bool (decide (i < ((v10.len : Nat) : Int))))] (by kernel_rfl) (by kernel_rfl) ?_
    change WpE _ _ c_towpathlaw01_Book_growWrite_9 _ _ _
    refine wpE_cond (o := (Operand.tmp 12)) (b := (decide (i < ((v10.len : Nat) : Int)))) (x := c_towpathlaw01_Book_growWrite_10) (y := c_towpathlaw01_Book_growWrite_11) (by kernel_rfl) (by kernel_rfl) (fun hb => ?_) (fun hb => ?_)
    · replace h := h.1 hb
      exact h.elim
    · replace h := h.2 hb
      refine wpE_exit (id := 0) (by kernel_rfl) ?_
      repeat (first | refine seqQ_exit ?_ | refine loopQ_exit ?_ | refine cutQ_exit ?_ | refine blockQ_hit ?_ | refine blockQ_miss (by kernel_rfl) ?_)
      refine retQ_normal ?_
      repeat (first | refine seqQ_ret ?_ | refine blockQ_ret ?_ | refine loopQ_ret ?_ | refine cutQ_ret ?_)
      exact retT (rs := []) (vs := []) (by kernel_rfl) (trivial) (by kernel_rfl) ⟨rfl, h⟩
  · rintro e w' ⟨v, rfl, rfl, h⟩; exact ⟨rfl, h⟩

/-! ### (*towpath/towpathlaw01.Book).growEntry (function 48) -/
noncomputable def c_towpathlaw01_Book_growEntry_0 : Code := (Tryz.f48.body).getD Code.skip
noncomputable def c_towpathlaw01_Book_growEntry_1 : Code := Code.l c_towpathlaw01_Book_growEntry_0
noncomputable def r_towpathlaw01_Book_growEntry_1 : Array Oper := Code.ops c_towpathlaw01_Book_growEntry_1
noncomputable def c_towpathlaw01_Book_growEntry_3 : Code := Code.r c_towpathlaw01_Book_growEntry_0
noncomputable def c_towpathlaw01_Book_growEntry_4 : Code := Code.l c_towpathlaw01_Book_growEntry_3
noncomputable def c_towpathlaw01_Book_growEntry_5 : Code := Code.l c_towpathlaw01_Book_growEntry_4
noncomputable def c_towpathlaw01_Book_growEntry_6 : Code := Code.l c_towpathlaw01_Book_growEntry_5
noncomputable def c_towpathlaw01_Book_growEntry_7 : Code := Code.l c_towpathlaw01_Book_growEntry_6
noncomputable def r_towpathlaw01_Book_growEntry_7 : Array Oper := Code.ops c_towpathlaw01_Book_growEntry_7
noncomputable def c_towpathlaw01_Book_growEntry_9 : Code := Code.r c_towpathlaw01_Book_growEntry_6
noncomputable def c_towpathlaw01_Book_growEntry_10 : Code := Code.l c_towpathlaw01_Book_growEntry_9
noncomputable def c_towpathlaw01_Book_growEntry_11 : Code := Code.r c_towpathlaw01_Book_growEntry_9
noncomputable def c_towpathlaw01_Book_growEntry_12 : Code := Code.r c_towpathlaw01_Book_growEntry_5
noncomputable def c_towpathlaw01_Book_growEntry_13 : Code := Code.l c_towpathlaw01_Book_growEntry_12
noncomputable def c_towpathlaw01_Book_growEntry_14 : Code := Code.l c_towpathlaw01_Book_growEntry_13
noncomputable def c_towpathlaw01_Book_growEntry_15 : Code := Code.l c_towpathlaw01_Book_growEntry_14
noncomputable def r_towpathlaw01_Book_growEntry_15 : Array Oper := Code.ops c_towpathlaw01_Book_growEntry_15
noncomputable def c_towpathlaw01_Book_growEntry_17 : Code := Code.r c_towpathlaw01_Book_growEntry_14
noncomputable def c_towpathlaw01_Book_growEntry_18 : Code := Code.l c_towpathlaw01_Book_growEntry_17
noncomputable def r_towpathlaw01_Book_growEntry_18 : Array Oper := Code.ops c_towpathlaw01_Book_growEntry_18
noncomputable def c_towpathlaw01_Book_growEntry_20 : Code := Code.r c_towpathlaw01_Book_growEntry_17
noncomputable def c_towpathlaw01_Book_growEntry_21 : Code := Code.l c_towpathlaw01_Book_growEntry_20
noncomputable def c_towpathlaw01_Book_growEntry_22 : Code := Code.l c_towpathlaw01_Book_growEntry_21
noncomputable def r_towpathlaw01_Book_growEntry_22 : Array Oper := Code.ops c_towpathlaw01_Book_growEntry_22
noncomputable def c_towpathlaw01_Book_growEntry_24 : Code := Code.r c_towpathlaw01_Book_growEntry_21
noncomputable def c_towpathlaw01_Book_growEntry_25 : Code := Code.l c_towpathlaw01_Book_growEntry_24
noncomputable def c_towpathlaw01_Book_growEntry_26 : Code := Code.l c_towpathlaw01_Book_growEntry_25
noncomputable def c_towpathlaw01_Book_growEntry_27 : Code := Code.l c_towpathlaw01_Book_growEntry_26
noncomputable def c_towpathlaw01_Book_growEntry_28 : Code := Code.l c_towpathlaw01_Book_growEntry_27
noncomputable def r_towpathlaw01_Book_growEntry_28 : Array Oper := Code.ops c_towpathlaw01_Book_growEntry_28
noncomputable def c_towpathlaw01_Book_growEntry_30 : Code := Code.r c_towpathlaw01_Book_growEntry_27
noncomputable def c_towpathlaw01_Book_growEntry_31 : Code := Code.l c_towpathlaw01_Book_growEntry_30
noncomputable def c_towpathlaw01_Book_growEntry_32 : Code := Code.r c_towpathlaw01_Book_growEntry_30
noncomputable def c_towpathlaw01_Book_growEntry_33 : Code := Code.r c_towpathlaw01_Book_growEntry_26
noncomputable def c_towpathlaw01_Book_growEntry_34 : Code := Code.l c_towpathlaw01_Book_growEntry_33
noncomputable def c_towpathlaw01_Book_growEntry_35 : Code := Code.l c_towpathlaw01_Book_growEntry_34
noncomputable def r_towpathlaw01_Book_growEntry_35 : Array Oper := Code.ops c_towpathlaw01_Book_growEntry_35
noncomputable def c_towpathlaw01_Book_growEntry_37 : Code := Code.r c_towpathlaw01_Book_growEntry_33
noncomputable def r_towpathlaw01_Book_growEntry_37 : Array Oper := Code.ops c_towpathlaw01_Book_growEntry_37
noncomputable def c_towpathlaw01_Book_growEntry_39 : Code := Code.r c_towpathlaw01_Book_growEntry_20
noncomputable def r_towpathlaw01_Book_growEntry_39 : Array Oper := Code.ops c_towpathlaw01_Book_growEntry_39
noncomputable def c_towpathlaw01_Book_growEntry_41 : Code := Code.r c_towpathlaw01_Book_growEntry_12
noncomputable def r_towpathlaw01_Book_growEntry_41 : Array Oper := Code.ops c_towpathlaw01_Book_growEntry_41

set_option maxRecDepth 100000 in
set_option maxHeartbeats 4000000 in
theorem S_towpathlaw01_Book_growEntry {b_ : Option Addr} {w : World} {R : World → Prop} (h : F_towpathlaw01_Book_growEntry b_ R w) : C_towpathlaw01_Book_growEntry b_ w R := by
  unfold F_towpathlaw01_Book_growEntry at h
  unfold C_towpathlaw01_Book_growEntry
  refine Calls.mono (calls_of_wpE (args := [Value.pointer b_]) (R := fun v w' => v = Value.tuple #[] ∧ R w') Tryz.func48 (c := c_towpathlaw01_Book_growEntry_0) (by kernel_rfl) 42 (by kernel_rfl) (by kernel_rfl) [(0, Value.pointer b_)] (by kernel_rfl) ?_) ?_
  · refine wpE_seq (x := c_towpathlaw01_Book_growEntry_1) (y := c_towpathlaw01_Book_growEntry_3) (by kernel_rfl) ?_
    refine wpE_region (id := 0) (ops := r_towpathlaw01_Book_growEntry_1) (by kernel_rfl) ?_
    refine reg_run [.plain] 1 [(0, [], Value.pointer b_), (2, [], Value.int .i64 0)] (by kernel_rfl) (by kernel_rfl) ?_
    refine reg_end [(0, Value.pointer b_), (2, Value.int .i64 0)] (by kernel_rfl) (by kernel_rfl) ?_
    change WpE _ _ c_towpathlaw01_Book_growEntry_3 _ _ _
    refine wpE_block (id := 0) (x := c_towpathlaw01_Book_growEntry_4) (by kernel_rfl) ?_
    obtain ⟨I, μ, h0, hr⟩ := h
    refine wpE_loop (x := c_towpathlaw01_Book_growEntry_5) (by kernel_rfl) (fun m l w => ∃ (i : Int), l = [(0, Value.pointer b_), (2, Value.int .i64 i)] ∧ I i w ∧ μ i w = m) (l' := [(0, Value.pointer b_), (2, Value.int .i64 0)]) (Sub.mk (by kernel_rfl)) ⟨0, rfl, h0, rfl⟩ ?_
    rintro _ _ w1 ⟨i, rfl, hI, rfl⟩
    obtain ⟨again_, again__h, h⟩ : ∃ again_ : Int → World → Prop, (∀ i' w', again_ i' w' → I i' w' ∧ μ i' w' < μ i w1) ∧ F_towpathlaw01_Book_growEntry_L0 b_ R again_ i w1 := ⟨_, fun _ _ h => h, hr i w1 hI⟩
    clear h0 hI
    unfold F_towpathlaw01_Book_growEntry_L0 at h
    refine wpE_seq (x := c_towpathlaw01_Book_growEntry_6) (y := c_towpathlaw01_Book_growEntry_12) (by kernel_rfl) ?_
    refine wpE_seq (x := c_towpathlaw01_Book_growEntry_7) (y := c_towpathlaw01_Book_growEntry_9) (by kernel_rfl) ?_
    refine wpE_region (id := 1) (ops := r_towpathlaw01_Book_growEntry_7) (by kernel_rfl) ?_
    refine reg_run [.plain, .plain] 2 [(0, [], Value.pointer b_), (2, [], Value.int .i64 i), (6, [], Value.int .i64 i), (7, [], Value.pointer b_)] (by kernel_rfl) (by kernel_rfl) ?_
    obtain ⟨hp_3, h⟩ := h
    refine reg_conv [(0, [], Value.pointer b_), (2, [], Value.int .i64 i), (6, [], Value.int .i64 i), (7, [], Value.pointer (some ⟨(pblk b_), (poff b_), none⟩))] (congrArg (fun pp => ([(0, [], Value.pointer b_), (2, [], Value.int .i64 i), (6, [], Value.int .i64 i), (7, [], Value.pointer pp)] : GEnv)) hp_3) ?_
    refine reg_run [.plain] 3 [(0, [], Value.pointer b_), (2, [], Value.int .i64 i), (6, [], Value.int .i64 i), (7, [], Value.pointer (some ⟨(pblk b_), (poff b_), none⟩)), (8, [], Value.pointer (some ⟨(pblk b_), (poff b_), none⟩))] (by kernel_rfl) (by kernel_rfl) ?_
    refine reg_run [.plain] 4 [(0, [], Value.pointer b_), (2, [], Value.int .i64 i), (6, [], Value.int .i64 i), (9, [], Value.pointer (some ⟨(pblk b_), (poff b_) + 5, none⟩))] (by kernel_rfl) (by kernel_rfl) ?_
    obtain ⟨v10, hc, h⟩ := h
    refine reg_load1 (t := 35) (a := (Go.Operand.tmp 9)) (b := (pblk b_)) (o := ((poff b_) + 5)) (ty := 35) (dst := some 10) (by kernel_rfl) (by kernel_rfl) (by kernel_rfl) hc ?_
    refine reg_run [.plain, .plain] 7 [(0, [], Value.pointer b_), (2, [], Value.int .i64 i), (12, [], Value.bool (decide (i < ((v10.len : Nat) : Int))))] (by kernel_rfl) (by kernel_rfl) ?_
    refine reg_end [(0, Value.pointer b_), (2, Value.int .i64 i), (12, Value.bool (decide (i < ((v10.len : Nat) : Int))))] (by kernel_rfl) (by kernel_rfl) ?_
    change WpE _ _ c_towpathlaw01_Book_growEntry_9 _ _ _
    refine wpE_cond (o := (Operand.tmp 12)) (b := (decide (i < ((v10.len : Nat) : Int)))) (x := c_towpathlaw01_Book_growEntry_10) (y := c_towpathlaw01_Book_growEntry_11) (by kernel_rfl) (by kernel_rfl) (fun hb => ?_) (fun hb => ?_)
    · replace h := h.1 hb
      exact h.elim
    · replace h := h.2 hb
      refine wpE_exit (id := 0) (by kernel_rfl) ?_
      repeat (first | refine seqQ_exit ?_ | refine loopQ_exit ?_ | refine cutQ_exit ?_ | refine blockQ_hit ?_ | refine blockQ_miss (by kernel_rfl) ?_)
      refine retQ_normal ?_
      repeat (first | refine seqQ_ret ?_ | refine blockQ_ret ?_ | refine loopQ_ret ?_ | refine cutQ_ret ?_)
      exact retT (rs := []) (vs := []) (by kernel_rfl) (trivial) (by kernel_rfl) ⟨rfl, h⟩
  · rintro e w' ⟨v, rfl, rfl, h⟩; exact ⟨rfl, h⟩

/-! ### (*towpath/towpathlaw01.Book).growVersion (function 49) -/
noncomputable def c_towpathlaw01_Book_growVersion_0 : Code := (Tryz.f49.body).getD Code.skip
noncomputable def c_towpathlaw01_Book_growVersion_1 : Code := Code.l c_towpathlaw01_Book_growVersion_0
noncomputable def r_towpathlaw01_Book_growVersion_1 : Array Oper := Code.ops c_towpathlaw01_Book_growVersion_1
noncomputable def c_towpathlaw01_Book_growVersion_3 : Code := Code.r c_towpathlaw01_Book_growVersion_0
noncomputable def c_towpathlaw01_Book_growVersion_4 : Code := Code.l c_towpathlaw01_Book_growVersion_3
noncomputable def c_towpathlaw01_Book_growVersion_5 : Code := Code.l c_towpathlaw01_Book_growVersion_4
noncomputable def c_towpathlaw01_Book_growVersion_6 : Code := Code.l c_towpathlaw01_Book_growVersion_5
noncomputable def c_towpathlaw01_Book_growVersion_7 : Code := Code.l c_towpathlaw01_Book_growVersion_6
noncomputable def r_towpathlaw01_Book_growVersion_7 : Array Oper := Code.ops c_towpathlaw01_Book_growVersion_7
noncomputable def c_towpathlaw01_Book_growVersion_9 : Code := Code.r c_towpathlaw01_Book_growVersion_6
noncomputable def c_towpathlaw01_Book_growVersion_10 : Code := Code.l c_towpathlaw01_Book_growVersion_9
noncomputable def c_towpathlaw01_Book_growVersion_11 : Code := Code.r c_towpathlaw01_Book_growVersion_9
noncomputable def c_towpathlaw01_Book_growVersion_12 : Code := Code.r c_towpathlaw01_Book_growVersion_5
noncomputable def c_towpathlaw01_Book_growVersion_13 : Code := Code.l c_towpathlaw01_Book_growVersion_12
noncomputable def c_towpathlaw01_Book_growVersion_14 : Code := Code.l c_towpathlaw01_Book_growVersion_13
noncomputable def c_towpathlaw01_Book_growVersion_15 : Code := Code.l c_towpathlaw01_Book_growVersion_14
noncomputable def r_towpathlaw01_Book_growVersion_15 : Array Oper := Code.ops c_towpathlaw01_Book_growVersion_15
noncomputable def c_towpathlaw01_Book_growVersion_17 : Code := Code.r c_towpathlaw01_Book_growVersion_14
noncomputable def c_towpathlaw01_Book_growVersion_18 : Code := Code.l c_towpathlaw01_Book_growVersion_17
noncomputable def r_towpathlaw01_Book_growVersion_18 : Array Oper := Code.ops c_towpathlaw01_Book_growVersion_18
noncomputable def c_towpathlaw01_Book_growVersion_20 : Code := Code.r c_towpathlaw01_Book_growVersion_17
noncomputable def c_towpathlaw01_Book_growVersion_21 : Code := Code.l c_towpathlaw01_Book_growVersion_20
noncomputable def c_towpathlaw01_Book_growVersion_22 : Code := Code.l c_towpathlaw01_Book_growVersion_21
noncomputable def r_towpathlaw01_Book_growVersion_22 : Array Oper := Code.ops c_towpathlaw01_Book_growVersion_22
noncomputable def c_towpathlaw01_Book_growVersion_24 : Code := Code.r c_towpathlaw01_Book_growVersion_21
noncomputable def c_towpathlaw01_Book_growVersion_25 : Code := Code.l c_towpathlaw01_Book_growVersion_24
noncomputable def c_towpathlaw01_Book_growVersion_26 : Code := Code.l c_towpathlaw01_Book_growVersion_25
noncomputable def c_towpathlaw01_Book_growVersion_27 : Code := Code.l c_towpathlaw01_Book_growVersion_26
noncomputable def c_towpathlaw01_Book_growVersion_28 : Code := Code.l c_towpathlaw01_Book_growVersion_27
noncomputable def r_towpathlaw01_Book_growVersion_28 : Array Oper := Code.ops c_towpathlaw01_Book_growVersion_28
noncomputable def c_towpathlaw01_Book_growVersion_30 : Code := Code.r c_towpathlaw01_Book_growVersion_27
noncomputable def c_towpathlaw01_Book_growVersion_31 : Code := Code.l c_towpathlaw01_Book_growVersion_30
noncomputable def c_towpathlaw01_Book_growVersion_32 : Code := Code.r c_towpathlaw01_Book_growVersion_30
noncomputable def c_towpathlaw01_Book_growVersion_33 : Code := Code.r c_towpathlaw01_Book_growVersion_26
noncomputable def c_towpathlaw01_Book_growVersion_34 : Code := Code.l c_towpathlaw01_Book_growVersion_33
noncomputable def c_towpathlaw01_Book_growVersion_35 : Code := Code.l c_towpathlaw01_Book_growVersion_34
noncomputable def r_towpathlaw01_Book_growVersion_35 : Array Oper := Code.ops c_towpathlaw01_Book_growVersion_35
noncomputable def c_towpathlaw01_Book_growVersion_37 : Code := Code.r c_towpathlaw01_Book_growVersion_33
noncomputable def r_towpathlaw01_Book_growVersion_37 : Array Oper := Code.ops c_towpathlaw01_Book_growVersion_37
noncomputable def c_towpathlaw01_Book_growVersion_39 : Code := Code.r c_towpathlaw01_Book_growVersion_20
noncomputable def r_towpathlaw01_Book_growVersion_39 : Array Oper := Code.ops c_towpathlaw01_Book_growVersion_39
noncomputable def c_towpathlaw01_Book_growVersion_41 : Code := Code.r c_towpathlaw01_Book_growVersion_12
noncomputable def r_towpathlaw01_Book_growVersion_41 : Array Oper := Code.ops c_towpathlaw01_Book_growVersion_41

set_option maxRecDepth 100000 in
set_option maxHeartbeats 4000000 in
theorem S_towpathlaw01_Book_growVersion {b_ : Option Addr} {w : World} {R : World → Prop} (h : F_towpathlaw01_Book_growVersion b_ R w) : C_towpathlaw01_Book_growVersion b_ w R := by
  unfold F_towpathlaw01_Book_growVersion at h
  unfold C_towpathlaw01_Book_growVersion
  refine Calls.mono (calls_of_wpE (args := [Value.pointer b_]) (R := fun v w' => v = Value.tuple #[] ∧ R w') Tryz.func49 (c := c_towpathlaw01_Book_growVersion_0) (by kernel_rfl) 42 (by kernel_rfl) (by kernel_rfl) [(0, Value.pointer b_)] (by kernel_rfl) ?_) ?_
  · refine wpE_seq (x := c_towpathlaw01_Book_growVersion_1) (y := c_towpathlaw01_Book_growVersion_3) (by kernel_rfl) ?_
    refine wpE_region (id := 0) (ops := r_towpathlaw01_Book_growVersion_1) (by kernel_rfl) ?_
    refine reg_run [.plain] 1 [(0, [], Value.pointer b_), (2, [], Value.int .i64 0)] (by kernel_rfl) (by kernel_rfl) ?_
    refine reg_end [(0, Value.pointer b_), (2, Value.int .i64 0)] (by kernel_rfl) (by kernel_rfl) ?_
    change WpE _ _ c_towpathlaw01_Book_growVersion_3 _ _ _
    refine wpE_block (id := 0) (x := c_towpathlaw01_Book_growVersion_4) (by kernel_rfl) ?_
    obtain ⟨I, μ, h0, hr⟩ := h
    refine wpE_loop (x := c_towpathlaw01_Book_growVersion_5) (by kernel_rfl) (fun m l w => ∃ (i : Int), l = [(0, Value.pointer b_), (2, Value.int .i64 i)] ∧ I i w ∧ μ i w = m) (l' := [(0, Value.pointer b_), (2, Value.int .i64 0)]) (Sub.mk (by kernel_rfl)) ⟨0, rfl, h0, rfl⟩ ?_
    rintro _ _ w1 ⟨i, rfl, hI, rfl⟩
    obtain ⟨again_, again__h, h⟩ : ∃ again_ : Int → World → Prop, (∀ i' w', again_ i' w' → I i' w' ∧ μ i' w' < μ i w1) ∧ F_towpathlaw01_Book_growVersion_L0 b_ R again_ i w1 := ⟨_, fun _ _ h => h, hr i w1 hI⟩
    clear h0 hI
    unfold F_towpathlaw01_Book_growVersion_L0 at h
    refine wpE_seq (x := c_towpathlaw01_Book_growVersion_6) (y := c_towpathlaw01_Book_growVersion_12) (by kernel_rfl) ?_
    refine wpE_seq (x := c_towpathlaw01_Book_growVersion_7) (y := c_towpathlaw01_Book_growVersion_9) (by kernel_rfl) ?_
    refine wpE_region (id := 1) (ops := r_towpathlaw01_Book_growVersion_7) (by kernel_rfl) ?_
    refine reg_run [.plain, .plain] 2 [(0, [], Value.pointer b_), (2, [], Value.int .i64 i), (6, [], Value.int .i64 i), (7, [], Value.pointer b_)] (by kernel_rfl) (by kernel_rfl) ?_
    obtain ⟨hp_3, h⟩ := h
    refine reg_conv [(0, [], Value.pointer b_), (2, [], Value.int .i64 i), (6, [], Value.int .i64 i), (7, [], Value.pointer (some ⟨(pblk b_), (poff b_), none⟩))] (congrArg (fun pp => ([(0, [], Value.pointer b_), (2, [], Value.int .i64 i), (6, [], Value.int .i64 i), (7, [], Value.pointer pp)] : GEnv)) hp_3) ?_
    refine reg_run [.plain] 3 [(0, [], Value.pointer b_), (2, [], Value.int .i64 i), (6, [], Value.int .i64 i), (7, [], Value.pointer (some ⟨(pblk b_), (poff b_), none⟩)), (8, [], Value.pointer (some ⟨(pblk b_), (poff b_), none⟩))] (by kernel_rfl) (by kernel_rfl) ?_
    refine reg_run [.plain] 4 [(0, [], Value.pointer b_), (2, [], Value.int .i64 i), (6, [], Value.int .i64 i), (9, [], Value.pointer (some ⟨(pblk b_), (poff b_) + 6, none⟩))] (by kernel_rfl) (by kernel_rfl) ?_
    obtain ⟨v10, hc, h⟩ := h
    refine reg_load1 (t := 36) (a := (Go.Operand.tmp 9)) (b := (pblk b_)) (o := ((poff b_) + 6)) (ty := 36) (dst := some 10) (by kernel_rfl) (by kernel_rfl) (by kernel_rfl) hc ?_
    refine reg_run [.plain, .plain] 7 [(0, [], Value.pointer b_), (2, [], Value.int .i64 i), (12, [], Value.bool (decide (i < ((v10.len : Nat) : Int))))] (by kernel_rfl) (by kernel_rfl) ?_
    refine reg_end [(0, Value.pointer b_), (2, Value.int .i64 i), (12, Value.bool (decide (i < ((v10.len : Nat) : Int))))] (by kernel_rfl) (by kernel_rfl) ?_
    change WpE _ _ c_towpathlaw01_Book_growVersion_9 _ _ _
    refine wpE_cond (o := (Operand.tmp 12)) (b := (decide (i < ((v10.len : Nat) : Int)))) (x := c_towpathlaw01_Book_growVersion_10) (y := c_towpathlaw01_Book_growVersion_11) (by kernel_rfl) (by kernel_rfl) (fun hb => ?_) (fun hb => ?_)
    · replace h := h.1 hb
      exact h.elim
    · replace h := h.2 hb
      refine wpE_exit (id := 0) (by kernel_rfl) ?_
      repeat (first | refine seqQ_exit ?_ | refine loopQ_exit ?_ | refine cutQ_exit ?_ | refine blockQ_hit ?_ | refine blockQ_miss (by kernel_rfl) ?_)
      refine retQ_normal ?_
      repeat (first | refine seqQ_ret ?_ | refine blockQ_ret ?_ | refine loopQ_ret ?_ | refine cutQ_ret ?_)
      exact retT (rs := []) (vs := []) (by kernel_rfl) (trivial) (by kernel_rfl) ⟨rfl, h⟩
  · rintro e w' ⟨v, rfl, rfl, h⟩; exact ⟨rfl, h⟩

/-! ### (*towpath/towpathlaw01.Book).growTxn (function 50) -/
noncomputable def c_towpathlaw01_Book_growTxn_0 : Code := (Tryz.f50.body).getD Code.skip
noncomputable def c_towpathlaw01_Book_growTxn_1 : Code := Code.l c_towpathlaw01_Book_growTxn_0
noncomputable def r_towpathlaw01_Book_growTxn_1 : Array Oper := Code.ops c_towpathlaw01_Book_growTxn_1
noncomputable def c_towpathlaw01_Book_growTxn_3 : Code := Code.r c_towpathlaw01_Book_growTxn_0
noncomputable def c_towpathlaw01_Book_growTxn_4 : Code := Code.l c_towpathlaw01_Book_growTxn_3
noncomputable def c_towpathlaw01_Book_growTxn_5 : Code := Code.l c_towpathlaw01_Book_growTxn_4
noncomputable def c_towpathlaw01_Book_growTxn_6 : Code := Code.l c_towpathlaw01_Book_growTxn_5
noncomputable def c_towpathlaw01_Book_growTxn_7 : Code := Code.l c_towpathlaw01_Book_growTxn_6
noncomputable def r_towpathlaw01_Book_growTxn_7 : Array Oper := Code.ops c_towpathlaw01_Book_growTxn_7
noncomputable def c_towpathlaw01_Book_growTxn_9 : Code := Code.r c_towpathlaw01_Book_growTxn_6
noncomputable def c_towpathlaw01_Book_growTxn_10 : Code := Code.l c_towpathlaw01_Book_growTxn_9
noncomputable def c_towpathlaw01_Book_growTxn_11 : Code := Code.r c_towpathlaw01_Book_growTxn_9
noncomputable def c_towpathlaw01_Book_growTxn_12 : Code := Code.r c_towpathlaw01_Book_growTxn_5
noncomputable def c_towpathlaw01_Book_growTxn_13 : Code := Code.l c_towpathlaw01_Book_growTxn_12
noncomputable def c_towpathlaw01_Book_growTxn_14 : Code := Code.l c_towpathlaw01_Book_growTxn_13
noncomputable def c_towpathlaw01_Book_growTxn_15 : Code := Code.l c_towpathlaw01_Book_growTxn_14
noncomputable def r_towpathlaw01_Book_growTxn_15 : Array Oper := Code.ops c_towpathlaw01_Book_growTxn_15
noncomputable def c_towpathlaw01_Book_growTxn_17 : Code := Code.r c_towpathlaw01_Book_growTxn_14
noncomputable def c_towpathlaw01_Book_growTxn_18 : Code := Code.l c_towpathlaw01_Book_growTxn_17
noncomputable def r_towpathlaw01_Book_growTxn_18 : Array Oper := Code.ops c_towpathlaw01_Book_growTxn_18
noncomputable def c_towpathlaw01_Book_growTxn_20 : Code := Code.r c_towpathlaw01_Book_growTxn_17
noncomputable def c_towpathlaw01_Book_growTxn_21 : Code := Code.l c_towpathlaw01_Book_growTxn_20
noncomputable def c_towpathlaw01_Book_growTxn_22 : Code := Code.l c_towpathlaw01_Book_growTxn_21
noncomputable def r_towpathlaw01_Book_growTxn_22 : Array Oper := Code.ops c_towpathlaw01_Book_growTxn_22
noncomputable def c_towpathlaw01_Book_growTxn_24 : Code := Code.r c_towpathlaw01_Book_growTxn_21
noncomputable def c_towpathlaw01_Book_growTxn_25 : Code := Code.l c_towpathlaw01_Book_growTxn_24
noncomputable def c_towpathlaw01_Book_growTxn_26 : Code := Code.l c_towpathlaw01_Book_growTxn_25
noncomputable def c_towpathlaw01_Book_growTxn_27 : Code := Code.l c_towpathlaw01_Book_growTxn_26
noncomputable def c_towpathlaw01_Book_growTxn_28 : Code := Code.l c_towpathlaw01_Book_growTxn_27
noncomputable def r_towpathlaw01_Book_growTxn_28 : Array Oper := Code.ops c_towpathlaw01_Book_growTxn_28
noncomputable def c_towpathlaw01_Book_growTxn_30 : Code := Code.r c_towpathlaw01_Book_growTxn_27
noncomputable def c_towpathlaw01_Book_growTxn_31 : Code := Code.l c_towpathlaw01_Book_growTxn_30
noncomputable def c_towpathlaw01_Book_growTxn_32 : Code := Code.r c_towpathlaw01_Book_growTxn_30
noncomputable def c_towpathlaw01_Book_growTxn_33 : Code := Code.r c_towpathlaw01_Book_growTxn_26
noncomputable def c_towpathlaw01_Book_growTxn_34 : Code := Code.l c_towpathlaw01_Book_growTxn_33
noncomputable def c_towpathlaw01_Book_growTxn_35 : Code := Code.l c_towpathlaw01_Book_growTxn_34
noncomputable def r_towpathlaw01_Book_growTxn_35 : Array Oper := Code.ops c_towpathlaw01_Book_growTxn_35
noncomputable def c_towpathlaw01_Book_growTxn_37 : Code := Code.r c_towpathlaw01_Book_growTxn_33
noncomputable def r_towpathlaw01_Book_growTxn_37 : Array Oper := Code.ops c_towpathlaw01_Book_growTxn_37
noncomputable def c_towpathlaw01_Book_growTxn_39 : Code := Code.r c_towpathlaw01_Book_growTxn_20
noncomputable def r_towpathlaw01_Book_growTxn_39 : Array Oper := Code.ops c_towpathlaw01_Book_growTxn_39
noncomputable def c_towpathlaw01_Book_growTxn_41 : Code := Code.r c_towpathlaw01_Book_growTxn_12
noncomputable def r_towpathlaw01_Book_growTxn_41 : Array Oper := Code.ops c_towpathlaw01_Book_growTxn_41

set_option maxRecDepth 100000 in
set_option maxHeartbeats 4000000 in
theorem S_towpathlaw01_Book_growTxn {b_ : Option Addr} {w : World} {R : World → Prop} (h : F_towpathlaw01_Book_growTxn b_ R w) : C_towpathlaw01_Book_growTxn b_ w R := by
  unfold F_towpathlaw01_Book_growTxn at h
  unfold C_towpathlaw01_Book_growTxn
  refine Calls.mono (calls_of_wpE (args := [Value.pointer b_]) (R := fun v w' => v = Value.tuple #[] ∧ R w') Tryz.func50 (c := c_towpathlaw01_Book_growTxn_0) (by kernel_rfl) 42 (by kernel_rfl) (by kernel_rfl) [(0, Value.pointer b_)] (by kernel_rfl) ?_) ?_
  · refine wpE_seq (x := c_towpathlaw01_Book_growTxn_1) (y := c_towpathlaw01_Book_growTxn_3) (by kernel_rfl) ?_
    refine wpE_region (id := 0) (ops := r_towpathlaw01_Book_growTxn_1) (by kernel_rfl) ?_
    refine reg_run [.plain] 1 [(0, [], Value.pointer b_), (2, [], Value.int .i64 0)] (by kernel_rfl) (by kernel_rfl) ?_
    refine reg_end [(0, Value.pointer b_), (2, Value.int .i64 0)] (by kernel_rfl) (by kernel_rfl) ?_
    change WpE _ _ c_towpathlaw01_Book_growTxn_3 _ _ _
    refine wpE_block (id := 0) (x := c_towpathlaw01_Book_growTxn_4) (by kernel_rfl) ?_
    obtain ⟨I, μ, h0, hr⟩ := h
    refine wpE_loop (x := c_towpathlaw01_Book_growTxn_5) (by kernel_rfl) (fun m l w => ∃ (i : Int), l = [(0, Value.pointer b_), (2, Value.int .i64 i)] ∧ I i w ∧ μ i w = m) (l' := [(0, Value.pointer b_), (2, Value.int .i64 0)]) (Sub.mk (by kernel_rfl)) ⟨0, rfl, h0, rfl⟩ ?_
    rintro _ _ w1 ⟨i, rfl, hI, rfl⟩
    obtain ⟨again_, again__h, h⟩ : ∃ again_ : Int → World → Prop, (∀ i' w', again_ i' w' → I i' w' ∧ μ i' w' < μ i w1) ∧ F_towpathlaw01_Book_growTxn_L0 b_ R again_ i w1 := ⟨_, fun _ _ h => h, hr i w1 hI⟩
    clear h0 hI
    unfold F_towpathlaw01_Book_growTxn_L0 at h
    refine wpE_seq (x := c_towpathlaw01_Book_growTxn_6) (y := c_towpathlaw01_Book_growTxn_12) (by kernel_rfl) ?_
    refine wpE_seq (x := c_towpathlaw01_Book_growTxn_7) (y := c_towpathlaw01_Book_growTxn_9) (by kernel_rfl) ?_
    refine wpE_region (id := 1) (ops := r_towpathlaw01_Book_growTxn_7) (by kernel_rfl) ?_
    refine reg_run [.plain, .plain] 2 [(0, [], Value.pointer b_), (2, [], Value.int .i64 i), (6, [], Value.int .i64 i), (7, [], Value.pointer b_)] (by kernel_rfl) (by kernel_rfl) ?_
    obtain ⟨hp_3, h⟩ := h
    refine reg_conv [(0, [], Value.pointer b_), (2, [], Value.int .i64 i), (6, [], Value.int .i64 i), (7, [], Value.pointer (some ⟨(pblk b_), (poff b_), none⟩))] (congrArg (fun pp => ([(0, [], Value.pointer b_), (2, [], Value.int .i64 i), (6, [], Value.int .i64 i), (7, [], Value.pointer pp)] : GEnv)) hp_3) ?_
    refine reg_run [.plain] 3 [(0, [], Value.pointer b_), (2, [], Value.int .i64 i), (6, [], Value.int .i64 i), (7, [], Value.pointer (some ⟨(pblk b_), (poff b_), none⟩)), (8, [], Value.pointer (some ⟨(pblk b_), (poff b_), none⟩))] (by kernel_rfl) (by kernel_rfl) ?_
    refine reg_run [.plain] 4 [(0, [], Value.pointer b_), (2, [], Value.int .i64 i), (6, [], Value.int .i64 i), (9, [], Value.pointer (some ⟨(pblk b_), (poff b_) + 7, none⟩))] (by kernel_rfl) (by kernel_rfl) ?_
    obtain ⟨v10, hc, h⟩ := h
    refine reg_load1 (t := 37) (a := (Go.Operand.tmp 9)) (b := (pblk b_)) (o := ((poff b_) + 7)) (ty := 37) (dst := some 10) (by kernel_rfl) (by kernel_rfl) (by kernel_rfl) hc ?_
    refine reg_run [.plain, .plain] 7 [(0, [], Value.pointer b_), (2, [], Value.int .i64 i), (12, [], Value.bool (decide (i < ((v10.len : Nat) : Int))))] (by kernel_rfl) (by kernel_rfl) ?_
    refine reg_end [(0, Value.pointer b_), (2, Value.int .i64 i), (12, Value.bool (decide (i < ((v10.len : Nat) : Int))))] (by kernel_rfl) (by kernel_rfl) ?_
    change WpE _ _ c_towpathlaw01_Book_growTxn_9 _ _ _
    refine wpE_cond (o := (Operand.tmp 12)) (b := (decide (i < ((v10.len : Nat) : Int)))) (x := c_towpathlaw01_Book_growTxn_10) (y := c_towpathlaw01_Book_growTxn_11) (by kernel_rfl) (by kernel_rfl) (fun hb => ?_) (fun hb => ?_)
    · replace h := h.1 hb
      exact h.elim
    · replace h := h.2 hb
      refine wpE_exit (id := 0) (by kernel_rfl) ?_
      repeat (first | refine seqQ_exit ?_ | refine loopQ_exit ?_ | refine cutQ_exit ?_ | refine blockQ_hit ?_ | refine blockQ_miss (by kernel_rfl) ?_)
      refine retQ_normal ?_
      repeat (first | refine seqQ_ret ?_ | refine blockQ_ret ?_ | refine loopQ_ret ?_ | refine cutQ_ret ?_)
      exact retT (rs := []) (vs := []) (by kernel_rfl) (trivial) (by kernel_rfl) ⟨rfl, h⟩
  · rintro e w' ⟨v, rfl, rfl, h⟩; exact ⟨rfl, h⟩
end Go.Proofs.YtckmganidgbpgaaGreatDoor
