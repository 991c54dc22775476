/- WRITTEN BY PROGRAM (dec.py): for each Go function the clean formula F, the call's contract C, and the proof S that F gives C. -/
import Derived.Test.YtcgfmkpddhhmgaaDoorRows
import Derived.Test.YtcgfmkpddhhmgaaDoorGF
namespace Go.Proofs.YtcgfmkpddhhmgaaDoor
open Go
set_option linter.unusedVariables false

/-! ### sort.Search (function 67) -/
noncomputable def c_sort_Search_0 : Code := (Tryd.f67.body).getD Code.skip
noncomputable def c_sort_Search_1 : Code := Code.l c_sort_Search_0
noncomputable def r_sort_Search_1 : Array Oper := Code.ops c_sort_Search_1
noncomputable def c_sort_Search_3 : Code := Code.r c_sort_Search_0
noncomputable def c_sort_Search_4 : Code := Code.l c_sort_Search_3
noncomputable def r_sort_Search_4 : Array Oper := Code.ops c_sort_Search_4
noncomputable def c_sort_Search_6 : Code := Code.r c_sort_Search_3
noncomputable def c_sort_Search_7 : Code := Code.l c_sort_Search_6
noncomputable def c_sort_Search_8 : Code := Code.l c_sort_Search_7
noncomputable def c_sort_Search_9 : Code := Code.l c_sort_Search_8
noncomputable def c_sort_Search_10 : Code := Code.l c_sort_Search_9
noncomputable def c_sort_Search_11 : Code := Code.l c_sort_Search_10
noncomputable def r_sort_Search_11 : Array Oper := Code.ops c_sort_Search_11
noncomputable def c_sort_Search_13 : Code := Code.r c_sort_Search_10
noncomputable def c_sort_Search_14 : Code := Code.l c_sort_Search_13
noncomputable def c_sort_Search_15 : Code := Code.r c_sort_Search_13
noncomputable def c_sort_Search_16 : Code := Code.r c_sort_Search_9
noncomputable def c_sort_Search_17 : Code := Code.l c_sort_Search_16
noncomputable def c_sort_Search_18 : Code := Code.l c_sort_Search_17
noncomputable def r_sort_Search_18 : Array Oper := Code.ops c_sort_Search_18
noncomputable def c_sort_Search_20 : Code := Code.r c_sort_Search_17
noncomputable def c_sort_Search_21 : Code := Code.l c_sort_Search_20
noncomputable def r_sort_Search_21 : Array Oper := Code.ops c_sort_Search_21
noncomputable def c_sort_Search_23 : Code := Code.r c_sort_Search_20
noncomputable def c_sort_Search_24 : Code := Code.l c_sort_Search_23
noncomputable def r_sort_Search_24 : Array Oper := Code.ops c_sort_Search_24
noncomputable def c_sort_Search_26 : Code := Code.r c_sort_Search_23
noncomputable def r_sort_Search_26 : Array Oper := Code.ops c_sort_Search_26
noncomputable def c_sort_Search_28 : Code := Code.r c_sort_Search_6
noncomputable def c_sort_Search_29 : Code := Code.l c_sort_Search_28
noncomputable def r_sort_Search_29 : Array Oper := Code.ops c_sort_Search_29
noncomputable def c_sort_Search_31 : Code := Code.r c_sort_Search_28

set_option maxRecDepth 100000 in
set_option maxHeartbeats 4000000 in
theorem S_sort_Search {n_ : Int} {f : Value} {w : World} {R : Int → World → Prop} (h : F_sort_Search n_ f R w) : C_sort_Search n_ f w R := by
  unfold F_sort_Search at h
  unfold C_sort_Search
  refine Calls.mono (calls_of_wpE (args := [Value.int .i64 n_, f]) (R := fun v w' => ∃ (r0 : Int), v = Value.int .i64 r0 ∧ R r0 w') Tryd.func67 (c := c_sort_Search_0) (by kernel_rfl) 26 (by kernel_rfl) (by kernel_rfl) [(0, Value.int .i64 n_), (1, f)] (by kernel_rfl) ?_) ?_
  · refine wpE_seq (x := c_sort_Search_1) (y := c_sort_Search_3) (by kernel_rfl) ?_
    refine wpE_region (id := 0) (ops := r_sort_Search_1) (by kernel_rfl) ?_
    refine reg_run [.plain] 1 [(0, [], Value.int .i64 n_), (1, [], f)] (by kernel_rfl) (by kernel_rfl) ?_
    refine reg_end [(0, Value.int .i64 n_), (1, f)] (by kernel_rfl) (by kernel_rfl) ?_
    change WpE _ _ c_sort_Search_3 _ _ _
    refine wpE_seq (x := c_sort_Search_4) (y := c_sort_Search_6) (by kernel_rfl) ?_
    refine wpE_region (id := 1) (ops := r_sort_Search_4) (by kernel_rfl) ?_
    refine reg_run [.plain, .plain, .plain] 3 [(1, [], f), (5, [], Value.int .i64 0), (6, [], Value.int .i64 n_)] (by kernel_rfl) (by kernel_rfl) ?_
    refine reg_end [(1, f), (5, Value.int .i64 0), (6, Value.int .i64 n_)] (by kernel_rfl) (by kernel_rfl) ?_
    change WpE _ _ c_sort_Search_6 _ _ _
    refine wpE_seq (x := c_sort_Search_7) (y := c_sort_Search_28) (by kernel_rfl) ?_
    refine wpE_block (id := 0) (x := c_sort_Search_8) (by kernel_rfl) ?_
    obtain ⟨I, μ, h0, hr⟩ := h
    refine wpE_loop (x := c_sort_Search_9) (by kernel_rfl) (fun m l w => ∃ (i : Int) (j : Int), l = [(1, f), (5, Value.int .i64 i), (6, Value.int .i64 j)] ∧ I i j w ∧ μ i j w = m) (l' := [(1, f), (5, Value.int .i64 0), (6, Value.int .i64 n_)]) (Sub.mk (by kernel_rfl)) ⟨0, n_, rfl, h0, rfl⟩ ?_
    rintro _ _ w1 ⟨i, j, rfl, hI, rfl⟩
    obtain ⟨again_, again__h, h⟩ : ∃ again_ : Int → Int → World → Prop, (∀ i' j' w', again_ i' j' w' → I i' j' w' ∧ μ i' j' w' < μ i j w1) ∧ F_sort_Search_L0 f R again_ i j w1 := ⟨_, fun _ _ _ h => h, hr i j w1 hI⟩
    clear h0 hI
    unfold F_sort_Search_L0 at h
    refine wpE_seq (x := c_sort_Search_10) (y := c_sort_Search_16) (by kernel_rfl) ?_
    refine wpE_seq (x := c_sort_Search_11) (y := c_sort_Search_13) (by kernel_rfl) ?_
    refine wpE_region (id := 2) (ops := r_sort_Search_11) (by kernel_rfl) ?_
    refine reg_run [.plain, .plain, .plain] 3 [(1, [], f), (5, [], Value.int .i64 i), (6, [], Value.int .i64 j), (11, [], Value.bool (decide (i < j)))] (by kernel_rfl) (by kernel_rfl) ?_
    refine reg_end [(1, f), (5, Value.int .i64 i), (6, Value.int .i64 j), (11, Value.bool (decide (i < j)))] (by kernel_rfl) (by kernel_rfl) ?_
    change WpE _ _ c_sort_Search_13 _ _ _
    refine wpE_cond (o := (Operand.tmp 11)) (b := (decide (i < j))) (x := c_sort_Search_14) (y := c_sort_Search_15) (by kernel_rfl) (by kernel_rfl) (fun hb => ?_) (fun hb => ?_)
    · replace h := h.1 hb
      refine wpE_skip (by kernel_rfl) ?_
      change WpE _ _ c_sort_Search_16 _ _ _
      refine wpE_block (id := 1) (x := c_sort_Search_17) (by kernel_rfl) ?_
      refine wpE_seq (x := c_sort_Search_18) (y := c_sort_Search_20) (by kernel_rfl) ?_
      refine wpE_region (id := 3) (ops := r_sort_Search_18) (by kernel_rfl) ?_
      refine reg_run [.plain, .plain, .plain, .plain, .plain, .plain, .plain] 7 [(1, [], f), (5, [], Value.int .i64 i), (6, [], Value.int .i64 j), (7, [], Value.int .i64 (IntKind.i64.wrap (Int.fdiv (IntKind.u64.wrap (IntKind.i64.wrap (i + j))) (2 ^ 1))))] (by kernel_rfl) (by kernel_rfl) ?_
      refine reg_end [(1, f), (5, Value.int .i64 i), (6, Value.int .i64 j), (7, Value.int .i64 (IntKind.i64.wrap (Int.fdiv (IntKind.u64.wrap (IntKind.i64.wrap (i + j))) (2 ^ 1))))] (by kernel_rfl) (by kernel_rfl) ?_
      change WpE _ _ c_sort_Search_20 _ _ _
      refine wpE_seq (x := c_sort_Search_21) (y := c_sort_Search_23) (by kernel_rfl) ?_
      refine wpE_region (id := 4) (ops := r_sort_Search_21) (by kernel_rfl) ?_
      refine reg_run [.plain, .plain] 2 [(1, [], f), (5, [], Value.int .i64 i), (6, [], Value.int .i64 j), (7, [], Value.int .i64 (IntKind.i64.wrap (Int.fdiv (IntKind.u64.wrap (IntKind.i64.wrap (i + j))) (2 ^ 1)))), (18, [], f), (19, [], Value.int .i64 (IntKind.i64.wrap (Int.fdiv (IntKind.u64.wrap (IntKind.i64.wrap (i + j))) (2 ^ 1))))] (by kernel_rfl) (by kernel_rfl) ?_
      refine reg_enterV (fo := (Go.Operand.tmp 18)) (aa := #[(Go.Operand.tmp 19)]) (ts := #[3]) (fv := f) (ty := 4) (dst := some 20) #[Value.int .i64 (IntKind.i64.wrap (Int.fdiv (IntKind.u64.wrap (IntKind.i64.wrap (i + j))) (2 ^ 1)))] (by kernel_rfl) (by kernel_rfl) (by kernel_rfl) (CallsV.mono h ?_)
      rintro _ w2 ⟨v20, rfl, h⟩
      refine ⟨_, rfl, ?_⟩
      refine reg_run [.plain] 4 [(1, [], f), (5, [], Value.int .i64 i), (6, [], Value.int .i64 j), (7, [], Value.int .i64 (IntKind.i64.wrap (Int.fdiv (IntKind.u64.wrap (IntKind.i64.wrap (i + j))) (2 ^ 1)))), (21, [], Value.bool (!v20))] (by kernel_rfl) (by kernel_rfl) ?_
      refine reg_end [(1, f), (5, Value.int .i64 i), (6, Value.int .i64 j), (7, Value.int .i64 (IntKind.i64.wrap (Int.fdiv (IntKind.u64.wrap (IntKind.i64.wrap (i + j))) (2 ^ 1)))), (21, Value.bool (!v20))] (by kernel_rfl) (by kernel_rfl) ?_
      change WpE _ _ c_sort_Search_23 _ _ _
      refine wpE_cond (o := (Operand.tmp 21)) (b := (!v20)) (x := c_sort_Search_24) (y := c_sort_Search_26) (by kernel_rfl) (by kernel_rfl) (fun hb => ?_) (fun hb => ?_)
      · replace h := h.1 hb
        refine wpE_region (id := 5) (ops := r_sort_Search_24) (by kernel_rfl) ?_
        refine reg_run [.plain, .plain, .plain] 3 [(1, [], f), (5, [], Value.int .i64 (IntKind.i64.wrap ((IntKind.i64.wrap (Int.fdiv (IntKind.u64.wrap (IntKind.i64.wrap (i + j))) (2 ^ 1))) + 1))), (6, [], Value.int .i64 j)] (by kernel_rfl) (by kernel_rfl) ?_
        refine reg_end [(1, f), (5, Value.int .i64 (IntKind.i64.wrap ((IntKind.i64.wrap (Int.fdiv (IntKind.u64.wrap (IntKind.i64.wrap (i + j))) (2 ^ 1))) + 1))), (6, Value.int .i64 j)] (by kernel_rfl) (by kernel_rfl) ?_
        have hb_ := again__h _ _ _ h
        exact ⟨_, hb_.2, [(1, f), (5, Value.int .i64 (IntKind.i64.wrap ((IntKind.i64.wrap (Int.fdiv (IntKind.u64.wrap (IntKind.i64.wrap (i + j))) (2 ^ 1))) + 1))), (6, Value.int .i64 j)], Sub.mk (by kernel_rfl), (IntKind.i64.wrap ((IntKind.i64.wrap (Int.fdiv (IntKind.u64.wrap (IntKind.i64.wrap (i + j))) (2 ^ 1))) + 1)), j, rfl, hb_.1, rfl⟩
      · replace h := h.2 hb
        refine wpE_region (id := 6) (ops := r_sort_Search_26) (by kernel_rfl) ?_
        refine reg_run [.plain, .plain] 2 [(1, [], f), (5, [], Value.int .i64 i), (6, [], Value.int .i64 (IntKind.i64.wrap (Int.fdiv (IntKind.u64.wrap (IntKind.i64.wrap (i + j))) (2 ^ 1))))] (by kernel_rfl) (by kernel_rfl) ?_
        refine reg_end [(1, f), (5, Value.int .i64 i), (6, Value.int .i64 (IntKind.i64.wrap (Int.fdiv (IntKind.u64.wrap (IntKind.i64.wrap (i + j))) (2 ^ 1))))] (by kernel_rfl) (by kernel_rfl) ?_
        have hb_ := again__h _ _ _ h
        exact ⟨_, hb_.2, [(1, f), (5, Value.int .i64 i), (6, Value.int .i64 (IntKind.i64.wrap (Int.fdiv (IntKind.u64.wrap (IntKind.i64.wrap (i + j))) (2 ^ 1))))], Sub.mk (by kernel_rfl), i, (IntKind.i64.wrap (Int.fdiv (IntKind.u64.wrap (IntKind.i64.wrap (i + j))) (2 ^ 1))), rfl, hb_.1, rfl⟩
    · replace h := h.2 hb
      refine wpE_exit (id := 0) (by kernel_rfl) ?_
      change WpE _ _ c_sort_Search_28 _ _ _
      refine wpE_seq (x := c_sort_Search_29) (y := c_sort_Search_31) (by kernel_rfl) ?_
      refine wpE_region (id := 7) (ops := r_sort_Search_29) (by kernel_rfl) ?_
      refine reg_run [.plain, .plain] 2 [(4, [], Value.int .i64 i)] (by kernel_rfl) (by kernel_rfl) ?_
      refine reg_end [(4, Value.int .i64 i)] (by kernel_rfl) (by kernel_rfl) ?_
      change WpE _ _ c_sort_Search_31 _ _ _
      refine wpE_ret (by kernel_rfl) ?_
      repeat (first | refine seqQ_ret ?_ | refine blockQ_ret ?_ | refine loopQ_ret ?_ | refine cutQ_ret ?_)
      exact retS (rs := [(Go.ResultVar.tmp 4)]) (v := Value.int .i64 i) (by kernel_rfl) (⟨by kernel_rfl, trivial⟩) ⟨i, rfl, h⟩
  · rintro e w' ⟨v, rfl, r0, rfl, h⟩; exact ⟨r0, rfl, h⟩
end Go.Proofs.YtcgfmkpddhhmgaaDoor
