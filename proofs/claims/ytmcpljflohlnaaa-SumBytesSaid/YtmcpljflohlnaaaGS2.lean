/- WRITTEN BY PROGRAM (dec.py): for each Go function the clean formula F, the call's contract C, and the proof S that F gives C. -/
import Derived.Test.YtmcpljflohlnaaaRows
import Derived.Test.YtmcpljflohlnaaaGF
namespace Go.Proofs.Ytmcpljflohlnaaa
open Go
set_option linter.unusedVariables false

/-! ### towpath/towpathref01.Bits (function 48) -/
noncomputable def c_towpathref01_Bits_0 : Code := (Try.f48.body).getD Code.skip
noncomputable def c_towpathref01_Bits_1 : Code := Code.l c_towpathref01_Bits_0
noncomputable def r_towpathref01_Bits_1 : Array Oper := Code.ops c_towpathref01_Bits_1
noncomputable def c_towpathref01_Bits_3 : Code := Code.r c_towpathref01_Bits_0
noncomputable def c_towpathref01_Bits_4 : Code := Code.l c_towpathref01_Bits_3
noncomputable def c_towpathref01_Bits_5 : Code := Code.l c_towpathref01_Bits_4
noncomputable def r_towpathref01_Bits_5 : Array Oper := Code.ops c_towpathref01_Bits_5
noncomputable def c_towpathref01_Bits_7 : Code := Code.r c_towpathref01_Bits_4
noncomputable def c_towpathref01_Bits_8 : Code := Code.l c_towpathref01_Bits_7
noncomputable def c_towpathref01_Bits_9 : Code := Code.l c_towpathref01_Bits_8
noncomputable def r_towpathref01_Bits_9 : Array Oper := Code.ops c_towpathref01_Bits_9
noncomputable def c_towpathref01_Bits_11 : Code := Code.r c_towpathref01_Bits_8
noncomputable def c_towpathref01_Bits_12 : Code := Code.r c_towpathref01_Bits_7
noncomputable def c_towpathref01_Bits_13 : Code := Code.r c_towpathref01_Bits_3
noncomputable def c_towpathref01_Bits_14 : Code := Code.l c_towpathref01_Bits_13
noncomputable def r_towpathref01_Bits_14 : Array Oper := Code.ops c_towpathref01_Bits_14
noncomputable def c_towpathref01_Bits_16 : Code := Code.r c_towpathref01_Bits_13
noncomputable def c_towpathref01_Bits_17 : Code := Code.l c_towpathref01_Bits_16
noncomputable def c_towpathref01_Bits_18 : Code := Code.l c_towpathref01_Bits_17
noncomputable def r_towpathref01_Bits_18 : Array Oper := Code.ops c_towpathref01_Bits_18
noncomputable def c_towpathref01_Bits_20 : Code := Code.r c_towpathref01_Bits_17
noncomputable def c_towpathref01_Bits_21 : Code := Code.l c_towpathref01_Bits_20
noncomputable def c_towpathref01_Bits_22 : Code := Code.l c_towpathref01_Bits_21
noncomputable def c_towpathref01_Bits_23 : Code := Code.l c_towpathref01_Bits_22
noncomputable def c_towpathref01_Bits_24 : Code := Code.l c_towpathref01_Bits_23
noncomputable def r_towpathref01_Bits_24 : Array Oper := Code.ops c_towpathref01_Bits_24
noncomputable def c_towpathref01_Bits_26 : Code := Code.r c_towpathref01_Bits_23
noncomputable def c_towpathref01_Bits_27 : Code := Code.l c_towpathref01_Bits_26
noncomputable def c_towpathref01_Bits_28 : Code := Code.r c_towpathref01_Bits_26
noncomputable def c_towpathref01_Bits_29 : Code := Code.r c_towpathref01_Bits_22
noncomputable def c_towpathref01_Bits_30 : Code := Code.l c_towpathref01_Bits_29
noncomputable def c_towpathref01_Bits_31 : Code := Code.l c_towpathref01_Bits_30
noncomputable def r_towpathref01_Bits_31 : Array Oper := Code.ops c_towpathref01_Bits_31
noncomputable def c_towpathref01_Bits_33 : Code := Code.r c_towpathref01_Bits_29
noncomputable def r_towpathref01_Bits_33 : Array Oper := Code.ops c_towpathref01_Bits_33
noncomputable def c_towpathref01_Bits_35 : Code := Code.r c_towpathref01_Bits_16
noncomputable def c_towpathref01_Bits_36 : Code := Code.l c_towpathref01_Bits_35
noncomputable def r_towpathref01_Bits_36 : Array Oper := Code.ops c_towpathref01_Bits_36
noncomputable def c_towpathref01_Bits_38 : Code := Code.r c_towpathref01_Bits_35

set_option maxRecDepth 100000 in
theorem S_towpathref01_Bits {x : Int} {from_ : Int} {n_ : Int} {w : World} {R : Int → Bool → World → Prop} (h : F_towpathref01_Bits x from_ n_ R w) : C_towpathref01_Bits x from_ n_ w R := by
  unfold F_towpathref01_Bits at h
  unfold C_towpathref01_Bits
  refine Calls.mono (calls_of_wpE (args := [Value.int .u64 x, Value.int .i64 from_, Value.int .i64 n_]) (R := fun v w' => ∃ (r0 : Int) (r1 : Bool), v = Value.tuple #[Value.int .u64 r0, Value.bool r1] ∧ R r0 r1 w') Try.func48 (c := c_towpathref01_Bits_0) (by kernel_rfl) 29 (by kernel_rfl) (by kernel_rfl) [(0, Value.int .u64 x), (1, Value.int .i64 from_), (2, Value.int .i64 n_)] (by kernel_rfl) ?_) ?_
  · refine wpE_seq (x := c_towpathref01_Bits_1) (y := c_towpathref01_Bits_3) (by kernel_rfl) ?_
    refine wpE_region (id := 0) (ops := r_towpathref01_Bits_1) (by kernel_rfl) ?_
    refine reg_run [.plain, .plain] 2 [(0, [], Value.int .u64 x), (1, [], Value.int .i64 from_), (2, [], Value.int .i64 n_)] (by kernel_rfl) (by kernel_rfl) ?_
    refine reg_end [(0, Value.int .u64 x), (1, Value.int .i64 from_), (2, Value.int .i64 n_)] (by kernel_rfl) (by kernel_rfl) ?_
    change WpE _ _ c_towpathref01_Bits_3 _ _ _
    refine wpE_seq (x := c_towpathref01_Bits_4) (y := c_towpathref01_Bits_13) (by kernel_rfl) ?_
    refine wpE_seq (x := c_towpathref01_Bits_5) (y := c_towpathref01_Bits_7) (by kernel_rfl) ?_
    refine wpE_region (id := 1) (ops := r_towpathref01_Bits_5) (by kernel_rfl) ?_
    refine reg_run [.plain, .plain] 2 [(0, [], Value.int .u64 x), (1, [], Value.int .i64 from_), (2, [], Value.int .i64 n_), (10, [], Value.int .i64 from_), (11, [], Value.int .i64 n_)] (by kernel_rfl) (by kernel_rfl) ?_
    refine reg_enter (op := (Go.Op.call (Go.Call.mk (Go.Callee.value (Go.Operand.func 63)) #[(Go.Operand.tmp 10), (Go.Operand.tmp 11)] #[3, 3]))) (ty := 4) (dst := some 12) 63 #[Value.int .i64 from_, Value.int .i64 n_] (by kernel_rfl) (fun ww => by kernel_rfl) (Calls.mono h ?_)
    rintro _ w1 ⟨v12, rfl, h⟩
    refine ⟨_, rfl, ?_⟩
    refine reg_run [.plain] 4 [(0, [], Value.int .u64 x), (1, [], Value.int .i64 from_), (2, [], Value.int .i64 n_), (13, [], Value.bool (!v12))] (by kernel_rfl) (by kernel_rfl) ?_
    refine reg_end [(0, Value.int .u64 x), (1, Value.int .i64 from_), (2, Value.int .i64 n_), (13, Value.bool (!v12))] (by kernel_rfl) (by kernel_rfl) ?_
    change WpE _ _ c_towpathref01_Bits_7 _ _ _
    refine wpE_cond (o := (Operand.tmp 13)) (b := (!v12)) (x := c_towpathref01_Bits_8) (y := c_towpathref01_Bits_12) (by kernel_rfl) (by kernel_rfl) (fun hb => ?_) (fun hb => ?_)
    · replace h := h.1 hb
      refine wpE_seq (x := c_towpathref01_Bits_9) (y := c_towpathref01_Bits_11) (by kernel_rfl) ?_
      refine wpE_region (id := 2) (ops := r_towpathref01_Bits_9) (by kernel_rfl) ?_
      refine reg_run [.plain, .plain] 2 [(6, [], Value.int .u64 0), (7, [], Value.bool false)] (by kernel_rfl) (by kernel_rfl) ?_
      refine reg_end [(6, Value.int .u64 0), (7, Value.bool false)] (by kernel_rfl) (by kernel_rfl) ?_
      change WpE _ _ c_towpathref01_Bits_11 _ _ _
      refine wpE_ret (by kernel_rfl) ?_
      repeat (first | refine seqQ_ret ?_ | refine blockQ_ret ?_ | refine loopQ_ret ?_ | refine cutQ_ret ?_)
      exact retT (rs := [(Go.ResultVar.tmp 6), (Go.ResultVar.tmp 7)]) (vs := [Value.int .u64 0, Value.bool false]) (by kernel_rfl) (⟨by kernel_rfl, ⟨by kernel_rfl, trivial⟩⟩) (by kernel_rfl) ⟨0, false, rfl, h⟩
    · replace h := h.2 hb
      refine wpE_skip (by kernel_rfl) ?_
      change WpE _ _ c_towpathref01_Bits_13 _ _ _
      refine wpE_seq (x := c_towpathref01_Bits_14) (y := c_towpathref01_Bits_16) (by kernel_rfl) ?_
      refine wpE_region (id := 3) (ops := r_towpathref01_Bits_14) (by kernel_rfl) ?_
      refine reg_run [.plain] 1 [(0, [], Value.int .u64 x), (1, [], Value.int .i64 from_), (2, [], Value.int .i64 n_), (8, [], Value.int .u64 0)] (by kernel_rfl) (by kernel_rfl) ?_
      refine reg_end [(0, Value.int .u64 x), (1, Value.int .i64 from_), (2, Value.int .i64 n_), (8, Value.int .u64 0)] (by kernel_rfl) (by kernel_rfl) ?_
      change WpE _ _ c_towpathref01_Bits_16 _ _ _
      refine wpE_seq (x := c_towpathref01_Bits_17) (y := c_towpathref01_Bits_35) (by kernel_rfl) ?_
      refine wpE_seq (x := c_towpathref01_Bits_18) (y := c_towpathref01_Bits_20) (by kernel_rfl) ?_
      refine wpE_region (id := 4) (ops := r_towpathref01_Bits_18) (by kernel_rfl) ?_
      refine reg_run [.plain, .plain, .plain] 3 [(0, [], Value.int .u64 x), (1, [], Value.int .i64 from_), (8, [], Value.int .u64 0), (9, [], Value.int .i64 (IntKind.i64.wrap (n_ - 1)))] (by kernel_rfl) (by kernel_rfl) ?_
      refine reg_end [(0, Value.int .u64 x), (1, Value.int .i64 from_), (8, Value.int .u64 0), (9, Value.int .i64 (IntKind.i64.wrap (n_ - 1)))] (by kernel_rfl) (by kernel_rfl) ?_
      change WpE _ _ c_towpathref01_Bits_20 _ _ _
      refine wpE_block (id := 0) (x := c_towpathref01_Bits_21) (by kernel_rfl) ?_
      obtain ⟨I, μ, h0, hr⟩ := h
      refine wpE_loop (x := c_towpathref01_Bits_22) (by kernel_rfl) (fun m l w => ∃ (v : Int) (i : Int), l = [(0, Value.int .u64 x), (1, Value.int .i64 from_), (8, Value.int .u64 v), (9, Value.int .i64 i)] ∧ I v i w ∧ μ v i w = m) (l' := [(0, Value.int .u64 x), (1, Value.int .i64 from_), (8, Value.int .u64 0), (9, Value.int .i64 (IntKind.i64.wrap (n_ - 1)))]) (Sub.mk (by kernel_rfl)) ⟨0, (IntKind.i64.wrap (n_ - 1)), rfl, h0, rfl⟩ ?_
      rintro _ _ w2 ⟨v, i, rfl, hI, rfl⟩
      obtain ⟨again_, again__h, h⟩ : ∃ again_ : Int → Int → World → Prop, (∀ v' i' w', again_ v' i' w' → I v' i' w' ∧ μ v' i' w' < μ v i w2) ∧ F_towpathref01_Bits_L0 x from_ R again_ v i w2 := ⟨_, fun _ _ _ h => h, hr v i w2 hI⟩
      clear h0 hI
      unfold F_towpathref01_Bits_L0 at h
      refine wpE_seq (x := c_towpathref01_Bits_23) (y := c_towpathref01_Bits_29) (by kernel_rfl) ?_
      refine wpE_seq (x := c_towpathref01_Bits_24) (y := c_towpathref01_Bits_26) (by kernel_rfl) ?_
      refine wpE_region (id := 5) (ops := r_towpathref01_Bits_24) (by kernel_rfl) ?_
      refine reg_run [.plain, .plain] 2 [(0, [], Value.int .u64 x), (1, [], Value.int .i64 from_), (8, [], Value.int .u64 v), (9, [], Value.int .i64 i), (17, [], Value.bool (decide (i ≥ 0)))] (by kernel_rfl) (by kernel_rfl) ?_
      refine reg_end [(0, Value.int .u64 x), (1, Value.int .i64 from_), (8, Value.int .u64 v), (9, Value.int .i64 i), (17, Value.bool (decide (i ≥ 0)))] (by kernel_rfl) (by kernel_rfl) ?_
      change WpE _ _ c_towpathref01_Bits_26 _ _ _
      refine wpE_cond (o := (Operand.tmp 17)) (b := (decide (i ≥ 0))) (x := c_towpathref01_Bits_27) (y := c_towpathref01_Bits_28) (by kernel_rfl) (by kernel_rfl) (fun hb => ?_) (fun hb => ?_)
      · replace h := h.1 hb
        refine wpE_skip (by kernel_rfl) ?_
        change WpE _ _ c_towpathref01_Bits_29 _ _ _
        refine wpE_seq (x := c_towpathref01_Bits_30) (y := c_towpathref01_Bits_33) (by kernel_rfl) ?_
        refine wpE_block (id := 1) (x := c_towpathref01_Bits_31) (by kernel_rfl) ?_
        refine wpE_region (id := 7) (ops := r_towpathref01_Bits_31) (by kernel_rfl) ?_
        refine reg_run [.plain, .plain, .plain, .plain, .plain, .plain] 6 [(0, [], Value.int .u64 x), (1, [], Value.int .i64 from_), (8, [], Value.int .u64 v), (9, [], Value.int .i64 i), (21, [], Value.int .u64 (IntKind.u64.wrap (2 * v))), (22, [], Value.int .u64 x), (25, [], Value.int .i64 (IntKind.i64.wrap (from_ + i)))] (by kernel_rfl) (by kernel_rfl) ?_
        refine reg_enter (op := (Go.Op.call (Go.Call.mk (Go.Callee.value (Go.Operand.func 64)) #[(Go.Operand.tmp 22), (Go.Operand.tmp 25)] #[42, 3]))) (ty := 42) (dst := some 26) 64 #[Value.int .u64 x, Value.int .i64 (IntKind.i64.wrap (from_ + i))] (by kernel_rfl) (fun ww => by kernel_rfl) (Calls.mono h ?_)
        rintro _ w3 ⟨v26, rfl, h⟩
        refine ⟨_, rfl, ?_⟩
        refine reg_run [.plain, .plain] 9 [(0, [], Value.int .u64 x), (1, [], Value.int .i64 from_), (8, [], Value.int .u64 (IntKind.u64.wrap ((IntKind.u64.wrap (2 * v)) + v26))), (9, [], Value.int .i64 i)] (by kernel_rfl) (by kernel_rfl) ?_
        refine reg_end [(0, Value.int .u64 x), (1, Value.int .i64 from_), (8, Value.int .u64 (IntKind.u64.wrap ((IntKind.u64.wrap (2 * v)) + v26))), (9, Value.int .i64 i)] (by kernel_rfl) (by kernel_rfl) ?_
        change WpE _ _ c_towpathref01_Bits_33 _ _ _
        refine wpE_region (id := 6) (ops := r_towpathref01_Bits_33) (by kernel_rfl) ?_
        refine reg_run [.plain, .plain, .plain] 3 [(0, [], Value.int .u64 x), (1, [], Value.int .i64 from_), (8, [], Value.int .u64 (IntKind.u64.wrap ((IntKind.u64.wrap (2 * v)) + v26))), (9, [], Value.int .i64 (IntKind.i64.wrap (i - 1)))] (by kernel_rfl) (by kernel_rfl) ?_
        refine reg_end [(0, Value.int .u64 x), (1, Value.int .i64 from_), (8, Value.int .u64 (IntKind.u64.wrap ((IntKind.u64.wrap (2 * v)) + v26))), (9, Value.int .i64 (IntKind.i64.wrap (i - 1)))] (by kernel_rfl) (by kernel_rfl) ?_
        have hb_ := again__h _ _ _ h
        exact ⟨_, hb_.2, [(0, Value.int .u64 x), (1, Value.int .i64 from_), (8, Value.int .u64 (IntKind.u64.wrap ((IntKind.u64.wrap (2 * v)) + v26))), (9, Value.int .i64 (IntKind.i64.wrap (i - 1)))], Sub.mk (by kernel_rfl), (IntKind.u64.wrap ((IntKind.u64.wrap (2 * v)) + v26)), (IntKind.i64.wrap (i - 1)), rfl, hb_.1, rfl⟩
      · replace h := h.2 hb
        refine wpE_exit (id := 0) (by kernel_rfl) ?_
        change WpE _ _ c_towpathref01_Bits_35 _ _ _
        refine wpE_seq (x := c_towpathref01_Bits_36) (y := c_towpathref01_Bits_38) (by kernel_rfl) ?_
        refine wpE_region (id := 8) (ops := r_towpathref01_Bits_36) (by kernel_rfl) ?_
        refine reg_run [.plain, .plain, .plain] 3 [(6, [], Value.int .u64 v), (7, [], Value.bool true)] (by kernel_rfl) (by kernel_rfl) ?_
        refine reg_end [(6, Value.int .u64 v), (7, Value.bool true)] (by kernel_rfl) (by kernel_rfl) ?_
        change WpE _ _ c_towpathref01_Bits_38 _ _ _
        refine wpE_ret (by kernel_rfl) ?_
        repeat (first | refine seqQ_ret ?_ | refine blockQ_ret ?_ | refine loopQ_ret ?_ | refine cutQ_ret ?_)
        exact retT (rs := [(Go.ResultVar.tmp 6), (Go.ResultVar.tmp 7)]) (vs := [Value.int .u64 v, Value.bool true]) (by kernel_rfl) (⟨by kernel_rfl, ⟨by kernel_rfl, trivial⟩⟩) (by kernel_rfl) ⟨v, true, rfl, h⟩
  · rintro e w' ⟨v, rfl, r0, r1, rfl, h⟩; exact ⟨r0, r1, rfl, h⟩

/-! ### towpath/towpathref01.Put (function 49) -/
noncomputable def c_towpathref01_Put_0 : Code := (Try.f49.body).getD Code.skip
noncomputable def c_towpathref01_Put_1 : Code := Code.l c_towpathref01_Put_0
noncomputable def r_towpathref01_Put_1 : Array Oper := Code.ops c_towpathref01_Put_1
noncomputable def c_towpathref01_Put_3 : Code := Code.r c_towpathref01_Put_0
noncomputable def c_towpathref01_Put_4 : Code := Code.l c_towpathref01_Put_3
noncomputable def c_towpathref01_Put_5 : Code := Code.l c_towpathref01_Put_4
noncomputable def r_towpathref01_Put_5 : Array Oper := Code.ops c_towpathref01_Put_5
noncomputable def c_towpathref01_Put_7 : Code := Code.r c_towpathref01_Put_4
noncomputable def c_towpathref01_Put_8 : Code := Code.l c_towpathref01_Put_7
noncomputable def c_towpathref01_Put_9 : Code := Code.l c_towpathref01_Put_8
noncomputable def r_towpathref01_Put_9 : Array Oper := Code.ops c_towpathref01_Put_9
noncomputable def c_towpathref01_Put_11 : Code := Code.r c_towpathref01_Put_8
noncomputable def c_towpathref01_Put_12 : Code := Code.r c_towpathref01_Put_7
noncomputable def c_towpathref01_Put_13 : Code := Code.r c_towpathref01_Put_3
noncomputable def c_towpathref01_Put_14 : Code := Code.l c_towpathref01_Put_13
noncomputable def r_towpathref01_Put_14 : Array Oper := Code.ops c_towpathref01_Put_14
noncomputable def c_towpathref01_Put_16 : Code := Code.r c_towpathref01_Put_13
noncomputable def c_towpathref01_Put_17 : Code := Code.l c_towpathref01_Put_16
noncomputable def c_towpathref01_Put_18 : Code := Code.l c_towpathref01_Put_17
noncomputable def r_towpathref01_Put_18 : Array Oper := Code.ops c_towpathref01_Put_18
noncomputable def c_towpathref01_Put_20 : Code := Code.r c_towpathref01_Put_17
noncomputable def c_towpathref01_Put_21 : Code := Code.l c_towpathref01_Put_20
noncomputable def c_towpathref01_Put_22 : Code := Code.l c_towpathref01_Put_21
noncomputable def c_towpathref01_Put_23 : Code := Code.l c_towpathref01_Put_22
noncomputable def c_towpathref01_Put_24 : Code := Code.l c_towpathref01_Put_23
noncomputable def r_towpathref01_Put_24 : Array Oper := Code.ops c_towpathref01_Put_24
noncomputable def c_towpathref01_Put_26 : Code := Code.r c_towpathref01_Put_23
noncomputable def c_towpathref01_Put_27 : Code := Code.l c_towpathref01_Put_26
noncomputable def c_towpathref01_Put_28 : Code := Code.r c_towpathref01_Put_26
noncomputable def c_towpathref01_Put_29 : Code := Code.r c_towpathref01_Put_22
noncomputable def c_towpathref01_Put_30 : Code := Code.l c_towpathref01_Put_29
noncomputable def c_towpathref01_Put_31 : Code := Code.l c_towpathref01_Put_30
noncomputable def c_towpathref01_Put_32 : Code := Code.l c_towpathref01_Put_31
noncomputable def r_towpathref01_Put_32 : Array Oper := Code.ops c_towpathref01_Put_32
noncomputable def c_towpathref01_Put_34 : Code := Code.r c_towpathref01_Put_31
noncomputable def c_towpathref01_Put_35 : Code := Code.l c_towpathref01_Put_34
noncomputable def c_towpathref01_Put_36 : Code := Code.l c_towpathref01_Put_35
noncomputable def r_towpathref01_Put_36 : Array Oper := Code.ops c_towpathref01_Put_36
noncomputable def c_towpathref01_Put_38 : Code := Code.r c_towpathref01_Put_35
noncomputable def c_towpathref01_Put_39 : Code := Code.l c_towpathref01_Put_38
noncomputable def r_towpathref01_Put_39 : Array Oper := Code.ops c_towpathref01_Put_39
noncomputable def c_towpathref01_Put_41 : Code := Code.r c_towpathref01_Put_38
noncomputable def c_towpathref01_Put_42 : Code := Code.r c_towpathref01_Put_34
noncomputable def r_towpathref01_Put_42 : Array Oper := Code.ops c_towpathref01_Put_42
noncomputable def c_towpathref01_Put_44 : Code := Code.r c_towpathref01_Put_29
noncomputable def r_towpathref01_Put_44 : Array Oper := Code.ops c_towpathref01_Put_44
noncomputable def c_towpathref01_Put_46 : Code := Code.r c_towpathref01_Put_16
noncomputable def c_towpathref01_Put_47 : Code := Code.l c_towpathref01_Put_46
noncomputable def r_towpathref01_Put_47 : Array Oper := Code.ops c_towpathref01_Put_47
noncomputable def c_towpathref01_Put_49 : Code := Code.r c_towpathref01_Put_46

set_option maxRecDepth 100000 in
theorem S_towpathref01_Put {x : Int} {from_ : Int} {n_ : Int} {v : Int} {w : World} {R : Int → Bool → World → Prop} (h : F_towpathref01_Put x from_ n_ v R w) : C_towpathref01_Put x from_ n_ v w R := by
  unfold F_towpathref01_Put at h
  unfold C_towpathref01_Put
  refine Calls.mono (calls_of_wpE (args := [Value.int .u64 x, Value.int .i64 from_, Value.int .i64 n_, Value.int .u64 v]) (R := fun v w' => ∃ (r0 : Int) (r1 : Bool), v = Value.tuple #[Value.int .u64 r0, Value.bool r1] ∧ R r0 r1 w') Try.func49 (c := c_towpathref01_Put_0) (by kernel_rfl) 54 (by kernel_rfl) (by kernel_rfl) [(0, Value.int .u64 x), (1, Value.int .i64 from_), (2, Value.int .i64 n_), (3, Value.int .u64 v)] (by kernel_rfl) ?_) ?_
  · refine wpE_seq (x := c_towpathref01_Put_1) (y := c_towpathref01_Put_3) (by kernel_rfl) ?_
    refine wpE_region (id := 0) (ops := r_towpathref01_Put_1) (by kernel_rfl) ?_
    refine reg_run [.plain, .plain] 2 [(0, [], Value.int .u64 x), (1, [], Value.int .i64 from_), (2, [], Value.int .i64 n_), (3, [], Value.int .u64 v)] (by kernel_rfl) (by kernel_rfl) ?_
    refine reg_end [(0, Value.int .u64 x), (1, Value.int .i64 from_), (2, Value.int .i64 n_), (3, Value.int .u64 v)] (by kernel_rfl) (by kernel_rfl) ?_
    change WpE _ _ c_towpathref01_Put_3 _ _ _
    refine wpE_seq (x := c_towpathref01_Put_4) (y := c_towpathref01_Put_13) (by kernel_rfl) ?_
    refine wpE_seq_cut (x := c_towpathref01_Put_5) (y := c_towpathref01_Put_7) (by kernel_rfl) (fun l w => ∃ (t26 : Bool), l = [(0, Value.int .u64 x), (1, Value.int .i64 from_), (2, Value.int .i64 n_), (3, Value.int .u64 v), (26, Value.bool t26)] ∧ F_towpathref01_Put_k0 x from_ n_ v R t26 w) ?_ ?_
    · refine wpE_region (id := 1) (ops := r_towpathref01_Put_5) (by kernel_rfl) ?_
      refine reg_run [.plain, .plain] 2 [(0, [], Value.int .u64 x), (1, [], Value.int .i64 from_), (2, [], Value.int .i64 n_), (3, [], Value.int .u64 v), (13, [], Value.int .i64 from_), (14, [], Value.int .i64 n_)] (by kernel_rfl) (by kernel_rfl) ?_
      refine reg_enter (op := (Go.Op.call (Go.Call.mk (Go.Callee.value (Go.Operand.func 63)) #[(Go.Operand.tmp 13), (Go.Operand.tmp 14)] #[3, 3]))) (ty := 4) (dst := some 15) 63 #[Value.int .i64 from_, Value.int .i64 n_] (by kernel_rfl) (fun ww => by kernel_rfl) (Calls.mono h ?_)
      rintro _ w6 ⟨v15, rfl, h⟩
      refine ⟨_, rfl, ?_⟩
      refine reg_run [.plain, .plain, .plain, .plain, .plain, .plain, .plain] 10 [(0, [], Value.int .u64 x), (1, [], Value.int .i64 from_), (2, [], Value.int .i64 n_), (3, [], Value.int .u64 v), (17, [], Value.bool (!v15)), (20, [(17, false)], Value.bool (decide (n_ < 64))), (21, [(20, true), (17, false)], Value.int .u64 v), (22, [(20, true), (17, false)], Value.int .i64 n_)] (by kernel_rfl) (by kernel_rfl) ?_
      refine reg_split 17 (!v15) (by kernel_rfl) (fun hb => ?_) (fun hb => ?_)
      · replace h := h.1 hb
        refine reg_run [] 10 [(0, [], Value.int .u64 x), (1, [], Value.int .i64 from_), (2, [], Value.int .i64 n_), (3, [], Value.int .u64 v), (17, [], Value.bool true), (20, [], undef), (21, [], undef), (22, [], undef)] (by kernel_rfl) (by kernel_rfl) ?_
        refine reg_run [.skip, .skip, .skip, .plain] 14 [(0, [], Value.int .u64 x), (1, [], Value.int .i64 from_), (2, [], Value.int .i64 n_), (3, [], Value.int .u64 v), (26, [], Value.bool true)] (by kernel_rfl) (by kernel_rfl) ?_
        refine reg_end [(0, Value.int .u64 x), (1, Value.int .i64 from_), (2, Value.int .i64 n_), (3, Value.int .u64 v), (26, Value.bool true)] (by kernel_rfl) (by kernel_rfl) ?_
        exact ⟨[(0, Value.int .u64 x), (1, Value.int .i64 from_), (2, Value.int .i64 n_), (3, Value.int .u64 v), (26, Value.bool true)], Sub.mk (by kernel_rfl), true, rfl, h⟩
      · replace h := h.2 hb
        refine reg_run [] 10 [(0, [], Value.int .u64 x), (1, [], Value.int .i64 from_), (2, [], Value.int .i64 n_), (3, [], Value.int .u64 v), (17, [], Value.bool false), (20, [], Value.bool (decide (n_ < 64))), (21, [(20, true)], Value.int .u64 v), (22, [(20, true)], Value.int .i64 n_)] (by kernel_rfl) (by kernel_rfl) ?_
        refine reg_run [] 10 [(0, [], Value.int .u64 x), (1, [], Value.int .i64 from_), (2, [], Value.int .i64 n_), (3, [], Value.int .u64 v), (17, [], Value.bool false), (20, [], Value.bool (decide (n_ < 64))), (21, [(20, true)], Value.int .u64 v), (22, [(20, true)], Value.int .i64 n_)] (by kernel_rfl) (by kernel_rfl) ?_
        refine reg_split 20 (decide (n_ < 64)) (by kernel_rfl) (fun hb => ?_) (fun hb => ?_)
        · replace h := h.1 hb
          refine reg_run [] 10 [(0, [], Value.int .u64 x), (1, [], Value.int .i64 from_), (2, [], Value.int .i64 n_), (3, [], Value.int .u64 v), (17, [], Value.bool false), (20, [], Value.bool true), (21, [], Value.int .u64 v), (22, [], Value.int .i64 n_)] (by kernel_rfl) (by kernel_rfl) ?_
          refine reg_run [] 10 [(0, [], Value.int .u64 x), (1, [], Value.int .i64 from_), (2, [], Value.int .i64 n_), (3, [], Value.int .u64 v), (17, [], Value.bool false), (20, [], Value.bool true), (21, [], Value.int .u64 v), (22, [], Value.int .i64 n_)] (by kernel_rfl) (by kernel_rfl) ?_
          refine reg_enter (op := (Go.Op.call (Go.Call.mk (Go.Callee.value (Go.Operand.func 60)) #[(Go.Operand.tmp 22)] #[3]))) (ty := 42) (dst := some 23) 60 #[Value.int .i64 n_] (by kernel_rfl) (fun ww => by kernel_rfl) (Calls.mono h ?_)
          rintro _ w7 ⟨v23, rfl, h⟩
          refine ⟨_, rfl, ?_⟩
          refine reg_run [.sure, .sure, .plain] 14 [(0, [], Value.int .u64 x), (1, [], Value.int .i64 from_), (2, [], Value.int .i64 n_), (3, [], Value.int .u64 v), (26, [], Value.bool (decide (v ≥ v23)))] (by kernel_rfl) (by kernel_rfl) ?_
          refine reg_end [(0, Value.int .u64 x), (1, Value.int .i64 from_), (2, Value.int .i64 n_), (3, Value.int .u64 v), (26, Value.bool (decide (v ≥ v23)))] (by kernel_rfl) (by kernel_rfl) ?_
          exact ⟨[(0, Value.int .u64 x), (1, Value.int .i64 from_), (2, Value.int .i64 n_), (3, Value.int .u64 v), (26, Value.bool (decide (v ≥ v23)))], Sub.mk (by kernel_rfl), (decide (v ≥ v23)), rfl, h⟩
        · replace h := h.2 hb
          refine reg_run [] 10 [(0, [], Value.int .u64 x), (1, [], Value.int .i64 from_), (2, [], Value.int .i64 n_), (3, [], Value.int .u64 v), (17, [], Value.bool false), (20, [], Value.bool false), (21, [], undef), (22, [], undef)] (by kernel_rfl) (by kernel_rfl) ?_
          refine reg_run [.skip, .skip, .sure, .plain] 14 [(0, [], Value.int .u64 x), (1, [], Value.int .i64 from_), (2, [], Value.int .i64 n_), (3, [], Value.int .u64 v), (26, [], Value.bool false)] (by kernel_rfl) (by kernel_rfl) ?_
          refine reg_end [(0, Value.int .u64 x), (1, Value.int .i64 from_), (2, Value.int .i64 n_), (3, Value.int .u64 v), (26, Value.bool false)] (by kernel_rfl) (by kernel_rfl) ?_
          exact ⟨[(0, Value.int .u64 x), (1, Value.int .i64 from_), (2, Value.int .i64 n_), (3, Value.int .u64 v), (26, Value.bool false)], Sub.mk (by kernel_rfl), false, rfl, h⟩
    · rintro _ w1 ⟨t26, rfl, h⟩
      unfold F_towpathref01_Put_k0 at h
      refine wpE_cond (o := (Operand.tmp 26)) (b := t26) (x := c_towpathref01_Put_8) (y := c_towpathref01_Put_12) (by kernel_rfl) (by kernel_rfl) (fun hb => ?_) (fun hb => ?_)
      · replace h := h.1 hb
        refine wpE_seq (x := c_towpathref01_Put_9) (y := c_towpathref01_Put_11) (by kernel_rfl) ?_
        refine wpE_region (id := 2) (ops := r_towpathref01_Put_9) (by kernel_rfl) ?_
        refine reg_run [.plain, .plain] 2 [(8, [], Value.int .u64 0), (9, [], Value.bool false)] (by kernel_rfl) (by kernel_rfl) ?_
        refine reg_end [(8, Value.int .u64 0), (9, Value.bool false)] (by kernel_rfl) (by kernel_rfl) ?_
        change WpE _ _ c_towpathref01_Put_11 _ _ _
        refine wpE_ret (by kernel_rfl) ?_
        repeat (first | refine seqQ_ret ?_ | refine blockQ_ret ?_ | refine loopQ_ret ?_ | refine cutQ_ret ?_)
        exact retT (rs := [(Go.ResultVar.tmp 8), (Go.ResultVar.tmp 9)]) (vs := [Value.int .u64 0, Value.bool false]) (by kernel_rfl) (⟨by kernel_rfl, ⟨by kernel_rfl, trivial⟩⟩) (by kernel_rfl) ⟨0, false, rfl, h⟩
      · replace h := h.2 hb
        refine wpE_skip (by kernel_rfl) ?_
        change WpE _ _ c_towpathref01_Put_13 _ _ _
        refine wpE_seq (x := c_towpathref01_Put_14) (y := c_towpathref01_Put_16) (by kernel_rfl) ?_
        refine wpE_region (id := 3) (ops := r_towpathref01_Put_14) (by kernel_rfl) ?_
        refine reg_run [.plain] 1 [(0, [], Value.int .u64 x), (1, [], Value.int .i64 from_), (2, [], Value.int .i64 n_), (3, [], Value.int .u64 v), (10, [], Value.int .u64 0)] (by kernel_rfl) (by kernel_rfl) ?_
        refine reg_end [(0, Value.int .u64 x), (1, Value.int .i64 from_), (2, Value.int .i64 n_), (3, Value.int .u64 v), (10, Value.int .u64 0)] (by kernel_rfl) (by kernel_rfl) ?_
        change WpE _ _ c_towpathref01_Put_16 _ _ _
        refine wpE_seq (x := c_towpathref01_Put_17) (y := c_towpathref01_Put_46) (by kernel_rfl) ?_
        refine wpE_seq (x := c_towpathref01_Put_18) (y := c_towpathref01_Put_20) (by kernel_rfl) ?_
        refine wpE_region (id := 4) (ops := r_towpathref01_Put_18) (by kernel_rfl) ?_
        refine reg_run [.plain] 1 [(0, [], Value.int .u64 x), (1, [], Value.int .i64 from_), (2, [], Value.int .i64 n_), (3, [], Value.int .u64 v), (10, [], Value.int .u64 0), (11, [], Value.int .i64 63)] (by kernel_rfl) (by kernel_rfl) ?_
        refine reg_end [(0, Value.int .u64 x), (1, Value.int .i64 from_), (2, Value.int .i64 n_), (3, Value.int .u64 v), (10, Value.int .u64 0), (11, Value.int .i64 63)] (by kernel_rfl) (by kernel_rfl) ?_
        change WpE _ _ c_towpathref01_Put_20 _ _ _
        refine wpE_block (id := 0) (x := c_towpathref01_Put_21) (by kernel_rfl) ?_
        obtain ⟨I, μ, h0, hr⟩ := h
        refine wpE_loop (x := c_towpathref01_Put_22) (by kernel_rfl) (fun m l w => ∃ (out : Int) (i : Int), l = [(0, Value.int .u64 x), (1, Value.int .i64 from_), (2, Value.int .i64 n_), (3, Value.int .u64 v), (10, Value.int .u64 out), (11, Value.int .i64 i)] ∧ I out i w ∧ μ out i w = m) (l' := [(0, Value.int .u64 x), (1, Value.int .i64 from_), (2, Value.int .i64 n_), (3, Value.int .u64 v), (10, Value.int .u64 0), (11, Value.int .i64 63)]) (Sub.mk (by kernel_rfl)) ⟨0, 63, rfl, h0, rfl⟩ ?_
        rintro _ _ w2 ⟨out, i, rfl, hI, rfl⟩
        obtain ⟨again_, again__h, h⟩ : ∃ again_ : Int → Int → World → Prop, (∀ out' i' w', again_ out' i' w' → I out' i' w' ∧ μ out' i' w' < μ out i w2) ∧ F_towpathref01_Put_L1 x from_ n_ v R again_ out i w2 := ⟨_, fun _ _ _ h => h, hr out i w2 hI⟩
        clear h0 hI
        unfold F_towpathref01_Put_L1 at h
        refine wpE_seq (x := c_towpathref01_Put_23) (y := c_towpathref01_Put_29) (by kernel_rfl) ?_
        refine wpE_seq (x := c_towpathref01_Put_24) (y := c_towpathref01_Put_26) (by kernel_rfl) ?_
        refine wpE_region (id := 5) (ops := r_towpathref01_Put_24) (by kernel_rfl) ?_
        refine reg_run [.plain, .plain] 2 [(0, [], Value.int .u64 x), (1, [], Value.int .i64 from_), (2, [], Value.int .i64 n_), (3, [], Value.int .u64 v), (10, [], Value.int .u64 out), (11, [], Value.int .i64 i), (28, [], Value.bool (decide (i ≥ 0)))] (by kernel_rfl) (by kernel_rfl) ?_
        refine reg_end [(0, Value.int .u64 x), (1, Value.int .i64 from_), (2, Value.int .i64 n_), (3, Value.int .u64 v), (10, Value.int .u64 out), (11, Value.int .i64 i), (28, Value.bool (decide (i ≥ 0)))] (by kernel_rfl) (by kernel_rfl) ?_
        change WpE _ _ c_towpathref01_Put_26 _ _ _
        refine wpE_cond (o := (Operand.tmp 28)) (b := (decide (i ≥ 0))) (x := c_towpathref01_Put_27) (y := c_towpathref01_Put_28) (by kernel_rfl) (by kernel_rfl) (fun hb => ?_) (fun hb => ?_)
        · replace h := h.1 hb
          refine wpE_skip (by kernel_rfl) ?_
          change WpE _ _ c_towpathref01_Put_29 _ _ _
          refine wpE_seq (x := c_towpathref01_Put_30) (y := c_towpathref01_Put_44) (by kernel_rfl) ?_
          refine wpE_block (id := 1) (x := c_towpathref01_Put_31) (by kernel_rfl) ?_
          refine wpE_seq (x := c_towpathref01_Put_32) (y := c_towpathref01_Put_34) (by kernel_rfl) ?_
          refine wpE_region (id := 7) (ops := r_towpathref01_Put_32) (by kernel_rfl) ?_
          refine reg_run [.plain, .plain] 2 [(0, [], Value.int .u64 x), (1, [], Value.int .i64 from_), (2, [], Value.int .i64 n_), (3, [], Value.int .u64 v), (10, [], Value.int .u64 out), (11, [], Value.int .i64 i), (31, [], Value.int .u64 x), (32, [], Value.int .i64 i)] (by kernel_rfl) (by kernel_rfl) ?_
          refine reg_enter (op := (Go.Op.call (Go.Call.mk (Go.Callee.value (Go.Operand.func 64)) #[(Go.Operand.tmp 31), (Go.Operand.tmp 32)] #[42, 3]))) (ty := 42) (dst := some 33) 64 #[Value.int .u64 x, Value.int .i64 i] (by kernel_rfl) (fun ww => by kernel_rfl) (Calls.mono h ?_)
          rintro _ w3 ⟨v33, rfl, h⟩
          refine ⟨_, rfl, ?_⟩
          refine reg_run [.plain] 4 [(0, [], Value.int .u64 x), (1, [], Value.int .i64 from_), (2, [], Value.int .i64 n_), (3, [], Value.int .u64 v), (10, [], Value.int .u64 out), (11, [], Value.int .i64 i), (12, [], Value.int .u64 v33)] (by kernel_rfl) (by kernel_rfl) ?_
          refine reg_end [(0, Value.int .u64 x), (1, Value.int .i64 from_), (2, Value.int .i64 n_), (3, Value.int .u64 v), (10, Value.int .u64 out), (11, Value.int .i64 i), (12, Value.int .u64 v33)] (by kernel_rfl) (by kernel_rfl) ?_
          change WpE _ _ c_towpathref01_Put_34 _ _ _
          refine wpE_seq_cut (x := c_towpathref01_Put_35) (y := c_towpathref01_Put_42) (by kernel_rfl) (fun l w => ∃ (b_ : Int), l = [(0, Value.int .u64 x), (1, Value.int .i64 from_), (2, Value.int .i64 n_), (3, Value.int .u64 v), (10, Value.int .u64 out), (11, Value.int .i64 i), (12, Value.int .u64 b_)] ∧ F_towpathref01_Put_k2 out i again_ b_ w) ?_ ?_
          · refine wpE_seq (x := c_towpathref01_Put_36) (y := c_towpathref01_Put_38) (by kernel_rfl) ?_
            refine wpE_region (id := 8) (ops := r_towpathref01_Put_36) (by kernel_rfl) ?_
            refine reg_run [.plain, .plain, .plain, .plain, .plain, .plain, .plain, .plain, .plain, .pick] 10 [(0, [], Value.int .u64 x), (1, [], Value.int .i64 from_), (2, [], Value.int .i64 n_), (3, [], Value.int .u64 v), (10, [], Value.int .u64 out), (11, [], Value.int .i64 i), (12, [], Value.int .u64 v33), (43, [], Value.bool ((decide (i ≥ from_)) && (decide (i < (IntKind.i64.wrap (from_ + n_))))))] (by kernel_rfl) (by kernel_rfl) ?_
            refine reg_end [(0, Value.int .u64 x), (1, Value.int .i64 from_), (2, Value.int .i64 n_), (3, Value.int .u64 v), (10, Value.int .u64 out), (11, Value.int .i64 i), (12, Value.int .u64 v33), (43, Value.bool ((decide (i ≥ from_)) && (decide (i < (IntKind.i64.wrap (from_ + n_))))))] (by kernel_rfl) (by kernel_rfl) ?_
            change WpE _ _ c_towpathref01_Put_38 _ _ _
            refine wpE_cond (o := (Operand.tmp 43)) (b := ((decide (i ≥ from_)) && (decide (i < (IntKind.i64.wrap (from_ + n_)))))) (x := c_towpathref01_Put_39) (y := c_towpathref01_Put_41) (by kernel_rfl) (by kernel_rfl) (fun hb => ?_) (fun hb => ?_)
            · replace h := h.1 hb
              refine wpE_region (id := 9) (ops := r_towpathref01_Put_39) (by kernel_rfl) ?_
              refine reg_run [.plain, .plain, .plain, .plain] 4 [(0, [], Value.int .u64 x), (1, [], Value.int .i64 from_), (2, [], Value.int .i64 n_), (3, [], Value.int .u64 v), (10, [], Value.int .u64 out), (11, [], Value.int .i64 i), (12, [], Value.int .u64 v33), (44, [], Value.int .u64 v), (47, [], Value.int .i64 (IntKind.i64.wrap (i - from_)))] (by kernel_rfl) (by kernel_rfl) ?_
              refine reg_enter (op := (Go.Op.call (Go.Call.mk (Go.Callee.value (Go.Operand.func 64)) #[(Go.Operand.tmp 44), (Go.Operand.tmp 47)] #[42, 3]))) (ty := 42) (dst := some 48) 64 #[Value.int .u64 v, Value.int .i64 (IntKind.i64.wrap (i - from_))] (by kernel_rfl) (fun ww => by kernel_rfl) (Calls.mono h ?_)
              rintro _ w5 ⟨v48, rfl, h⟩
              refine ⟨_, rfl, ?_⟩
              refine reg_run [.plain] 6 [(0, [], Value.int .u64 x), (1, [], Value.int .i64 from_), (2, [], Value.int .i64 n_), (3, [], Value.int .u64 v), (10, [], Value.int .u64 out), (11, [], Value.int .i64 i), (12, [], Value.int .u64 v48)] (by kernel_rfl) (by kernel_rfl) ?_
              refine reg_end [(0, Value.int .u64 x), (1, Value.int .i64 from_), (2, Value.int .i64 n_), (3, Value.int .u64 v), (10, Value.int .u64 out), (11, Value.int .i64 i), (12, Value.int .u64 v48)] (by kernel_rfl) (by kernel_rfl) ?_
              exact ⟨[(0, Value.int .u64 x), (1, Value.int .i64 from_), (2, Value.int .i64 n_), (3, Value.int .u64 v), (10, Value.int .u64 out), (11, Value.int .i64 i), (12, Value.int .u64 v48)], Sub.mk (by kernel_rfl), v48, rfl, h⟩
            · replace h := h.2 hb
              refine wpE_skip (by kernel_rfl) ?_
              exact ⟨[(0, Value.int .u64 x), (1, Value.int .i64 from_), (2, Value.int .i64 n_), (3, Value.int .u64 v), (10, Value.int .u64 out), (11, Value.int .i64 i), (12, Value.int .u64 v33)], Sub.mk (by kernel_rfl), v33, rfl, h⟩
          · rintro _ w4 ⟨b_, rfl, h⟩
            unfold F_towpathref01_Put_k2 at h
            refine wpE_region (id := 10) (ops := r_towpathref01_Put_42) (by kernel_rfl) ?_
            refine reg_run [.plain, .plain, .plain, .plain, .plain] 5 [(0, [], Value.int .u64 x), (1, [], Value.int .i64 from_), (2, [], Value.int .i64 n_), (3, [], Value.int .u64 v), (10, [], Value.int .u64 (IntKind.u64.wrap ((IntKind.u64.wrap (2 * out)) + b_))), (11, [], Value.int .i64 i)] (by kernel_rfl) (by kernel_rfl) ?_
            refine reg_end [(0, Value.int .u64 x), (1, Value.int .i64 from_), (2, Value.int .i64 n_), (3, Value.int .u64 v), (10, Value.int .u64 (IntKind.u64.wrap ((IntKind.u64.wrap (2 * out)) + b_))), (11, Value.int .i64 i)] (by kernel_rfl) (by kernel_rfl) ?_
            change WpE _ _ c_towpathref01_Put_44 _ _ _
            refine wpE_region (id := 6) (ops := r_towpathref01_Put_44) (by kernel_rfl) ?_
            refine reg_run [.plain, .plain, .plain] 3 [(0, [], Value.int .u64 x), (1, [], Value.int .i64 from_), (2, [], Value.int .i64 n_), (3, [], Value.int .u64 v), (10, [], Value.int .u64 (IntKind.u64.wrap ((IntKind.u64.wrap (2 * out)) + b_))), (11, [], Value.int .i64 (IntKind.i64.wrap (i - 1)))] (by kernel_rfl) (by kernel_rfl) ?_
            refine reg_end [(0, Value.int .u64 x), (1, Value.int .i64 from_), (2, Value.int .i64 n_), (3, Value.int .u64 v), (10, Value.int .u64 (IntKind.u64.wrap ((IntKind.u64.wrap (2 * out)) + b_))), (11, Value.int .i64 (IntKind.i64.wrap (i - 1)))] (by kernel_rfl) (by kernel_rfl) ?_
            have hb_ := again__h _ _ _ h
            exact ⟨_, hb_.2, [(0, Value.int .u64 x), (1, Value.int .i64 from_), (2, Value.int .i64 n_), (3, Value.int .u64 v), (10, Value.int .u64 (IntKind.u64.wrap ((IntKind.u64.wrap (2 * out)) + b_))), (11, Value.int .i64 (IntKind.i64.wrap (i - 1)))], Sub.mk (by kernel_rfl), (IntKind.u64.wrap ((IntKind.u64.wrap (2 * out)) + b_)), (IntKind.i64.wrap (i - 1)), rfl, hb_.1, rfl⟩
        · replace h := h.2 hb
          refine wpE_exit (id := 0) (by kernel_rfl) ?_
          change WpE _ _ c_towpathref01_Put_46 _ _ _
          refine wpE_seq (x := c_towpathref01_Put_47) (y := c_towpathref01_Put_49) (by kernel_rfl) ?_
          refine wpE_region (id := 11) (ops := r_towpathref01_Put_47) (by kernel_rfl) ?_
          refine reg_run [.plain, .plain, .plain] 3 [(8, [], Value.int .u64 out), (9, [], Value.bool true)] (by kernel_rfl) (by kernel_rfl) ?_
          refine reg_end [(8, Value.int .u64 out), (9, Value.bool true)] (by kernel_rfl) (by kernel_rfl) ?_
          change WpE _ _ c_towpathref01_Put_49 _ _ _
          refine wpE_ret (by kernel_rfl) ?_
          repeat (first | refine seqQ_ret ?_ | refine blockQ_ret ?_ | refine loopQ_ret ?_ | refine cutQ_ret ?_)
          exact retT (rs := [(Go.ResultVar.tmp 8), (Go.ResultVar.tmp 9)]) (vs := [Value.int .u64 out, Value.bool true]) (by kernel_rfl) (⟨by kernel_rfl, ⟨by kernel_rfl, trivial⟩⟩) (by kernel_rfl) ⟨out, true, rfl, h⟩
  · rintro e w' ⟨v, rfl, r0, r1, rfl, h⟩; exact ⟨r0, r1, rfl, h⟩

/-! ### towpath/towpathlaw01.TwinBytes (function 50) -/
noncomputable def c_towpathlaw01_TwinBytes_0 : Code := (Try.f50.body).getD Code.skip
noncomputable def c_towpathlaw01_TwinBytes_1 : Code := Code.l c_towpathlaw01_TwinBytes_0
noncomputable def r_towpathlaw01_TwinBytes_1 : Array Oper := Code.ops c_towpathlaw01_TwinBytes_1
noncomputable def c_towpathlaw01_TwinBytes_3 : Code := Code.r c_towpathlaw01_TwinBytes_0
noncomputable def c_towpathlaw01_TwinBytes_4 : Code := Code.l c_towpathlaw01_TwinBytes_3
noncomputable def r_towpathlaw01_TwinBytes_4 : Array Oper := Code.ops c_towpathlaw01_TwinBytes_4
noncomputable def c_towpathlaw01_TwinBytes_6 : Code := Code.r c_towpathlaw01_TwinBytes_3
noncomputable def c_towpathlaw01_TwinBytes_7 : Code := Code.l c_towpathlaw01_TwinBytes_6
noncomputable def c_towpathlaw01_TwinBytes_8 : Code := Code.l c_towpathlaw01_TwinBytes_7
noncomputable def r_towpathlaw01_TwinBytes_8 : Array Oper := Code.ops c_towpathlaw01_TwinBytes_8
noncomputable def c_towpathlaw01_TwinBytes_10 : Code := Code.r c_towpathlaw01_TwinBytes_7
noncomputable def c_towpathlaw01_TwinBytes_11 : Code := Code.l c_towpathlaw01_TwinBytes_10
noncomputable def c_towpathlaw01_TwinBytes_12 : Code := Code.l c_towpathlaw01_TwinBytes_11
noncomputable def c_towpathlaw01_TwinBytes_13 : Code := Code.l c_towpathlaw01_TwinBytes_12
noncomputable def c_towpathlaw01_TwinBytes_14 : Code := Code.l c_towpathlaw01_TwinBytes_13
noncomputable def r_towpathlaw01_TwinBytes_14 : Array Oper := Code.ops c_towpathlaw01_TwinBytes_14
noncomputable def c_towpathlaw01_TwinBytes_16 : Code := Code.r c_towpathlaw01_TwinBytes_13
noncomputable def c_towpathlaw01_TwinBytes_17 : Code := Code.l c_towpathlaw01_TwinBytes_16
noncomputable def c_towpathlaw01_TwinBytes_18 : Code := Code.r c_towpathlaw01_TwinBytes_16
noncomputable def c_towpathlaw01_TwinBytes_19 : Code := Code.r c_towpathlaw01_TwinBytes_12
noncomputable def c_towpathlaw01_TwinBytes_20 : Code := Code.l c_towpathlaw01_TwinBytes_19
noncomputable def c_towpathlaw01_TwinBytes_21 : Code := Code.l c_towpathlaw01_TwinBytes_20
noncomputable def r_towpathlaw01_TwinBytes_21 : Array Oper := Code.ops c_towpathlaw01_TwinBytes_21
noncomputable def c_towpathlaw01_TwinBytes_23 : Code := Code.r c_towpathlaw01_TwinBytes_19
noncomputable def r_towpathlaw01_TwinBytes_23 : Array Oper := Code.ops c_towpathlaw01_TwinBytes_23
noncomputable def c_towpathlaw01_TwinBytes_25 : Code := Code.r c_towpathlaw01_TwinBytes_6
noncomputable def c_towpathlaw01_TwinBytes_26 : Code := Code.l c_towpathlaw01_TwinBytes_25
noncomputable def r_towpathlaw01_TwinBytes_26 : Array Oper := Code.ops c_towpathlaw01_TwinBytes_26
noncomputable def c_towpathlaw01_TwinBytes_28 : Code := Code.r c_towpathlaw01_TwinBytes_25

set_option maxRecDepth 100000 in
theorem S_towpathlaw01_TwinBytes {l_ : Slc} {w : World} {R : Slc → World → Prop} (h : F_towpathlaw01_TwinBytes l_ R w) : C_towpathlaw01_TwinBytes l_ w R := by
  unfold F_towpathlaw01_TwinBytes at h
  unfold C_towpathlaw01_TwinBytes
  refine Calls.mono (calls_of_wpE (args := [Value.slice l_.ptr l_.len l_.cap]) (R := fun v w' => ∃ (r0 : Slc), v = Value.slice r0.ptr r0.len r0.cap ∧ R r0 w') Try.func50 (c := c_towpathlaw01_TwinBytes_0) (by kernel_rfl) 28 (by kernel_rfl) (by kernel_rfl) [(0, Value.slice l_.ptr l_.len l_.cap)] (by kernel_rfl) ?_) ?_
  · refine wpE_seq (x := c_towpathlaw01_TwinBytes_1) (y := c_towpathlaw01_TwinBytes_3) (by kernel_rfl) ?_
    refine wpE_region (id := 0) (ops := r_towpathlaw01_TwinBytes_1) (by kernel_rfl) ?_
    refine reg_run [.plain] 1 [(0, [], Value.slice l_.ptr l_.len l_.cap)] (by kernel_rfl) (by kernel_rfl) ?_
    refine reg_end [(0, Value.slice l_.ptr l_.len l_.cap)] (by kernel_rfl) (by kernel_rfl) ?_
    change WpE _ _ c_towpathlaw01_TwinBytes_3 _ _ _
    refine wpE_seq (x := c_towpathlaw01_TwinBytes_4) (y := c_towpathlaw01_TwinBytes_6) (by kernel_rfl) ?_
    refine wpE_region (id := 1) (ops := r_towpathlaw01_TwinBytes_4) (by kernel_rfl) ?_
    refine reg_run [.plain, .plain, .plain] 3 [(0, [], Value.slice l_.ptr l_.len l_.cap), (7, [], Value.int .i64 (IntKind.i64.wrap (((l_.len : Nat) : Int) + 1)))] (by kernel_rfl) (by kernel_rfl) ?_
    obtain ⟨h0, h1, h2, h⟩ := h
    refine reg_makeSlice (t := 74) (e := 5) (lo := (Go.Operand.const (Go.Value.int Go.IntKind.i64 0))) (co := (Go.Operand.tmp 7)) (l := 0) (c := (IntKind.i64.wrap (((l_.len : Nat) : Int) + 1))) (sz := 1) (by_ := 1) (zs := [Value.int .u8 0]) (ty := 74) (dst := some 8) (by kernel_rfl) (by kernel_rfl) (by kernel_rfl) (by kernel_rfl) (by kernel_rfl) (by kernel_rfl) (by kernel_rfl) (by kernel_rfl) (by kernel_rfl) h0 h1 h2 (fun b_ w1 hb hw => ?_)
    replace h := h b_ w1 hb hw
    clear hb hw
    refine reg_run [.plain] 5 [(0, [], Value.slice l_.ptr l_.len l_.cap), (3, [], Value.slice (some ⟨b_, 0, none⟩) 0 ((IntKind.i64.wrap (((l_.len : Nat) : Int) + 1)).toNat))] (by kernel_rfl) (by kernel_rfl) ?_
    refine reg_end [(0, Value.slice l_.ptr l_.len l_.cap), (3, Value.slice (some ⟨b_, 0, none⟩) 0 ((IntKind.i64.wrap (((l_.len : Nat) : Int) + 1)).toNat))] (by kernel_rfl) (by kernel_rfl) ?_
    change WpE _ _ c_towpathlaw01_TwinBytes_6 _ _ _
    refine wpE_seq (x := c_towpathlaw01_TwinBytes_7) (y := c_towpathlaw01_TwinBytes_25) (by kernel_rfl) ?_
    refine wpE_seq (x := c_towpathlaw01_TwinBytes_8) (y := c_towpathlaw01_TwinBytes_10) (by kernel_rfl) ?_
    refine wpE_region (id := 2) (ops := r_towpathlaw01_TwinBytes_8) (by kernel_rfl) ?_
    refine reg_run [.plain] 1 [(0, [], Value.slice l_.ptr l_.len l_.cap), (3, [], Value.slice (some ⟨b_, 0, none⟩) 0 ((IntKind.i64.wrap (((l_.len : Nat) : Int) + 1)).toNat)), (4, [], Value.int .i64 0)] (by kernel_rfl) (by kernel_rfl) ?_
    refine reg_end [(0, Value.slice l_.ptr l_.len l_.cap), (3, Value.slice (some ⟨b_, 0, none⟩) 0 ((IntKind.i64.wrap (((l_.len : Nat) : Int) + 1)).toNat)), (4, Value.int .i64 0)] (by kernel_rfl) (by kernel_rfl) ?_
    change WpE _ _ c_towpathlaw01_TwinBytes_10 _ _ _
    refine wpE_block (id := 0) (x := c_towpathlaw01_TwinBytes_11) (by kernel_rfl) ?_
    obtain ⟨I, μ, h0, hr⟩ := h
    refine wpE_loop (x := c_towpathlaw01_TwinBytes_12) (by kernel_rfl) (fun m l w => ∃ (t_ : Slc) (i : Int), l = [(0, Value.slice l_.ptr l_.len l_.cap), (3, Value.slice t_.ptr t_.len t_.cap), (4, Value.int .i64 i)] ∧ I t_ i w ∧ μ t_ i w = m) (l' := [(0, Value.slice l_.ptr l_.len l_.cap), (3, Value.slice (some ⟨b_, 0, none⟩) 0 ((IntKind.i64.wrap (((l_.len : Nat) : Int) + 1)).toNat)), (4, Value.int .i64 0)]) (Sub.mk (by kernel_rfl)) ⟨(Slc.mk (some ⟨b_, 0, none⟩) 0 ((IntKind.i64.wrap (((l_.len : Nat) : Int) + 1)).toNat)), 0, rfl, h0, rfl⟩ ?_
    rintro _ _ w2 ⟨t_, i, rfl, hI, rfl⟩
    obtain ⟨again_, again__h, h⟩ : ∃ again_ : Slc → Int → World → Prop, (∀ t_' i' w', again_ t_' i' w' → I t_' i' w' ∧ μ t_' i' w' < μ t_ i w2) ∧ F_towpathlaw01_TwinBytes_L0 l_ R again_ t_ i w2 := ⟨_, fun _ _ _ h => h, hr t_ i w2 hI⟩
    clear h0 hI
    unfold F_towpathlaw01_TwinBytes_L0 at h
    refine wpE_seq (x := c_towpathlaw01_TwinBytes_13) (y := c_towpathlaw01_TwinBytes_19) (by kernel_rfl) ?_
    refine wpE_seq (x := c_towpathlaw01_TwinBytes_14) (y := c_towpathlaw01_TwinBytes_16) (by kernel_rfl) ?_
    refine wpE_region (id := 3) (ops := r_towpathlaw01_TwinBytes_14) (by kernel_rfl) ?_
    refine reg_run [.plain, .plain, .plain, .plain] 4 [(0, [], Value.slice l_.ptr l_.len l_.cap), (3, [], Value.slice t_.ptr t_.len t_.cap), (4, [], Value.int .i64 i), (12, [], Value.bool (decide (i < ((l_.len : Nat) : Int))))] (by kernel_rfl) (by kernel_rfl) ?_
    refine reg_end [(0, Value.slice l_.ptr l_.len l_.cap), (3, Value.slice t_.ptr t_.len t_.cap), (4, Value.int .i64 i), (12, Value.bool (decide (i < ((l_.len : Nat) : Int))))] (by kernel_rfl) (by kernel_rfl) ?_
    change WpE _ _ c_towpathlaw01_TwinBytes_16 _ _ _
    refine wpE_cond (o := (Operand.tmp 12)) (b := (decide (i < ((l_.len : Nat) : Int)))) (x := c_towpathlaw01_TwinBytes_17) (y := c_towpathlaw01_TwinBytes_18) (by kernel_rfl) (by kernel_rfl) (fun hb => ?_) (fun hb => ?_)
    · replace h := h.1 hb
      refine wpE_skip (by kernel_rfl) ?_
      change WpE _ _ c_towpathlaw01_TwinBytes_19 _ _ _
      refine wpE_seq (x := c_towpathlaw01_TwinBytes_20) (y := c_towpathlaw01_TwinBytes_23) (by kernel_rfl) ?_
      refine wpE_block (id := 1) (x := c_towpathlaw01_TwinBytes_21) (by kernel_rfl) ?_
      refine wpE_region (id := 5) (ops := r_towpathlaw01_TwinBytes_21) (by kernel_rfl) ?_
      refine reg_run [.plain, .plain, .plain] 3 [(0, [], Value.slice l_.ptr l_.len l_.cap), (3, [], Value.slice t_.ptr t_.len t_.cap), (4, [], Value.int .i64 i), (15, [], Value.slice t_.ptr t_.len t_.cap), (16, [], Value.slice l_.ptr l_.len l_.cap), (17, [], Value.int .i64 i)] (by kernel_rfl) (by kernel_rfl) ?_
      obtain ⟨hp_3, h⟩ := h
      refine reg_conv [(0, [], Value.slice l_.ptr l_.len l_.cap), (3, [], Value.slice t_.ptr t_.len t_.cap), (4, [], Value.int .i64 i), (15, [], Value.slice t_.ptr t_.len t_.cap), (16, [], Value.slice (some ⟨(pblk l_.ptr), (poff l_.ptr), none⟩) l_.len l_.cap), (17, [], Value.int .i64 i)] (congrArg (fun pp => ([(0, [], Value.slice l_.ptr l_.len l_.cap), (3, [], Value.slice t_.ptr t_.len t_.cap), (4, [], Value.int .i64 i), (15, [], Value.slice t_.ptr t_.len t_.cap), (16, [], Value.slice pp l_.len l_.cap), (17, [], Value.int .i64 i)] : GEnv)) hp_3) ?_
      obtain ⟨h0, h1, h⟩ := h
      refine reg_indexS1 (t := 74) (e := 5) (x := (Go.Operand.tmp 16)) (ix := (Go.Operand.tmp 17)) (b := (pblk l_.ptr)) (o := (poff l_.ptr)) (l := l_.len) (c := l_.cap) (k := .i64) (j := i) (ty := 0) (dst := some 18) (by kernel_rfl) (by kernel_rfl) (by kernel_rfl) (by kernel_rfl) (by kernel_rfl) h0 h1 ?_
      refine reg_run [] 4 [(0, [], Value.slice l_.ptr l_.len l_.cap), (3, [], Value.slice t_.ptr t_.len t_.cap), (4, [], Value.int .i64 i), (15, [], Value.slice t_.ptr t_.len t_.cap), (18, [], Value.pointer (some ⟨(pblk l_.ptr), (poff l_.ptr) + i.toNat, none⟩))] (by kernel_rfl) (by kernel_rfl) ?_
      obtain ⟨v19, hc, h⟩ := h
      refine reg_load1 (t := 5) (a := (Go.Operand.tmp 18)) (b := (pblk l_.ptr)) (o := ((poff l_.ptr) + i.toNat)) (ty := 5) (dst := some 19) (by kernel_rfl) (by kernel_rfl) (by kernel_rfl) hc ?_
      refine reg_run [] 5 [(0, [], Value.slice l_.ptr l_.len l_.cap), (3, [], Value.slice t_.ptr t_.len t_.cap), (4, [], Value.int .i64 i), (15, [], Value.slice t_.ptr t_.len t_.cap), (19, [], Value.int .u8 v19)] (by kernel_rfl) (by kernel_rfl) ?_
      refine reg_new (op := (Go.Op.buildSlice 74 1 #[(0, (Go.Operand.tmp 19))])) (ty := 74) (dst := some 20) (fun bb => Value.slice (some ⟨bb, 0, none⟩) 1 1) (Obj.cells ([Value.int .u8 v19]).toArray ty_uint8 (0, 0)) (by kernel_rfl) (by kernel_rfl) (fun b_1 w3 hb hw => ?_)
      replace h := h b_1 w3 hb hw
      clear hb hw
      refine reg_run [] 6 [(0, [], Value.slice l_.ptr l_.len l_.cap), (3, [], Value.slice t_.ptr t_.len t_.cap), (4, [], Value.int .i64 i), (15, [], Value.slice t_.ptr t_.len t_.cap), (20, [], Value.slice (some ⟨b_1, 0, none⟩) 1 1)] (by kernel_rfl) (by kernel_rfl) ?_
      obtain ⟨src, hs, h⟩ := h
      refine reg_append (t := 74) (tx := 74) (e := 5) (a := (Go.Operand.tmp 15)) (xo := (Go.Operand.tmp 20)) (s := t_) (x := (Slc.mk (some ⟨b_1, 0, none⟩) 1 1)) (sz := 1) (by_ := 1) (zs := [Value.int .u8 0]) (ty := 74) (dst := some 21) src (by kernel_rfl) (by kernel_rfl) (by kernel_rfl) (by kernel_rfl) (by kernel_rfl) (by kernel_rfl) (by kernel_rfl) (by kernel_rfl) (by kernel_rfl) hs (AppendW.mono h (fun t_1 w4 h => ?_))
      refine reg_run [.plain] 8 [(0, [], Value.slice l_.ptr l_.len l_.cap), (3, [], Value.slice t_1.ptr t_1.len t_1.cap), (4, [], Value.int .i64 i)] (by kernel_rfl) (by kernel_rfl) ?_
      refine reg_end [(0, Value.slice l_.ptr l_.len l_.cap), (3, Value.slice t_1.ptr t_1.len t_1.cap), (4, Value.int .i64 i)] (by kernel_rfl) (by kernel_rfl) ?_
      change WpE _ _ c_towpathlaw01_TwinBytes_23 _ _ _
      refine wpE_region (id := 4) (ops := r_towpathlaw01_TwinBytes_23) (by kernel_rfl) ?_
      refine reg_run [.plain, .plain, .plain] 3 [(0, [], Value.slice l_.ptr l_.len l_.cap), (3, [], Value.slice t_1.ptr t_1.len t_1.cap), (4, [], Value.int .i64 (IntKind.i64.wrap (i + 1)))] (by kernel_rfl) (by kernel_rfl) ?_
      refine reg_end [(0, Value.slice l_.ptr l_.len l_.cap), (3, Value.slice t_1.ptr t_1.len t_1.cap), (4, Value.int .i64 (IntKind.i64.wrap (i + 1)))] (by kernel_rfl) (by kernel_rfl) ?_
      have hb_ := again__h _ _ _ h
      exact ⟨_, hb_.2, [(0, Value.slice l_.ptr l_.len l_.cap), (3, Value.slice t_1.ptr t_1.len t_1.cap), (4, Value.int .i64 (IntKind.i64.wrap (i + 1)))], Sub.mk (by kernel_rfl), t_1, (IntKind.i64.wrap (i + 1)), rfl, hb_.1, rfl⟩
    · replace h := h.2 hb
      refine wpE_exit (id := 0) (by kernel_rfl) ?_
      change WpE _ _ c_towpathlaw01_TwinBytes_25 _ _ _
      refine wpE_seq (x := c_towpathlaw01_TwinBytes_26) (y := c_towpathlaw01_TwinBytes_28) (by kernel_rfl) ?_
      refine wpE_region (id := 6) (ops := r_towpathlaw01_TwinBytes_26) (by kernel_rfl) ?_
      refine reg_run [.plain] 1 [(0, [], Value.slice l_.ptr l_.len l_.cap), (22, [], Value.slice t_.ptr t_.len t_.cap)] (by kernel_rfl) (by kernel_rfl) ?_
      refine reg_new (op := (Go.Op.buildSlice 74 1 #[(0, (Go.Operand.const (Go.Value.int Go.IntKind.u8 77)))])) (ty := 74) (dst := some 23) (fun bb => Value.slice (some ⟨bb, 0, none⟩) 1 1) (Obj.cells ([Value.int .u8 77]).toArray ty_uint8 (0, 0)) (by kernel_rfl) (by kernel_rfl) (fun b_2 w5 hb hw => ?_)
      replace h := h b_2 w5 hb hw
      clear hb hw
      refine reg_run [] 2 [(0, [], Value.slice l_.ptr l_.len l_.cap), (22, [], Value.slice t_.ptr t_.len t_.cap), (23, [], Value.slice (some ⟨b_2, 0, none⟩) 1 1)] (by kernel_rfl) (by kernel_rfl) ?_
      obtain ⟨src, hs, h⟩ := h
      refine reg_append (t := 74) (tx := 74) (e := 5) (a := (Go.Operand.tmp 22)) (xo := (Go.Operand.tmp 23)) (s := t_) (x := (Slc.mk (some ⟨b_2, 0, none⟩) 1 1)) (sz := 1) (by_ := 1) (zs := [Value.int .u8 0]) (ty := 74) (dst := some 24) src (by kernel_rfl) (by kernel_rfl) (by kernel_rfl) (by kernel_rfl) (by kernel_rfl) (by kernel_rfl) (by kernel_rfl) (by kernel_rfl) (by kernel_rfl) hs (AppendW.mono h (fun v24 w6 h => ?_))
      refine reg_run [.plain, .plain] 5 [(24, [], Value.slice v24.ptr v24.len v24.cap), (26, [], Value.int .i64 ((l_.len : Nat) : Int))] (by kernel_rfl) (by kernel_rfl) ?_
      obtain ⟨h0, h1, h⟩ := h
      refine reg_sliceHi (t := 74) (e := 5) (x := (Go.Operand.tmp 24)) (hi := (Go.Operand.tmp 26)) (p := v24.ptr) (l := v24.len) (c := v24.cap) (sz := 1) (k := .i64) (j := ((l_.len : Nat) : Int)) (ty := 74) (dst := some 27) (by kernel_rfl) (by kernel_rfl) (by kernel_rfl) (by kernel_rfl) (by kernel_rfl) h0 h1 ?_
      refine reg_run [.plain] 7 [(2, [], Value.slice v24.ptr (((l_.len : Nat) : Int).toNat) v24.cap)] (by kernel_rfl) (by kernel_rfl) ?_
      refine reg_end [(2, Value.slice v24.ptr (((l_.len : Nat) : Int).toNat) v24.cap)] (by kernel_rfl) (by kernel_rfl) ?_
      change WpE _ _ c_towpathlaw01_TwinBytes_28 _ _ _
      refine wpE_ret (by kernel_rfl) ?_
      repeat (first | refine seqQ_ret ?_ | refine blockQ_ret ?_ | refine loopQ_ret ?_ | refine cutQ_ret ?_)
      exact retS (rs := [(Go.ResultVar.tmp 2)]) (v := Value.slice v24.ptr (((l_.len : Nat) : Int).toNat) v24.cap) (by kernel_rfl) (⟨by kernel_rfl, trivial⟩) ⟨(Slc.mk v24.ptr (((l_.len : Nat) : Int).toNat) v24.cap), rfl, h⟩
  · rintro e w' ⟨v, rfl, r0, rfl, h⟩; exact ⟨r0, rfl, h⟩

/-! ### towpath/sum.CRC (function 51) -/
noncomputable def c_sum_CRC_0 : Code := (Try.f51.body).getD Code.skip
noncomputable def c_sum_CRC_1 : Code := Code.l c_sum_CRC_0
noncomputable def r_sum_CRC_1 : Array Oper := Code.ops c_sum_CRC_1
noncomputable def c_sum_CRC_3 : Code := Code.r c_sum_CRC_0
noncomputable def c_sum_CRC_4 : Code := Code.l c_sum_CRC_3
noncomputable def r_sum_CRC_4 : Array Oper := Code.ops c_sum_CRC_4
noncomputable def c_sum_CRC_6 : Code := Code.r c_sum_CRC_3

set_option maxRecDepth 100000 in
theorem S_sum_CRC {b_ : Slc} {w : World} {R : Int → World → Prop} (h : F_sum_CRC b_ R w) : C_sum_CRC b_ w R := by
  unfold F_sum_CRC at h
  unfold C_sum_CRC
  refine Calls.mono (calls_of_wpE (args := [Value.slice b_.ptr b_.len b_.cap]) (R := fun v w' => ∃ (r0 : Int), v = Value.int .u32 r0 ∧ R r0 w') Try.func51 (c := c_sum_CRC_0) (by kernel_rfl) 5 (by kernel_rfl) (by kernel_rfl) [(0, Value.slice b_.ptr b_.len b_.cap)] (by kernel_rfl) ?_) ?_
  · refine wpE_seq (x := c_sum_CRC_1) (y := c_sum_CRC_3) (by kernel_rfl) ?_
    refine wpE_region (id := 0) (ops := r_sum_CRC_1) (by kernel_rfl) ?_
    refine reg_run [.plain] 1 [(0, [], Value.slice b_.ptr b_.len b_.cap)] (by kernel_rfl) (by kernel_rfl) ?_
    refine reg_end [(0, Value.slice b_.ptr b_.len b_.cap)] (by kernel_rfl) (by kernel_rfl) ?_
    change WpE _ _ c_sum_CRC_3 _ _ _
    refine wpE_seq (x := c_sum_CRC_4) (y := c_sum_CRC_6) (by kernel_rfl) ?_
    refine wpE_region (id := 1) (ops := r_sum_CRC_4) (by kernel_rfl) ?_
    refine reg_run [.plain] 1 [(3, [], Value.slice b_.ptr b_.len b_.cap)] (by kernel_rfl) (by kernel_rfl) ?_
    refine reg_enter (op := (Go.Op.call (Go.Call.mk (Go.Callee.value (Go.Operand.func 53)) #[(Go.Operand.const (Go.Value.int Go.IntKind.u32 0)), (Go.Operand.tmp 3)] #[39, 74]))) (ty := 39) (dst := some 4) 53 #[Value.int .u32 0, Value.slice b_.ptr b_.len b_.cap] (by kernel_rfl) (fun ww => by kernel_rfl) (Calls.mono h ?_)
    rintro _ w1 ⟨v4, rfl, h⟩
    refine ⟨_, rfl, ?_⟩
    refine reg_run [.plain] 3 [(2, [], Value.int .u32 v4)] (by kernel_rfl) (by kernel_rfl) ?_
    refine reg_end [(2, Value.int .u32 v4)] (by kernel_rfl) (by kernel_rfl) ?_
    change WpE _ _ c_sum_CRC_6 _ _ _
    refine wpE_ret (by kernel_rfl) ?_
    repeat (first | refine seqQ_ret ?_ | refine blockQ_ret ?_ | refine loopQ_ret ?_ | refine cutQ_ret ?_)
    exact retS (rs := [(Go.ResultVar.tmp 2)]) (v := Value.int .u32 v4) (by kernel_rfl) (⟨by kernel_rfl, trivial⟩) ⟨v4, rfl, h⟩
  · rintro e w' ⟨v, rfl, r0, rfl, h⟩; exact ⟨r0, rfl, h⟩

/-! ### towpath/towpathref03.CRC (function 52) -/
noncomputable def c_towpathref03_CRC_0 : Code := (Try.f52.body).getD Code.skip
noncomputable def c_towpathref03_CRC_1 : Code := Code.l c_towpathref03_CRC_0
noncomputable def r_towpathref03_CRC_1 : Array Oper := Code.ops c_towpathref03_CRC_1
noncomputable def c_towpathref03_CRC_3 : Code := Code.r c_towpathref03_CRC_0
noncomputable def c_towpathref03_CRC_4 : Code := Code.l c_towpathref03_CRC_3
noncomputable def r_towpathref03_CRC_4 : Array Oper := Code.ops c_towpathref03_CRC_4
noncomputable def c_towpathref03_CRC_6 : Code := Code.r c_towpathref03_CRC_3

set_option maxRecDepth 100000 in
theorem S_towpathref03_CRC {b_ : Slc} {w : World} {R : Int → World → Prop} (h : F_towpathref03_CRC b_ R w) : C_towpathref03_CRC b_ w R := by
  unfold F_towpathref03_CRC at h
  unfold C_towpathref03_CRC
  refine Calls.mono (calls_of_wpE (args := [Value.slice b_.ptr b_.len b_.cap]) (R := fun v w' => ∃ (r0 : Int), v = Value.int .u32 r0 ∧ R r0 w') Try.func52 (c := c_towpathref03_CRC_0) (by kernel_rfl) 5 (by kernel_rfl) (by kernel_rfl) [(0, Value.slice b_.ptr b_.len b_.cap)] (by kernel_rfl) ?_) ?_
  · refine wpE_seq (x := c_towpathref03_CRC_1) (y := c_towpathref03_CRC_3) (by kernel_rfl) ?_
    refine wpE_region (id := 0) (ops := r_towpathref03_CRC_1) (by kernel_rfl) ?_
    refine reg_run [.plain] 1 [(0, [], Value.slice b_.ptr b_.len b_.cap)] (by kernel_rfl) (by kernel_rfl) ?_
    refine reg_end [(0, Value.slice b_.ptr b_.len b_.cap)] (by kernel_rfl) (by kernel_rfl) ?_
    change WpE _ _ c_towpathref03_CRC_3 _ _ _
    refine wpE_seq (x := c_towpathref03_CRC_4) (y := c_towpathref03_CRC_6) (by kernel_rfl) ?_
    refine wpE_region (id := 1) (ops := r_towpathref03_CRC_4) (by kernel_rfl) ?_
    refine reg_run [.plain] 1 [(3, [], Value.slice b_.ptr b_.len b_.cap)] (by kernel_rfl) (by kernel_rfl) ?_
    refine reg_enter (op := (Go.Op.call (Go.Call.mk (Go.Callee.value (Go.Operand.func 54)) #[(Go.Operand.const (Go.Value.int Go.IntKind.u32 0)), (Go.Operand.tmp 3)] #[39, 74]))) (ty := 39) (dst := some 4) 54 #[Value.int .u32 0, Value.slice b_.ptr b_.len b_.cap] (by kernel_rfl) (fun ww => by kernel_rfl) (Calls.mono h ?_)
    rintro _ w1 ⟨v4, rfl, h⟩
    refine ⟨_, rfl, ?_⟩
    refine reg_run [.plain] 3 [(2, [], Value.int .u32 v4)] (by kernel_rfl) (by kernel_rfl) ?_
    refine reg_end [(2, Value.int .u32 v4)] (by kernel_rfl) (by kernel_rfl) ?_
    change WpE _ _ c_towpathref03_CRC_6 _ _ _
    refine wpE_ret (by kernel_rfl) ?_
    repeat (first | refine seqQ_ret ?_ | refine blockQ_ret ?_ | refine loopQ_ret ?_ | refine cutQ_ret ?_)
    exact retS (rs := [(Go.ResultVar.tmp 2)]) (v := Value.int .u32 v4) (by kernel_rfl) (⟨by kernel_rfl, trivial⟩) ⟨v4, rfl, h⟩
  · rintro e w' ⟨v, rfl, r0, rfl, h⟩; exact ⟨r0, rfl, h⟩

/-! ### towpath/sum.More (function 53) -/
noncomputable def c_sum_More_0 : Code := (Try.f53.body).getD Code.skip
noncomputable def c_sum_More_1 : Code := Code.l c_sum_More_0
noncomputable def r_sum_More_1 : Array Oper := Code.ops c_sum_More_1
noncomputable def c_sum_More_3 : Code := Code.r c_sum_More_0
noncomputable def c_sum_More_4 : Code := Code.l c_sum_More_3
noncomputable def r_sum_More_4 : Array Oper := Code.ops c_sum_More_4
noncomputable def c_sum_More_6 : Code := Code.r c_sum_More_3
noncomputable def c_sum_More_7 : Code := Code.l c_sum_More_6
noncomputable def r_sum_More_7 : Array Oper := Code.ops c_sum_More_7
noncomputable def c_sum_More_9 : Code := Code.r c_sum_More_6
noncomputable def c_sum_More_10 : Code := Code.l c_sum_More_9
noncomputable def c_sum_More_11 : Code := Code.l c_sum_More_10
noncomputable def r_sum_More_11 : Array Oper := Code.ops c_sum_More_11
noncomputable def c_sum_More_13 : Code := Code.r c_sum_More_10
noncomputable def c_sum_More_14 : Code := Code.l c_sum_More_13
noncomputable def c_sum_More_15 : Code := Code.l c_sum_More_14
noncomputable def c_sum_More_16 : Code := Code.l c_sum_More_15
noncomputable def r_sum_More_16 : Array Oper := Code.ops c_sum_More_16
noncomputable def c_sum_More_18 : Code := Code.r c_sum_More_15
noncomputable def c_sum_More_19 : Code := Code.l c_sum_More_18
noncomputable def c_sum_More_20 : Code := Code.l c_sum_More_19
noncomputable def c_sum_More_21 : Code := Code.r c_sum_More_19
noncomputable def c_sum_More_22 : Code := Code.r c_sum_More_18
noncomputable def c_sum_More_23 : Code := Code.l c_sum_More_22
noncomputable def c_sum_More_24 : Code := Code.l c_sum_More_23
noncomputable def c_sum_More_25 : Code := Code.l c_sum_More_24
noncomputable def r_sum_More_25 : Array Oper := Code.ops c_sum_More_25
noncomputable def c_sum_More_27 : Code := Code.r c_sum_More_24
noncomputable def r_sum_More_27 : Array Oper := Code.ops c_sum_More_27
noncomputable def c_sum_More_29 : Code := Code.r c_sum_More_22
noncomputable def r_sum_More_29 : Array Oper := Code.ops c_sum_More_29
noncomputable def c_sum_More_31 : Code := Code.r c_sum_More_9
noncomputable def c_sum_More_32 : Code := Code.l c_sum_More_31
noncomputable def r_sum_More_32 : Array Oper := Code.ops c_sum_More_32
noncomputable def c_sum_More_34 : Code := Code.r c_sum_More_31

set_option maxRecDepth 100000 in
theorem S_sum_More {sum : Int} {b_ : Slc} {w : World} {R : Int → World → Prop} (h : F_sum_More sum b_ R w) : C_sum_More sum b_ w R := by
  unfold F_sum_More at h
  unfold C_sum_More
  refine Calls.mono (calls_of_wpE (args := [Value.int .u32 sum, Value.slice b_.ptr b_.len b_.cap]) (R := fun v w' => ∃ (r0 : Int), v = Value.int .u32 r0 ∧ R r0 w') Try.func53 (c := c_sum_More_0) (by kernel_rfl) 30 (by kernel_rfl) (by kernel_rfl) [(0, Value.int .u32 sum), (1, Value.slice b_.ptr b_.len b_.cap)] (by kernel_rfl) ?_) ?_
  · refine wpE_seq (x := c_sum_More_1) (y := c_sum_More_3) (by kernel_rfl) ?_
    refine wpE_region (id := 0) (ops := r_sum_More_1) (by kernel_rfl) ?_
    refine reg_run [.plain] 1 [(0, [], Value.int .u32 sum), (1, [], Value.slice b_.ptr b_.len b_.cap)] (by kernel_rfl) (by kernel_rfl) ?_
    refine reg_end [(0, Value.int .u32 sum), (1, Value.slice b_.ptr b_.len b_.cap)] (by kernel_rfl) (by kernel_rfl) ?_
    change WpE _ _ c_sum_More_3 _ _ _
    refine wpE_seq (x := c_sum_More_4) (y := c_sum_More_6) (by kernel_rfl) ?_
    refine wpE_region (id := 1) (ops := r_sum_More_4) (by kernel_rfl) ?_
    refine reg_run [] 0 [(0, [], Value.int .u32 sum), (1, [], Value.slice b_.ptr b_.len b_.cap)] (by kernel_rfl) (by kernel_rfl) ?_
    refine reg_enter (op := (Go.Op.call (Go.Call.mk (Go.Callee.value (Go.Operand.func 65)) #[] #[]))) (ty := 92) (dst := some 9) 65 #[] (by kernel_rfl) (fun ww => by kernel_rfl) (Calls.mono h ?_)
    rintro _ w1 ⟨v9, hl_v9_0, rfl, h⟩
    refine ⟨_, rfl, ?_⟩
    replace h := h hl_v9_0
    refine reg_run [] 1 [(0, [], Value.int .u32 sum), (1, [], Value.slice b_.ptr b_.len b_.cap), (9, [], Value.agg (List.map (Value.int .u32) v9).toArray)] (by kernel_rfl) (by kernel_rfl) ?_
    refine reg_new (op := (Go.Op.alloc 92)) (ty := 0) (dst := some 5) (fun bb => Value.pointer (some ⟨bb, 0, none⟩)) (Obj.cells ((List.map (Value.int .u32) (List.replicate 256 0))).toArray ty_256_uint32 (0, 0)) (by kernel_rfl) (by kernel_rfl) (fun b_1 w2 hb hw => ?_)
    replace h := h b_1 w2 hb hw
    clear hb hw
    refine reg_run [] 2 [(0, [], Value.int .u32 sum), (1, [], Value.slice b_.ptr b_.len b_.cap), (5, [], Value.pointer (some ⟨b_1, 0, none⟩)), (9, [], Value.agg (List.map (Value.int .u32) v9).toArray)] (by kernel_rfl) (by kernel_rfl) ?_
    obtain ⟨hc, h⟩ := h
    refine reg_store (t := 92) (a := (Go.Operand.tmp 5)) (x := (Go.Operand.tmp 9)) (b := b_1) (o := 0) (ty := 0) (dst := none) (List.map (Value.int .u32) v9) (by kernel_rfl) (by kernel_rfl) (by kernel_rfl) (k := 256) (by kernel_rfl) (by simp [*]) (by simp [oneCells, oneCell, List.all_eq_true]) hc (fun w3 hw => ?_)
    replace h := h w3 hw
    clear hw
    refine reg_end [(0, Value.int .u32 sum), (1, Value.slice b_.ptr b_.len b_.cap), (5, Value.pointer (some ⟨b_1, 0, none⟩))] (by kernel_rfl) (by kernel_rfl) ?_
    change WpE _ _ c_sum_More_6 _ _ _
    refine wpE_seq (x := c_sum_More_7) (y := c_sum_More_9) (by kernel_rfl) ?_
    refine wpE_region (id := 2) (ops := r_sum_More_7) (by kernel_rfl) ?_
    refine reg_run [.plain, .plain, .plain] 3 [(1, [], Value.slice b_.ptr b_.len b_.cap), (5, [], Value.pointer (some ⟨b_1, 0, none⟩)), (6, [], Value.int .u32 (bxor .u32 (IntKind.max .u32) sum))] (by kernel_rfl) (by kernel_rfl) ?_
    refine reg_end [(1, Value.slice b_.ptr b_.len b_.cap), (5, Value.pointer (some ⟨b_1, 0, none⟩)), (6, Value.int .u32 (bxor .u32 (IntKind.max .u32) sum))] (by kernel_rfl) (by kernel_rfl) ?_
    change WpE _ _ c_sum_More_9 _ _ _
    refine wpE_seq (x := c_sum_More_10) (y := c_sum_More_31) (by kernel_rfl) ?_
    refine wpE_seq (x := c_sum_More_11) (y := c_sum_More_13) (by kernel_rfl) ?_
    refine wpE_region (id := 3) (ops := r_sum_More_11) (by kernel_rfl) ?_
    refine reg_run [.plain, .plain, .plain] 3 [(5, [], Value.pointer (some ⟨b_1, 0, none⟩)), (6, [], Value.int .u32 (bxor .u32 (IntKind.max .u32) sum)), (12, [], Value.slice b_.ptr b_.len b_.cap), (13, [], Value.int .i64 ((b_.len : Nat) : Int)), (14, [], Value.int .i64 0)] (by kernel_rfl) (by kernel_rfl) ?_
    refine reg_end [(5, Value.pointer (some ⟨b_1, 0, none⟩)), (6, Value.int .u32 (bxor .u32 (IntKind.max .u32) sum)), (12, Value.slice b_.ptr b_.len b_.cap), (13, Value.int .i64 ((b_.len : Nat) : Int)), (14, Value.int .i64 0)] (by kernel_rfl) (by kernel_rfl) ?_
    change WpE _ _ c_sum_More_13 _ _ _
    refine wpE_block (id := 0) (x := c_sum_More_14) (by kernel_rfl) ?_
    obtain ⟨I, μ, h0, hr⟩ := h
    refine wpE_loop (x := c_sum_More_15) (by kernel_rfl) (fun m l w => ∃ (c : Int) (t14 : Int), l = [(5, Value.pointer (some ⟨b_1, 0, none⟩)), (6, Value.int .u32 c), (12, Value.slice b_.ptr b_.len b_.cap), (13, Value.int .i64 ((b_.len : Nat) : Int)), (14, Value.int .i64 t14)] ∧ I c t14 w ∧ μ c t14 w = m) (l' := [(5, Value.pointer (some ⟨b_1, 0, none⟩)), (6, Value.int .u32 (bxor .u32 (IntKind.max .u32) sum)), (12, Value.slice b_.ptr b_.len b_.cap), (13, Value.int .i64 ((b_.len : Nat) : Int)), (14, Value.int .i64 0)]) (Sub.mk (by kernel_rfl)) ⟨(bxor .u32 (IntKind.max .u32) sum), 0, rfl, h0, rfl⟩ ?_
    rintro _ _ w4 ⟨c, t14, rfl, hI, rfl⟩
    obtain ⟨again_, again__h, h⟩ : ∃ again_ : Int → Int → World → Prop, (∀ c' t14' w', again_ c' t14' w' → I c' t14' w' ∧ μ c' t14' w' < μ c t14 w4) ∧ F_sum_More_L0 b_ R b_1 again_ c t14 w4 := ⟨_, fun _ _ _ h => h, hr c t14 w4 hI⟩
    clear h0 hI
    unfold F_sum_More_L0 at h
    refine wpE_seq (x := c_sum_More_16) (y := c_sum_More_18) (by kernel_rfl) ?_
    refine wpE_region (id := 4) (ops := r_sum_More_16) (by kernel_rfl) ?_
    refine reg_run [.plain] 1 [(5, [], Value.pointer (some ⟨b_1, 0, none⟩)), (6, [], Value.int .u32 c), (12, [], Value.slice b_.ptr b_.len b_.cap), (13, [], Value.int .i64 ((b_.len : Nat) : Int)), (14, [], Value.int .i64 t14), (15, [], Value.bool (decide (t14 < ((b_.len : Nat) : Int))))] (by kernel_rfl) (by kernel_rfl) ?_
    refine reg_end [(5, Value.pointer (some ⟨b_1, 0, none⟩)), (6, Value.int .u32 c), (12, Value.slice b_.ptr b_.len b_.cap), (13, Value.int .i64 ((b_.len : Nat) : Int)), (14, Value.int .i64 t14), (15, Value.bool (decide (t14 < ((b_.len : Nat) : Int))))] (by kernel_rfl) (by kernel_rfl) ?_
    change WpE _ _ c_sum_More_18 _ _ _
    refine wpE_seq (x := c_sum_More_19) (y := c_sum_More_22) (by kernel_rfl) ?_
    refine wpE_cond (o := (Operand.tmp 15)) (b := (decide (t14 < ((b_.len : Nat) : Int)))) (x := c_sum_More_20) (y := c_sum_More_21) (by kernel_rfl) (by kernel_rfl) (fun hb => ?_) (fun hb => ?_)
    · replace h := h.1 hb
      refine wpE_skip (by kernel_rfl) ?_
      change WpE _ _ c_sum_More_22 _ _ _
      refine wpE_seq (x := c_sum_More_23) (y := c_sum_More_29) (by kernel_rfl) ?_
      refine wpE_block (id := 1) (x := c_sum_More_24) (by kernel_rfl) ?_
      refine wpE_seq (x := c_sum_More_25) (y := c_sum_More_27) (by kernel_rfl) ?_
      refine wpE_region (id := 5) (ops := r_sum_More_25) (by kernel_rfl) ?_
      refine reg_run [] 0 [(5, [], Value.pointer (some ⟨b_1, 0, none⟩)), (6, [], Value.int .u32 c), (12, [], Value.slice b_.ptr b_.len b_.cap), (13, [], Value.int .i64 ((b_.len : Nat) : Int)), (14, [], Value.int .i64 t14)] (by kernel_rfl) (by kernel_rfl) ?_
      obtain ⟨hp_7, h⟩ := h
      refine reg_conv [(5, [], Value.pointer (some ⟨b_1, 0, none⟩)), (6, [], Value.int .u32 c), (12, [], Value.slice (some ⟨(pblk b_.ptr), (poff b_.ptr), none⟩) b_.len b_.cap), (13, [], Value.int .i64 ((b_.len : Nat) : Int)), (14, [], Value.int .i64 t14)] (congrArg (fun pp => ([(5, [], Value.pointer (some ⟨b_1, 0, none⟩)), (6, [], Value.int .u32 c), (12, [], Value.slice pp b_.len b_.cap), (13, [], Value.int .i64 ((b_.len : Nat) : Int)), (14, [], Value.int .i64 t14)] : GEnv)) hp_7) ?_
      obtain ⟨h0, h1, h⟩ := h
      refine reg_indexS1 (t := 74) (e := 5) (x := (Go.Operand.tmp 12)) (ix := (Go.Operand.tmp 14)) (b := (pblk b_.ptr)) (o := (poff b_.ptr)) (l := b_.len) (c := b_.cap) (k := .i64) (j := t14) (ty := 0) (dst := some 16) (by kernel_rfl) (by kernel_rfl) (by kernel_rfl) (by kernel_rfl) (by kernel_rfl) h0 h1 ?_
      refine reg_run [] 1 [(5, [], Value.pointer (some ⟨b_1, 0, none⟩)), (6, [], Value.int .u32 c), (12, [], Value.slice (some ⟨(pblk b_.ptr), (poff b_.ptr), none⟩) b_.len b_.cap), (13, [], Value.int .i64 ((b_.len : Nat) : Int)), (14, [], Value.int .i64 t14), (16, [], Value.pointer (some ⟨(pblk b_.ptr), (poff b_.ptr) + t14.toNat, none⟩))] (by kernel_rfl) (by kernel_rfl) ?_
      obtain ⟨x, hc, h⟩ := h
      refine reg_load1 (t := 5) (a := (Go.Operand.tmp 16)) (b := (pblk b_.ptr)) (o := ((poff b_.ptr) + t14.toNat)) (ty := 5) (dst := some 17) (by kernel_rfl) (by kernel_rfl) (by kernel_rfl) hc ?_
      refine reg_run [.plain] 3 [(5, [], Value.pointer (some ⟨b_1, 0, none⟩)), (6, [], Value.int .u32 c), (8, [], Value.int .u8 x), (12, [], Value.slice (some ⟨(pblk b_.ptr), (poff b_.ptr), none⟩) b_.len b_.cap), (13, [], Value.int .i64 ((b_.len : Nat) : Int)), (14, [], Value.int .i64 t14)] (by kernel_rfl) (by kernel_rfl) ?_
      refine reg_conv [(5, [], Value.pointer (some ⟨b_1, 0, none⟩)), (6, [], Value.int .u32 c), (8, [], Value.int .u8 x), (12, [], Value.slice b_.ptr b_.len b_.cap), (13, [], Value.int .i64 ((b_.len : Nat) : Int)), (14, [], Value.int .i64 t14)] (congrArg (fun pp => ([(5, [], Value.pointer (some ⟨b_1, 0, none⟩)), (6, [], Value.int .u32 c), (8, [], Value.int .u8 x), (12, [], Value.slice pp b_.len b_.cap), (13, [], Value.int .i64 ((b_.len : Nat) : Int)), (14, [], Value.int .i64 t14)] : GEnv)) hp_7.symm) ?_
      refine reg_end [(5, Value.pointer (some ⟨b_1, 0, none⟩)), (6, Value.int .u32 c), (8, Value.int .u8 x), (12, Value.slice b_.ptr b_.len b_.cap), (13, Value.int .i64 ((b_.len : Nat) : Int)), (14, Value.int .i64 t14)] (by kernel_rfl) (by kernel_rfl) ?_
      change WpE _ _ c_sum_More_27 _ _ _
      refine wpE_region (id := 6) (ops := r_sum_More_27) (by kernel_rfl) ?_
      refine reg_run [.plain, .plain, .plain, .plain] 4 [(5, [], Value.pointer (some ⟨b_1, 0, none⟩)), (6, [], Value.int .u32 c), (12, [], Value.slice b_.ptr b_.len b_.cap), (13, [], Value.int .i64 ((b_.len : Nat) : Int)), (14, [], Value.int .i64 t14), (21, [], Value.int .u8 (bxor .u8 (IntKind.u8.wrap c) x))] (by kernel_rfl) (by kernel_rfl) ?_
      obtain ⟨h0, h1, h⟩ := h
      refine reg_indexA1 (t := 92) (e := 39) (x := (Go.Operand.tmp 5)) (ix := (Go.Operand.tmp 21)) (b := b_1) (o := 0) (len := 256) (k := .u8) (j := (bxor .u8 (IntKind.u8.wrap c) x)) (ty := 0) (dst := some 22) (by kernel_rfl) (by kernel_rfl) (by kernel_rfl) (by kernel_rfl) (by kernel_rfl) h0 h1 ?_
      refine reg_run [] 5 [(5, [], Value.pointer (some ⟨b_1, 0, none⟩)), (6, [], Value.int .u32 c), (12, [], Value.slice b_.ptr b_.len b_.cap), (13, [], Value.int .i64 ((b_.len : Nat) : Int)), (14, [], Value.int .i64 t14), (22, [], Value.pointer (some ⟨b_1, 0 + (bxor .u8 (IntKind.u8.wrap c) x).toNat, none⟩))] (by kernel_rfl) (by kernel_rfl) ?_
      obtain ⟨v23, hc, h⟩ := h
      refine reg_load1 (t := 39) (a := (Go.Operand.tmp 22)) (b := b_1) (o := (0 + (bxor .u8 (IntKind.u8.wrap c) x).toNat)) (ty := 39) (dst := some 23) (by kernel_rfl) (by kernel_rfl) (by kernel_rfl) hc ?_
      refine reg_run [.plain, .plain, .plain, .plain] 10 [(5, [], Value.pointer (some ⟨b_1, 0, none⟩)), (6, [], Value.int .u32 (bxor .u32 v23 (Int.fdiv c (2 ^ 8)))), (12, [], Value.slice b_.ptr b_.len b_.cap), (13, [], Value.int .i64 ((b_.len : Nat) : Int)), (14, [], Value.int .i64 t14)] (by kernel_rfl) (by kernel_rfl) ?_
      refine reg_end [(5, Value.pointer (some ⟨b_1, 0, none⟩)), (6, Value.int .u32 (bxor .u32 v23 (Int.fdiv c (2 ^ 8)))), (12, Value.slice b_.ptr b_.len b_.cap), (13, Value.int .i64 ((b_.len : Nat) : Int)), (14, Value.int .i64 t14)] (by kernel_rfl) (by kernel_rfl) ?_
      change WpE _ _ c_sum_More_29 _ _ _
      refine wpE_region (id := 7) (ops := r_sum_More_29) (by kernel_rfl) ?_
      refine reg_run [.plain, .plain] 2 [(5, [], Value.pointer (some ⟨b_1, 0, none⟩)), (6, [], Value.int .u32 (bxor .u32 v23 (Int.fdiv c (2 ^ 8)))), (12, [], Value.slice b_.ptr b_.len b_.cap), (13, [], Value.int .i64 ((b_.len : Nat) : Int)), (14, [], Value.int .i64 (IntKind.i64.wrap (t14 + 1)))] (by kernel_rfl) (by kernel_rfl) ?_
      refine reg_end [(5, Value.pointer (some ⟨b_1, 0, none⟩)), (6, Value.int .u32 (bxor .u32 v23 (Int.fdiv c (2 ^ 8)))), (12, Value.slice b_.ptr b_.len b_.cap), (13, Value.int .i64 ((b_.len : Nat) : Int)), (14, Value.int .i64 (IntKind.i64.wrap (t14 + 1)))] (by kernel_rfl) (by kernel_rfl) ?_
      have hb_ := again__h _ _ _ h
      exact ⟨_, hb_.2, [(5, Value.pointer (some ⟨b_1, 0, none⟩)), (6, Value.int .u32 (bxor .u32 v23 (Int.fdiv c (2 ^ 8)))), (12, Value.slice b_.ptr b_.len b_.cap), (13, Value.int .i64 ((b_.len : Nat) : Int)), (14, Value.int .i64 (IntKind.i64.wrap (t14 + 1)))], Sub.mk (by kernel_rfl), (bxor .u32 v23 (Int.fdiv c (2 ^ 8))), (IntKind.i64.wrap (t14 + 1)), rfl, hb_.1, rfl⟩
    · replace h := h.2 hb
      refine wpE_exit (id := 0) (by kernel_rfl) ?_
      change WpE _ _ c_sum_More_31 _ _ _
      refine wpE_seq (x := c_sum_More_32) (y := c_sum_More_34) (by kernel_rfl) ?_
      refine wpE_region (id := 8) (ops := r_sum_More_32) (by kernel_rfl) ?_
      refine reg_run [.plain, .plain, .plain] 3 [(4, [], Value.int .u32 (bxor .u32 (IntKind.max .u32) c))] (by kernel_rfl) (by kernel_rfl) ?_
      refine reg_end [(4, Value.int .u32 (bxor .u32 (IntKind.max .u32) c))] (by kernel_rfl) (by kernel_rfl) ?_
      change WpE _ _ c_sum_More_34 _ _ _
      refine wpE_ret (by kernel_rfl) ?_
      repeat (first | refine seqQ_ret ?_ | refine blockQ_ret ?_ | refine loopQ_ret ?_ | refine cutQ_ret ?_)
      exact retS (rs := [(Go.ResultVar.tmp 4)]) (v := Value.int .u32 (bxor .u32 (IntKind.max .u32) c)) (by kernel_rfl) (⟨by kernel_rfl, trivial⟩) ⟨(bxor .u32 (IntKind.max .u32) c), rfl, h⟩
  · rintro e w' ⟨v, rfl, r0, rfl, h⟩; exact ⟨r0, rfl, h⟩

/-! ### towpath/towpathref03.More (function 54) -/
noncomputable def c_towpathref03_More_0 : Code := (Try.f54.body).getD Code.skip
noncomputable def c_towpathref03_More_1 : Code := Code.l c_towpathref03_More_0
noncomputable def r_towpathref03_More_1 : Array Oper := Code.ops c_towpathref03_More_1
noncomputable def c_towpathref03_More_3 : Code := Code.r c_towpathref03_More_0
noncomputable def c_towpathref03_More_4 : Code := Code.l c_towpathref03_More_3
noncomputable def r_towpathref03_More_4 : Array Oper := Code.ops c_towpathref03_More_4
noncomputable def c_towpathref03_More_6 : Code := Code.r c_towpathref03_More_3
noncomputable def c_towpathref03_More_7 : Code := Code.l c_towpathref03_More_6
noncomputable def c_towpathref03_More_8 : Code := Code.l c_towpathref03_More_7
noncomputable def r_towpathref03_More_8 : Array Oper := Code.ops c_towpathref03_More_8
noncomputable def c_towpathref03_More_10 : Code := Code.r c_towpathref03_More_7
noncomputable def c_towpathref03_More_11 : Code := Code.l c_towpathref03_More_10
noncomputable def c_towpathref03_More_12 : Code := Code.l c_towpathref03_More_11
noncomputable def c_towpathref03_More_13 : Code := Code.l c_towpathref03_More_12
noncomputable def c_towpathref03_More_14 : Code := Code.l c_towpathref03_More_13
noncomputable def r_towpathref03_More_14 : Array Oper := Code.ops c_towpathref03_More_14
noncomputable def c_towpathref03_More_16 : Code := Code.r c_towpathref03_More_13
noncomputable def c_towpathref03_More_17 : Code := Code.l c_towpathref03_More_16
noncomputable def c_towpathref03_More_18 : Code := Code.r c_towpathref03_More_16
noncomputable def c_towpathref03_More_19 : Code := Code.r c_towpathref03_More_12
noncomputable def c_towpathref03_More_20 : Code := Code.l c_towpathref03_More_19
noncomputable def c_towpathref03_More_21 : Code := Code.l c_towpathref03_More_20
noncomputable def c_towpathref03_More_22 : Code := Code.l c_towpathref03_More_21
noncomputable def r_towpathref03_More_22 : Array Oper := Code.ops c_towpathref03_More_22
noncomputable def c_towpathref03_More_24 : Code := Code.r c_towpathref03_More_21
noncomputable def c_towpathref03_More_25 : Code := Code.l c_towpathref03_More_24
noncomputable def r_towpathref03_More_25 : Array Oper := Code.ops c_towpathref03_More_25
noncomputable def c_towpathref03_More_27 : Code := Code.r c_towpathref03_More_24
noncomputable def c_towpathref03_More_28 : Code := Code.l c_towpathref03_More_27
noncomputable def c_towpathref03_More_29 : Code := Code.l c_towpathref03_More_28
noncomputable def c_towpathref03_More_30 : Code := Code.l c_towpathref03_More_29
noncomputable def c_towpathref03_More_31 : Code := Code.l c_towpathref03_More_30
noncomputable def r_towpathref03_More_31 : Array Oper := Code.ops c_towpathref03_More_31
noncomputable def c_towpathref03_More_33 : Code := Code.r c_towpathref03_More_30
noncomputable def c_towpathref03_More_34 : Code := Code.l c_towpathref03_More_33
noncomputable def c_towpathref03_More_35 : Code := Code.r c_towpathref03_More_33
noncomputable def c_towpathref03_More_36 : Code := Code.r c_towpathref03_More_29
noncomputable def c_towpathref03_More_37 : Code := Code.l c_towpathref03_More_36
noncomputable def c_towpathref03_More_38 : Code := Code.l c_towpathref03_More_37
noncomputable def c_towpathref03_More_39 : Code := Code.l c_towpathref03_More_38
noncomputable def r_towpathref03_More_39 : Array Oper := Code.ops c_towpathref03_More_39
noncomputable def c_towpathref03_More_41 : Code := Code.r c_towpathref03_More_38
noncomputable def c_towpathref03_More_42 : Code := Code.l c_towpathref03_More_41
noncomputable def r_towpathref03_More_42 : Array Oper := Code.ops c_towpathref03_More_42
noncomputable def c_towpathref03_More_44 : Code := Code.r c_towpathref03_More_41
noncomputable def c_towpathref03_More_45 : Code := Code.l c_towpathref03_More_44
noncomputable def r_towpathref03_More_45 : Array Oper := Code.ops c_towpathref03_More_45
noncomputable def c_towpathref03_More_47 : Code := Code.r c_towpathref03_More_44
noncomputable def c_towpathref03_More_48 : Code := Code.l c_towpathref03_More_47
noncomputable def r_towpathref03_More_48 : Array Oper := Code.ops c_towpathref03_More_48
noncomputable def c_towpathref03_More_50 : Code := Code.r c_towpathref03_More_47
noncomputable def c_towpathref03_More_51 : Code := Code.r c_towpathref03_More_36
noncomputable def r_towpathref03_More_51 : Array Oper := Code.ops c_towpathref03_More_51
noncomputable def c_towpathref03_More_53 : Code := Code.r c_towpathref03_More_19
noncomputable def r_towpathref03_More_53 : Array Oper := Code.ops c_towpathref03_More_53
noncomputable def c_towpathref03_More_55 : Code := Code.r c_towpathref03_More_6
noncomputable def c_towpathref03_More_56 : Code := Code.l c_towpathref03_More_55
noncomputable def r_towpathref03_More_56 : Array Oper := Code.ops c_towpathref03_More_56
noncomputable def c_towpathref03_More_58 : Code := Code.r c_towpathref03_More_55

set_option maxRecDepth 100000 in
theorem S_towpathref03_More {sum : Int} {b_ : Slc} {w : World} {R : Int → World → Prop} (h : F_towpathref03_More sum b_ R w) : C_towpathref03_More sum b_ w R := by
  unfold F_towpathref03_More at h
  unfold C_towpathref03_More
  refine Calls.mono (calls_of_wpE (args := [Value.int .u32 sum, Value.slice b_.ptr b_.len b_.cap]) (R := fun v w' => ∃ (r0 : Int), v = Value.int .u32 r0 ∧ R r0 w') Try.func54 (c := c_towpathref03_More_0) (by kernel_rfl) 38 (by kernel_rfl) (by kernel_rfl) [(0, Value.int .u32 sum), (1, Value.slice b_.ptr b_.len b_.cap)] (by kernel_rfl) ?_) ?_
  · refine wpE_seq (x := c_towpathref03_More_1) (y := c_towpathref03_More_3) (by kernel_rfl) ?_
    refine wpE_region (id := 0) (ops := r_towpathref03_More_1) (by kernel_rfl) ?_
    refine reg_run [.plain] 1 [(0, [], Value.int .u32 sum), (1, [], Value.slice b_.ptr b_.len b_.cap)] (by kernel_rfl) (by kernel_rfl) ?_
    refine reg_end [(0, Value.int .u32 sum), (1, Value.slice b_.ptr b_.len b_.cap)] (by kernel_rfl) (by kernel_rfl) ?_
    change WpE _ _ c_towpathref03_More_3 _ _ _
    refine wpE_seq (x := c_towpathref03_More_4) (y := c_towpathref03_More_6) (by kernel_rfl) ?_
    refine wpE_region (id := 1) (ops := r_towpathref03_More_4) (by kernel_rfl) ?_
    refine reg_run [.plain, .plain, .plain] 3 [(1, [], Value.slice b_.ptr b_.len b_.cap), (5, [], Value.int .u32 (IntKind.u32.wrap (4294967295 - sum)))] (by kernel_rfl) (by kernel_rfl) ?_
    refine reg_end [(1, Value.slice b_.ptr b_.len b_.cap), (5, Value.int .u32 (IntKind.u32.wrap (4294967295 - sum)))] (by kernel_rfl) (by kernel_rfl) ?_
    change WpE _ _ c_towpathref03_More_6 _ _ _
    refine wpE_seq (x := c_towpathref03_More_7) (y := c_towpathref03_More_55) (by kernel_rfl) ?_
    refine wpE_seq (x := c_towpathref03_More_8) (y := c_towpathref03_More_10) (by kernel_rfl) ?_
    refine wpE_region (id := 2) (ops := r_towpathref03_More_8) (by kernel_rfl) ?_
    refine reg_run [.plain] 1 [(1, [], Value.slice b_.ptr b_.len b_.cap), (5, [], Value.int .u32 (IntKind.u32.wrap (4294967295 - sum))), (6, [], Value.int .i64 0)] (by kernel_rfl) (by kernel_rfl) ?_
    refine reg_end [(1, Value.slice b_.ptr b_.len b_.cap), (5, Value.int .u32 (IntKind.u32.wrap (4294967295 - sum))), (6, Value.int .i64 0)] (by kernel_rfl) (by kernel_rfl) ?_
    change WpE _ _ c_towpathref03_More_10 _ _ _
    refine wpE_block (id := 0) (x := c_towpathref03_More_11) (by kernel_rfl) ?_
    obtain ⟨I, μ, h0, hr⟩ := h
    refine wpE_loop (x := c_towpathref03_More_12) (by kernel_rfl) (fun m l w => ∃ (c : Int) (i : Int), l = [(1, Value.slice b_.ptr b_.len b_.cap), (5, Value.int .u32 c), (6, Value.int .i64 i)] ∧ I c i w ∧ μ c i w = m) (l' := [(1, Value.slice b_.ptr b_.len b_.cap), (5, Value.int .u32 (IntKind.u32.wrap (4294967295 - sum))), (6, Value.int .i64 0)]) (Sub.mk (by kernel_rfl)) ⟨(IntKind.u32.wrap (4294967295 - sum)), 0, rfl, h0, rfl⟩ ?_
    rintro _ _ w1 ⟨c, i, rfl, hI, rfl⟩
    obtain ⟨again_, again__h, h⟩ : ∃ again_ : Int → Int → World → Prop, (∀ c' i' w', again_ c' i' w' → I c' i' w' ∧ μ c' i' w' < μ c i w1) ∧ F_towpathref03_More_L0 b_ R again_ c i w1 := ⟨_, fun _ _ _ h => h, hr c i w1 hI⟩
    clear h0 hI
    unfold F_towpathref03_More_L0 at h
    refine wpE_seq (x := c_towpathref03_More_13) (y := c_towpathref03_More_19) (by kernel_rfl) ?_
    refine wpE_seq (x := c_towpathref03_More_14) (y := c_towpathref03_More_16) (by kernel_rfl) ?_
    refine wpE_region (id := 3) (ops := r_towpathref03_More_14) (by kernel_rfl) ?_
    refine reg_run [.plain, .plain, .plain, .plain] 4 [(1, [], Value.slice b_.ptr b_.len b_.cap), (5, [], Value.int .u32 c), (6, [], Value.int .i64 i), (14, [], Value.bool (decide (i < ((b_.len : Nat) : Int))))] (by kernel_rfl) (by kernel_rfl) ?_
    refine reg_end [(1, Value.slice b_.ptr b_.len b_.cap), (5, Value.int .u32 c), (6, Value.int .i64 i), (14, Value.bool (decide (i < ((b_.len : Nat) : Int))))] (by kernel_rfl) (by kernel_rfl) ?_
    change WpE _ _ c_towpathref03_More_16 _ _ _
    refine wpE_cond (o := (Operand.tmp 14)) (b := (decide (i < ((b_.len : Nat) : Int)))) (x := c_towpathref03_More_17) (y := c_towpathref03_More_18) (by kernel_rfl) (by kernel_rfl) (fun hb => ?_) (fun hb => ?_)
    · replace h := h.1 hb
      refine wpE_skip (by kernel_rfl) ?_
      change WpE _ _ c_towpathref03_More_19 _ _ _
      refine wpE_seq (x := c_towpathref03_More_20) (y := c_towpathref03_More_53) (by kernel_rfl) ?_
      refine wpE_block (id := 1) (x := c_towpathref03_More_21) (by kernel_rfl) ?_
      refine wpE_seq (x := c_towpathref03_More_22) (y := c_towpathref03_More_24) (by kernel_rfl) ?_
      refine wpE_region (id := 5) (ops := r_towpathref03_More_22) (by kernel_rfl) ?_
      refine reg_run [.plain, .plain, .plain] 3 [(1, [], Value.slice b_.ptr b_.len b_.cap), (5, [], Value.int .u32 c), (6, [], Value.int .i64 i), (17, [], Value.int .u32 c), (18, [], Value.slice b_.ptr b_.len b_.cap), (19, [], Value.int .i64 i)] (by kernel_rfl) (by kernel_rfl) ?_
      obtain ⟨hp_7, h⟩ := h
      refine reg_conv [(1, [], Value.slice b_.ptr b_.len b_.cap), (5, [], Value.int .u32 c), (6, [], Value.int .i64 i), (17, [], Value.int .u32 c), (18, [], Value.slice (some ⟨(pblk b_.ptr), (poff b_.ptr), none⟩) b_.len b_.cap), (19, [], Value.int .i64 i)] (congrArg (fun pp => ([(1, [], Value.slice b_.ptr b_.len b_.cap), (5, [], Value.int .u32 c), (6, [], Value.int .i64 i), (17, [], Value.int .u32 c), (18, [], Value.slice pp b_.len b_.cap), (19, [], Value.int .i64 i)] : GEnv)) hp_7) ?_
      obtain ⟨h0, h1, h⟩ := h
      refine reg_indexS1 (t := 74) (e := 5) (x := (Go.Operand.tmp 18)) (ix := (Go.Operand.tmp 19)) (b := (pblk b_.ptr)) (o := (poff b_.ptr)) (l := b_.len) (c := b_.cap) (k := .i64) (j := i) (ty := 0) (dst := some 20) (by kernel_rfl) (by kernel_rfl) (by kernel_rfl) (by kernel_rfl) (by kernel_rfl) h0 h1 ?_
      refine reg_run [] 4 [(1, [], Value.slice b_.ptr b_.len b_.cap), (5, [], Value.int .u32 c), (6, [], Value.int .i64 i), (17, [], Value.int .u32 c), (20, [], Value.pointer (some ⟨(pblk b_.ptr), (poff b_.ptr) + i.toNat, none⟩))] (by kernel_rfl) (by kernel_rfl) ?_
      obtain ⟨v21, hc, h⟩ := h
      refine reg_load1 (t := 5) (a := (Go.Operand.tmp 20)) (b := (pblk b_.ptr)) (o := ((poff b_.ptr) + i.toNat)) (ty := 5) (dst := some 21) (by kernel_rfl) (by kernel_rfl) (by kernel_rfl) hc ?_
      refine reg_run [.plain, .plain, .plain] 8 [(1, [], Value.slice b_.ptr b_.len b_.cap), (5, [], Value.int .u32 (bxor .u32 c (IntKind.u32.wrap v21))), (6, [], Value.int .i64 i)] (by kernel_rfl) (by kernel_rfl) ?_
      refine reg_end [(1, Value.slice b_.ptr b_.len b_.cap), (5, Value.int .u32 (bxor .u32 c (IntKind.u32.wrap v21))), (6, Value.int .i64 i)] (by kernel_rfl) (by kernel_rfl) ?_
      change WpE _ _ c_towpathref03_More_24 _ _ _
      refine wpE_seq (x := c_towpathref03_More_25) (y := c_towpathref03_More_27) (by kernel_rfl) ?_
      refine wpE_region (id := 6) (ops := r_towpathref03_More_25) (by kernel_rfl) ?_
      refine reg_run [.plain] 1 [(1, [], Value.slice b_.ptr b_.len b_.cap), (5, [], Value.int .u32 (bxor .u32 c (IntKind.u32.wrap v21))), (6, [], Value.int .i64 i), (7, [], Value.int .i64 0)] (by kernel_rfl) (by kernel_rfl) ?_
      refine reg_end [(1, Value.slice b_.ptr b_.len b_.cap), (5, Value.int .u32 (bxor .u32 c (IntKind.u32.wrap v21))), (6, Value.int .i64 i), (7, Value.int .i64 0)] (by kernel_rfl) (by kernel_rfl) ?_
      change WpE _ _ c_towpathref03_More_27 _ _ _
      refine wpE_block (id := 2) (x := c_towpathref03_More_28) (by kernel_rfl) ?_
      obtain ⟨I, μ, h0, hr⟩ := h
      refine wpE_loop (x := c_towpathref03_More_29) (by kernel_rfl) (fun m l w => ∃ (c1 : Int) (k : Int), l = [(1, Value.slice b_.ptr b_.len b_.cap), (5, Value.int .u32 c1), (6, Value.int .i64 i), (7, Value.int .i64 k)] ∧ I c1 k w ∧ μ c1 k w = m) (l' := [(1, Value.slice b_.ptr b_.len b_.cap), (5, Value.int .u32 (bxor .u32 c (IntKind.u32.wrap v21))), (6, Value.int .i64 i), (7, Value.int .i64 0)]) (Sub.mk (by kernel_rfl)) ⟨(bxor .u32 c (IntKind.u32.wrap v21)), 0, rfl, h0, rfl⟩ ?_
      rintro _ _ w2 ⟨c1, k, rfl, hI, rfl⟩
      obtain ⟨again_1, again_1_h, h⟩ : ∃ again_1 : Int → Int → World → Prop, (∀ c1' k' w', again_1 c1' k' w' → I c1' k' w' ∧ μ c1' k' w' < μ c1 k w2) ∧ F_towpathref03_More_L1 i again_ again_1 c1 k w2 := ⟨_, fun _ _ _ h => h, hr c1 k w2 hI⟩
      clear h0 hI
      unfold F_towpathref03_More_L1 at h
      refine wpE_seq (x := c_towpathref03_More_30) (y := c_towpathref03_More_36) (by kernel_rfl) ?_
      refine wpE_seq (x := c_towpathref03_More_31) (y := c_towpathref03_More_33) (by kernel_rfl) ?_
      refine wpE_region (id := 7) (ops := r_towpathref03_More_31) (by kernel_rfl) ?_
      refine reg_run [.plain, .plain] 2 [(1, [], Value.slice b_.ptr b_.len b_.cap), (5, [], Value.int .u32 c1), (6, [], Value.int .i64 i), (7, [], Value.int .i64 k), (25, [], Value.bool (decide (k < 8)))] (by kernel_rfl) (by kernel_rfl) ?_
      refine reg_end [(1, Value.slice b_.ptr b_.len b_.cap), (5, Value.int .u32 c1), (6, Value.int .i64 i), (7, Value.int .i64 k), (25, Value.bool (decide (k < 8)))] (by kernel_rfl) (by kernel_rfl) ?_
      change WpE _ _ c_towpathref03_More_33 _ _ _
      refine wpE_cond (o := (Operand.tmp 25)) (b := (decide (k < 8))) (x := c_towpathref03_More_34) (y := c_towpathref03_More_35) (by kernel_rfl) (by kernel_rfl) (fun hb => ?_) (fun hb => ?_)
      · replace h := h.1 hb
        refine wpE_skip (by kernel_rfl) ?_
        change WpE _ _ c_towpathref03_More_36 _ _ _
        refine wpE_seq_cut (x := c_towpathref03_More_37) (y := c_towpathref03_More_51) (by kernel_rfl) (fun l w => ∃ (c2 : Int), l = [(1, Value.slice b_.ptr b_.len b_.cap), (5, Value.int .u32 c2), (6, Value.int .i64 i), (7, Value.int .i64 k)] ∧ F_towpathref03_More_k2 k again_1 c2 w) ?_ ?_
        · refine wpE_block (id := 3) (x := c_towpathref03_More_38) (by kernel_rfl) ?_
          refine wpE_seq (x := c_towpathref03_More_39) (y := c_towpathref03_More_41) (by kernel_rfl) ?_
          refine wpE_region (id := 9) (ops := r_towpathref03_More_39) (by kernel_rfl) ?_
          refine reg_run [.plain, .plain, .plain, .plain] 4 [(1, [], Value.slice b_.ptr b_.len b_.cap), (5, [], Value.int .u32 c1), (6, [], Value.int .i64 i), (7, [], Value.int .i64 k), (8, [], Value.bool ((Int.tmod c1 2) == 1))] (by kernel_rfl) (by kernel_rfl) ?_
          refine reg_end [(1, Value.slice b_.ptr b_.len b_.cap), (5, Value.int .u32 c1), (6, Value.int .i64 i), (7, Value.int .i64 k), (8, Value.bool ((Int.tmod c1 2) == 1))] (by kernel_rfl) (by kernel_rfl) ?_
          change WpE _ _ c_towpathref03_More_41 _ _ _
          refine wpE_seq (x := c_towpathref03_More_42) (y := c_towpathref03_More_44) (by kernel_rfl) ?_
          refine wpE_region (id := 10) (ops := r_towpathref03_More_42) (by kernel_rfl) ?_
          refine reg_run [.plain, .plain, .plain] 3 [(1, [], Value.slice b_.ptr b_.len b_.cap), (5, [], Value.int .u32 (IntKind.u32.wrap (Int.tdiv c1 2))), (6, [], Value.int .i64 i), (7, [], Value.int .i64 k), (8, [], Value.bool ((Int.tmod c1 2) == 1))] (by kernel_rfl) (by kernel_rfl) ?_
          refine reg_end [(1, Value.slice b_.ptr b_.len b_.cap), (5, Value.int .u32 (IntKind.u32.wrap (Int.tdiv c1 2))), (6, Value.int .i64 i), (7, Value.int .i64 k), (8, Value.bool ((Int.tmod c1 2) == 1))] (by kernel_rfl) (by kernel_rfl) ?_
          change WpE _ _ c_towpathref03_More_44 _ _ _
          refine wpE_seq (x := c_towpathref03_More_45) (y := c_towpathref03_More_47) (by kernel_rfl) ?_
          refine wpE_region (id := 11) (ops := r_towpathref03_More_45) (by kernel_rfl) ?_
          refine reg_run [.plain] 1 [(1, [], Value.slice b_.ptr b_.len b_.cap), (5, [], Value.int .u32 (IntKind.u32.wrap (Int.tdiv c1 2))), (6, [], Value.int .i64 i), (7, [], Value.int .i64 k), (33, [], Value.bool ((Int.tmod c1 2) == 1))] (by kernel_rfl) (by kernel_rfl) ?_
          refine reg_end [(1, Value.slice b_.ptr b_.len b_.cap), (5, Value.int .u32 (IntKind.u32.wrap (Int.tdiv c1 2))), (6, Value.int .i64 i), (7, Value.int .i64 k), (33, Value.bool ((Int.tmod c1 2) == 1))] (by kernel_rfl) (by kernel_rfl) ?_
          change WpE _ _ c_towpathref03_More_47 _ _ _
          refine wpE_cond (o := (Operand.tmp 33)) (b := ((Int.tmod c1 2) == 1)) (x := c_towpathref03_More_48) (y := c_towpathref03_More_50) (by kernel_rfl) (by kernel_rfl) (fun hb => ?_) (fun hb => ?_)
          · replace h := h.1 hb
            refine wpE_region (id := 12) (ops := r_towpathref03_More_48) (by kernel_rfl) ?_
            refine reg_run [.plain, .plain, .plain] 3 [(1, [], Value.slice b_.ptr b_.len b_.cap), (5, [], Value.int .u32 (bxor .u32 (IntKind.u32.wrap (Int.tdiv c1 2)) 2197175160)), (6, [], Value.int .i64 i), (7, [], Value.int .i64 k)] (by kernel_rfl) (by kernel_rfl) ?_
            refine reg_end [(1, Value.slice b_.ptr b_.len b_.cap), (5, Value.int .u32 (bxor .u32 (IntKind.u32.wrap (Int.tdiv c1 2)) 2197175160)), (6, Value.int .i64 i), (7, Value.int .i64 k)] (by kernel_rfl) (by kernel_rfl) ?_
            exact ⟨[(1, Value.slice b_.ptr b_.len b_.cap), (5, Value.int .u32 (bxor .u32 (IntKind.u32.wrap (Int.tdiv c1 2)) 2197175160)), (6, Value.int .i64 i), (7, Value.int .i64 k)], Sub.mk (by kernel_rfl), (bxor .u32 (IntKind.u32.wrap (Int.tdiv c1 2)) 2197175160), rfl, h⟩
          · replace h := h.2 hb
            refine wpE_skip (by kernel_rfl) ?_
            exact ⟨[(1, Value.slice b_.ptr b_.len b_.cap), (5, Value.int .u32 (IntKind.u32.wrap (Int.tdiv c1 2))), (6, Value.int .i64 i), (7, Value.int .i64 k)], Sub.mk (by kernel_rfl), (IntKind.u32.wrap (Int.tdiv c1 2)), rfl, h⟩
        · rintro _ w3 ⟨c2, rfl, h⟩
          unfold F_towpathref03_More_k2 at h
          refine wpE_region (id := 8) (ops := r_towpathref03_More_51) (by kernel_rfl) ?_
          refine reg_run [.plain, .plain, .plain] 3 [(1, [], Value.slice b_.ptr b_.len b_.cap), (5, [], Value.int .u32 c2), (6, [], Value.int .i64 i), (7, [], Value.int .i64 (IntKind.i64.wrap (k + 1)))] (by kernel_rfl) (by kernel_rfl) ?_
          refine reg_end [(1, Value.slice b_.ptr b_.len b_.cap), (5, Value.int .u32 c2), (6, Value.int .i64 i), (7, Value.int .i64 (IntKind.i64.wrap (k + 1)))] (by kernel_rfl) (by kernel_rfl) ?_
          have hb_ := again_1_h _ _ _ h
          exact ⟨_, hb_.2, [(1, Value.slice b_.ptr b_.len b_.cap), (5, Value.int .u32 c2), (6, Value.int .i64 i), (7, Value.int .i64 (IntKind.i64.wrap (k + 1)))], Sub.mk (by kernel_rfl), c2, (IntKind.i64.wrap (k + 1)), rfl, hb_.1, rfl⟩
      · replace h := h.2 hb
        refine wpE_exit (id := 2) (by kernel_rfl) ?_
        change WpE _ _ c_towpathref03_More_53 _ _ _
        refine wpE_region (id := 4) (ops := r_towpathref03_More_53) (by kernel_rfl) ?_
        refine reg_run [.plain, .plain, .plain] 3 [(1, [], Value.slice b_.ptr b_.len b_.cap), (5, [], Value.int .u32 c1), (6, [], Value.int .i64 (IntKind.i64.wrap (i + 1)))] (by kernel_rfl) (by kernel_rfl) ?_
        refine reg_end [(1, Value.slice b_.ptr b_.len b_.cap), (5, Value.int .u32 c1), (6, Value.int .i64 (IntKind.i64.wrap (i + 1)))] (by kernel_rfl) (by kernel_rfl) ?_
        have hb_ := again__h _ _ _ h
        exact ⟨_, hb_.2, [(1, Value.slice b_.ptr b_.len b_.cap), (5, Value.int .u32 c1), (6, Value.int .i64 (IntKind.i64.wrap (i + 1)))], Sub.mk (by kernel_rfl), c1, (IntKind.i64.wrap (i + 1)), rfl, hb_.1, rfl⟩
    · replace h := h.2 hb
      refine wpE_exit (id := 0) (by kernel_rfl) ?_
      change WpE _ _ c_towpathref03_More_55 _ _ _
      refine wpE_seq (x := c_towpathref03_More_56) (y := c_towpathref03_More_58) (by kernel_rfl) ?_
      refine wpE_region (id := 13) (ops := r_towpathref03_More_56) (by kernel_rfl) ?_
      refine reg_run [.plain, .plain, .plain] 3 [(4, [], Value.int .u32 (IntKind.u32.wrap (4294967295 - c)))] (by kernel_rfl) (by kernel_rfl) ?_
      refine reg_end [(4, Value.int .u32 (IntKind.u32.wrap (4294967295 - c)))] (by kernel_rfl) (by kernel_rfl) ?_
      change WpE _ _ c_towpathref03_More_58 _ _ _
      refine wpE_ret (by kernel_rfl) ?_
      repeat (first | refine seqQ_ret ?_ | refine blockQ_ret ?_ | refine loopQ_ret ?_ | refine cutQ_ret ?_)
      exact retS (rs := [(Go.ResultVar.tmp 4)]) (v := Value.int .u32 (IntKind.u32.wrap (4294967295 - c))) (by kernel_rfl) (⟨by kernel_rfl, trivial⟩) ⟨(IntKind.u32.wrap (4294967295 - c)), rfl, h⟩
  · rintro e w' ⟨v, rfl, r0, rfl, h⟩; exact ⟨r0, rfl, h⟩

/-! ### towpath/towpathlaw01.LeftBytes (function 55) -/
noncomputable def c_towpathlaw01_LeftBytes_0 : Code := (Try.f55.body).getD Code.skip
noncomputable def c_towpathlaw01_LeftBytes_1 : Code := Code.l c_towpathlaw01_LeftBytes_0
noncomputable def r_towpathlaw01_LeftBytes_1 : Array Oper := Code.ops c_towpathlaw01_LeftBytes_1
noncomputable def c_towpathlaw01_LeftBytes_3 : Code := Code.r c_towpathlaw01_LeftBytes_0
noncomputable def c_towpathlaw01_LeftBytes_4 : Code := Code.l c_towpathlaw01_LeftBytes_3
noncomputable def c_towpathlaw01_LeftBytes_5 : Code := Code.l c_towpathlaw01_LeftBytes_4
noncomputable def r_towpathlaw01_LeftBytes_5 : Array Oper := Code.ops c_towpathlaw01_LeftBytes_5
noncomputable def c_towpathlaw01_LeftBytes_7 : Code := Code.r c_towpathlaw01_LeftBytes_4
noncomputable def c_towpathlaw01_LeftBytes_8 : Code := Code.l c_towpathlaw01_LeftBytes_7
noncomputable def c_towpathlaw01_LeftBytes_9 : Code := Code.l c_towpathlaw01_LeftBytes_8
noncomputable def r_towpathlaw01_LeftBytes_9 : Array Oper := Code.ops c_towpathlaw01_LeftBytes_9
noncomputable def c_towpathlaw01_LeftBytes_11 : Code := Code.r c_towpathlaw01_LeftBytes_8
noncomputable def c_towpathlaw01_LeftBytes_12 : Code := Code.r c_towpathlaw01_LeftBytes_7
noncomputable def c_towpathlaw01_LeftBytes_13 : Code := Code.r c_towpathlaw01_LeftBytes_3
noncomputable def c_towpathlaw01_LeftBytes_14 : Code := Code.l c_towpathlaw01_LeftBytes_13
noncomputable def c_towpathlaw01_LeftBytes_15 : Code := Code.l c_towpathlaw01_LeftBytes_14
noncomputable def r_towpathlaw01_LeftBytes_15 : Array Oper := Code.ops c_towpathlaw01_LeftBytes_15
noncomputable def c_towpathlaw01_LeftBytes_17 : Code := Code.r c_towpathlaw01_LeftBytes_14
noncomputable def c_towpathlaw01_LeftBytes_18 : Code := Code.l c_towpathlaw01_LeftBytes_17
noncomputable def c_towpathlaw01_LeftBytes_19 : Code := Code.l c_towpathlaw01_LeftBytes_18
noncomputable def c_towpathlaw01_LeftBytes_20 : Code := Code.l c_towpathlaw01_LeftBytes_19
noncomputable def c_towpathlaw01_LeftBytes_21 : Code := Code.l c_towpathlaw01_LeftBytes_20
noncomputable def r_towpathlaw01_LeftBytes_21 : Array Oper := Code.ops c_towpathlaw01_LeftBytes_21
noncomputable def c_towpathlaw01_LeftBytes_23 : Code := Code.r c_towpathlaw01_LeftBytes_20
noncomputable def c_towpathlaw01_LeftBytes_24 : Code := Code.l c_towpathlaw01_LeftBytes_23
noncomputable def c_towpathlaw01_LeftBytes_25 : Code := Code.r c_towpathlaw01_LeftBytes_23
noncomputable def c_towpathlaw01_LeftBytes_26 : Code := Code.r c_towpathlaw01_LeftBytes_19
noncomputable def c_towpathlaw01_LeftBytes_27 : Code := Code.l c_towpathlaw01_LeftBytes_26
noncomputable def c_towpathlaw01_LeftBytes_28 : Code := Code.l c_towpathlaw01_LeftBytes_27
noncomputable def c_towpathlaw01_LeftBytes_29 : Code := Code.l c_towpathlaw01_LeftBytes_28
noncomputable def r_towpathlaw01_LeftBytes_29 : Array Oper := Code.ops c_towpathlaw01_LeftBytes_29
noncomputable def c_towpathlaw01_LeftBytes_31 : Code := Code.r c_towpathlaw01_LeftBytes_28
noncomputable def c_towpathlaw01_LeftBytes_32 : Code := Code.l c_towpathlaw01_LeftBytes_31
noncomputable def c_towpathlaw01_LeftBytes_33 : Code := Code.l c_towpathlaw01_LeftBytes_32
noncomputable def r_towpathlaw01_LeftBytes_33 : Array Oper := Code.ops c_towpathlaw01_LeftBytes_33
noncomputable def c_towpathlaw01_LeftBytes_35 : Code := Code.r c_towpathlaw01_LeftBytes_32
noncomputable def c_towpathlaw01_LeftBytes_36 : Code := Code.r c_towpathlaw01_LeftBytes_31
noncomputable def c_towpathlaw01_LeftBytes_37 : Code := Code.r c_towpathlaw01_LeftBytes_26
noncomputable def r_towpathlaw01_LeftBytes_37 : Array Oper := Code.ops c_towpathlaw01_LeftBytes_37
noncomputable def c_towpathlaw01_LeftBytes_39 : Code := Code.r c_towpathlaw01_LeftBytes_13
noncomputable def c_towpathlaw01_LeftBytes_40 : Code := Code.l c_towpathlaw01_LeftBytes_39
noncomputable def r_towpathlaw01_LeftBytes_40 : Array Oper := Code.ops c_towpathlaw01_LeftBytes_40
noncomputable def c_towpathlaw01_LeftBytes_42 : Code := Code.r c_towpathlaw01_LeftBytes_39
noncomputable def c_towpathlaw01_LeftBytes_43 : Code := Code.l c_towpathlaw01_LeftBytes_42
noncomputable def r_towpathlaw01_LeftBytes_43 : Array Oper := Code.ops c_towpathlaw01_LeftBytes_43
noncomputable def c_towpathlaw01_LeftBytes_45 : Code := Code.r c_towpathlaw01_LeftBytes_42

set_option maxRecDepth 100000 in
theorem S_towpathlaw01_LeftBytes {t_ : Slc} {l_ : Slc} {w : World} {R : Bool → World → Prop} (h : F_towpathlaw01_LeftBytes t_ l_ R w) : C_towpathlaw01_LeftBytes t_ l_ w R := by
  unfold F_towpathlaw01_LeftBytes at h
  unfold C_towpathlaw01_LeftBytes
  refine Calls.mono (calls_of_wpE (args := [Value.slice t_.ptr t_.len t_.cap, Value.slice l_.ptr l_.len l_.cap]) (R := fun v w' => ∃ (r0 : Bool), v = Value.bool r0 ∧ R r0 w') Try.func55 (c := c_towpathlaw01_LeftBytes_0) (by kernel_rfl) 45 (by kernel_rfl) (by kernel_rfl) [(0, Value.slice t_.ptr t_.len t_.cap), (1, Value.slice l_.ptr l_.len l_.cap)] (by kernel_rfl) ?_) ?_
  · refine wpE_seq (x := c_towpathlaw01_LeftBytes_1) (y := c_towpathlaw01_LeftBytes_3) (by kernel_rfl) ?_
    refine wpE_region (id := 0) (ops := r_towpathlaw01_LeftBytes_1) (by kernel_rfl) ?_
    refine reg_run [.plain] 1 [(0, [], Value.slice t_.ptr t_.len t_.cap), (1, [], Value.slice l_.ptr l_.len l_.cap)] (by kernel_rfl) (by kernel_rfl) ?_
    refine reg_end [(0, Value.slice t_.ptr t_.len t_.cap), (1, Value.slice l_.ptr l_.len l_.cap)] (by kernel_rfl) (by kernel_rfl) ?_
    change WpE _ _ c_towpathlaw01_LeftBytes_3 _ _ _
    refine wpE_seq (x := c_towpathlaw01_LeftBytes_4) (y := c_towpathlaw01_LeftBytes_13) (by kernel_rfl) ?_
    refine wpE_seq (x := c_towpathlaw01_LeftBytes_5) (y := c_towpathlaw01_LeftBytes_7) (by kernel_rfl) ?_
    refine wpE_region (id := 1) (ops := r_towpathlaw01_LeftBytes_5) (by kernel_rfl) ?_
    refine reg_run [.plain, .plain, .plain, .plain, .plain, .plain, .plain, .plain, .plain, .plain, .plain, .pick] 12 [(0, [], Value.slice t_.ptr t_.len t_.cap), (1, [], Value.slice l_.ptr l_.len l_.cap), (18, [], Value.bool ((((t_.len : Nat) : Int) != ((l_.len : Nat) : Int)) || (decide (((t_.cap : Nat) : Int) ≤ ((l_.len : Nat) : Int)))))] (by kernel_rfl) (by kernel_rfl) ?_
    refine reg_end [(0, Value.slice t_.ptr t_.len t_.cap), (1, Value.slice l_.ptr l_.len l_.cap), (18, Value.bool ((((t_.len : Nat) : Int) != ((l_.len : Nat) : Int)) || (decide (((t_.cap : Nat) : Int) ≤ ((l_.len : Nat) : Int)))))] (by kernel_rfl) (by kernel_rfl) ?_
    change WpE _ _ c_towpathlaw01_LeftBytes_7 _ _ _
    refine wpE_cond (o := (Operand.tmp 18)) (b := ((((t_.len : Nat) : Int) != ((l_.len : Nat) : Int)) || (decide (((t_.cap : Nat) : Int) ≤ ((l_.len : Nat) : Int))))) (x := c_towpathlaw01_LeftBytes_8) (y := c_towpathlaw01_LeftBytes_12) (by kernel_rfl) (by kernel_rfl) (fun hb => ?_) (fun hb => ?_)
    · replace h := h.1 hb
      refine wpE_seq (x := c_towpathlaw01_LeftBytes_9) (y := c_towpathlaw01_LeftBytes_11) (by kernel_rfl) ?_
      refine wpE_region (id := 2) (ops := r_towpathlaw01_LeftBytes_9) (by kernel_rfl) ?_
      refine reg_run [.plain] 1 [(4, [], Value.bool false)] (by kernel_rfl) (by kernel_rfl) ?_
      refine reg_end [(4, Value.bool false)] (by kernel_rfl) (by kernel_rfl) ?_
      change WpE _ _ c_towpathlaw01_LeftBytes_11 _ _ _
      refine wpE_ret (by kernel_rfl) ?_
      repeat (first | refine seqQ_ret ?_ | refine blockQ_ret ?_ | refine loopQ_ret ?_ | refine cutQ_ret ?_)
      exact retS (rs := [(Go.ResultVar.tmp 4)]) (v := Value.bool false) (by kernel_rfl) (⟨by kernel_rfl, trivial⟩) ⟨false, rfl, h⟩
    · replace h := h.2 hb
      refine wpE_skip (by kernel_rfl) ?_
      change WpE _ _ c_towpathlaw01_LeftBytes_13 _ _ _
      refine wpE_seq (x := c_towpathlaw01_LeftBytes_14) (y := c_towpathlaw01_LeftBytes_39) (by kernel_rfl) ?_
      refine wpE_seq (x := c_towpathlaw01_LeftBytes_15) (y := c_towpathlaw01_LeftBytes_17) (by kernel_rfl) ?_
      refine wpE_region (id := 3) (ops := r_towpathlaw01_LeftBytes_15) (by kernel_rfl) ?_
      refine reg_run [.plain] 1 [(0, [], Value.slice t_.ptr t_.len t_.cap), (1, [], Value.slice l_.ptr l_.len l_.cap), (5, [], Value.int .i64 0)] (by kernel_rfl) (by kernel_rfl) ?_
      refine reg_end [(0, Value.slice t_.ptr t_.len t_.cap), (1, Value.slice l_.ptr l_.len l_.cap), (5, Value.int .i64 0)] (by kernel_rfl) (by kernel_rfl) ?_
      change WpE _ _ c_towpathlaw01_LeftBytes_17 _ _ _
      refine wpE_block (id := 0) (x := c_towpathlaw01_LeftBytes_18) (by kernel_rfl) ?_
      obtain ⟨I, μ, h0, hr⟩ := h
      refine wpE_loop (x := c_towpathlaw01_LeftBytes_19) (by kernel_rfl) (fun m l w => ∃ (i : Int), l = [(0, Value.slice t_.ptr t_.len t_.cap), (1, Value.slice l_.ptr l_.len l_.cap), (5, Value.int .i64 i)] ∧ I i w ∧ μ i w = m) (l' := [(0, Value.slice t_.ptr t_.len t_.cap), (1, Value.slice l_.ptr l_.len l_.cap), (5, Value.int .i64 0)]) (Sub.mk (by kernel_rfl)) ⟨0, rfl, h0, rfl⟩ ?_
      rintro _ _ w1 ⟨i, rfl, hI, rfl⟩
      obtain ⟨again_, again__h, h⟩ : ∃ again_ : Int → World → Prop, (∀ i' w', again_ i' w' → I i' w' ∧ μ i' w' < μ i w1) ∧ F_towpathlaw01_LeftBytes_L0 t_ l_ R again_ i w1 := ⟨_, fun _ _ h => h, hr i w1 hI⟩
      clear h0 hI
      unfold F_towpathlaw01_LeftBytes_L0 at h
      refine wpE_seq (x := c_towpathlaw01_LeftBytes_20) (y := c_towpathlaw01_LeftBytes_26) (by kernel_rfl) ?_
      refine wpE_seq (x := c_towpathlaw01_LeftBytes_21) (y := c_towpathlaw01_LeftBytes_23) (by kernel_rfl) ?_
      refine wpE_region (id := 4) (ops := r_towpathlaw01_LeftBytes_21) (by kernel_rfl) ?_
      refine reg_run [.plain, .plain, .plain, .plain] 4 [(0, [], Value.slice t_.ptr t_.len t_.cap), (1, [], Value.slice l_.ptr l_.len l_.cap), (5, [], Value.int .i64 i), (22, [], Value.bool (decide (i < ((l_.len : Nat) : Int))))] (by kernel_rfl) (by kernel_rfl) ?_
      refine reg_end [(0, Value.slice t_.ptr t_.len t_.cap), (1, Value.slice l_.ptr l_.len l_.cap), (5, Value.int .i64 i), (22, Value.bool (decide (i < ((l_.len : Nat) : Int))))] (by kernel_rfl) (by kernel_rfl) ?_
      change WpE _ _ c_towpathlaw01_LeftBytes_23 _ _ _
      refine wpE_cond (o := (Operand.tmp 22)) (b := (decide (i < ((l_.len : Nat) : Int)))) (x := c_towpathlaw01_LeftBytes_24) (y := c_towpathlaw01_LeftBytes_25) (by kernel_rfl) (by kernel_rfl) (fun hb => ?_) (fun hb => ?_)
      · replace h := h.1 hb
        refine wpE_skip (by kernel_rfl) ?_
        change WpE _ _ c_towpathlaw01_LeftBytes_26 _ _ _
        refine wpE_seq (x := c_towpathlaw01_LeftBytes_27) (y := c_towpathlaw01_LeftBytes_37) (by kernel_rfl) ?_
        refine wpE_block (id := 1) (x := c_towpathlaw01_LeftBytes_28) (by kernel_rfl) ?_
        refine wpE_seq (x := c_towpathlaw01_LeftBytes_29) (y := c_towpathlaw01_LeftBytes_31) (by kernel_rfl) ?_
        refine wpE_drawregion (id := 6) (ops := r_towpathlaw01_LeftBytes_29) (by kernel_rfl) (by kernel_rfl) (by kernel_rfl) ?_
        refine qreg_run [.plain, .plain] 2 [(0, [], Value.slice t_.ptr t_.len t_.cap), (1, [], Value.slice l_.ptr l_.len l_.cap), (5, [], Value.int .i64 i), (25, [], Value.slice t_.ptr t_.len t_.cap), (26, [], Value.int .i64 i)] (by kernel_rfl) (by kernel_rfl) ?_
        obtain ⟨hp_14, h⟩ := h
        refine qreg_conv [(0, [], Value.slice t_.ptr t_.len t_.cap), (1, [], Value.slice l_.ptr l_.len l_.cap), (5, [], Value.int .i64 i), (25, [], Value.slice (some ⟨(pblk t_.ptr), (poff t_.ptr), none⟩) t_.len t_.cap), (26, [], Value.int .i64 i)] (congrArg (fun pp => ([(0, [], Value.slice t_.ptr t_.len t_.cap), (1, [], Value.slice l_.ptr l_.len l_.cap), (5, [], Value.int .i64 i), (25, [], Value.slice pp t_.len t_.cap), (26, [], Value.int .i64 i)] : GEnv)) hp_14) ?_
        obtain ⟨h0, h1, h⟩ := h
        refine qreg_indexS1 (t := 74) (e := 5) (x := (Go.Operand.tmp 25)) (ix := (Go.Operand.tmp 26)) (b := (pblk t_.ptr)) (o := (poff t_.ptr)) (l := t_.len) (c := t_.cap) (k := .i64) (j := i) (ty := 0) (dst := some 27) (by kernel_rfl) (by kernel_rfl) (by kernel_rfl) (by kernel_rfl) (by kernel_rfl) h0 h1 ?_
        refine qreg_run [] 3 [(0, [], Value.slice t_.ptr t_.len t_.cap), (1, [], Value.slice l_.ptr l_.len l_.cap), (5, [], Value.int .i64 i), (27, [], Value.pointer (some ⟨(pblk t_.ptr), (poff t_.ptr) + i.toNat, none⟩))] (by kernel_rfl) (by kernel_rfl) ?_
        obtain ⟨v28, hc, h⟩ := h
        refine qreg_load1 (t := 5) (a := (Go.Operand.tmp 27)) (b := (pblk t_.ptr)) (o := ((poff t_.ptr) + i.toNat)) (ty := 5) (dst := some 28) (by kernel_rfl) (by kernel_rfl) (by kernel_rfl) hc ?_
        refine qreg_run [.plain, .plain] 6 [(0, [], Value.slice t_.ptr t_.len t_.cap), (1, [], Value.slice l_.ptr l_.len l_.cap), (5, [], Value.int .i64 i), (28, [], Value.int .u8 v28), (29, [], Value.slice l_.ptr l_.len l_.cap), (30, [], Value.int .i64 i)] (by kernel_rfl) (by kernel_rfl) ?_
        obtain ⟨hp_15, h⟩ := h
        refine qreg_conv [(0, [], Value.slice t_.ptr t_.len t_.cap), (1, [], Value.slice l_.ptr l_.len l_.cap), (5, [], Value.int .i64 i), (28, [], Value.int .u8 v28), (29, [], Value.slice (some ⟨(pblk l_.ptr), (poff l_.ptr), none⟩) l_.len l_.cap), (30, [], Value.int .i64 i)] (congrArg (fun pp => ([(0, [], Value.slice t_.ptr t_.len t_.cap), (1, [], Value.slice l_.ptr l_.len l_.cap), (5, [], Value.int .i64 i), (28, [], Value.int .u8 v28), (29, [], Value.slice pp l_.len l_.cap), (30, [], Value.int .i64 i)] : GEnv)) hp_15) ?_
        obtain ⟨h0, h1, h⟩ := h
        refine qreg_indexS1 (t := 74) (e := 5) (x := (Go.Operand.tmp 29)) (ix := (Go.Operand.tmp 30)) (b := (pblk l_.ptr)) (o := (poff l_.ptr)) (l := l_.len) (c := l_.cap) (k := .i64) (j := i) (ty := 0) (dst := some 31) (by kernel_rfl) (by kernel_rfl) (by kernel_rfl) (by kernel_rfl) (by kernel_rfl) h0 h1 ?_
        refine qreg_run [] 7 [(0, [], Value.slice t_.ptr t_.len t_.cap), (1, [], Value.slice l_.ptr l_.len l_.cap), (5, [], Value.int .i64 i), (28, [], Value.int .u8 v28), (31, [], Value.pointer (some ⟨(pblk l_.ptr), (poff l_.ptr) + i.toNat, none⟩))] (by kernel_rfl) (by kernel_rfl) ?_
        obtain ⟨v32, hc, h⟩ := h
        refine qreg_load1 (t := 5) (a := (Go.Operand.tmp 31)) (b := (pblk l_.ptr)) (o := ((poff l_.ptr) + i.toNat)) (ty := 5) (dst := some 32) (by kernel_rfl) (by kernel_rfl) (by kernel_rfl) hc ?_
        refine qreg_run [.plain] 9 [(0, [], Value.slice t_.ptr t_.len t_.cap), (1, [], Value.slice l_.ptr l_.len l_.cap), (5, [], Value.int .i64 i), (33, [], Value.bool (v28 != v32))] (by kernel_rfl) (by kernel_rfl) ?_
        refine qreg_end [(0, Value.slice t_.ptr t_.len t_.cap), (1, Value.slice l_.ptr l_.len l_.cap), (5, Value.int .i64 i), (33, Value.bool (v28 != v32))] (by kernel_rfl) (by kernel_rfl) (fun w2 hw => ?_)
        replace h := h w2 hw
        clear hw
        change WpE _ _ c_towpathlaw01_LeftBytes_31 _ _ _
        refine wpE_cond (o := (Operand.tmp 33)) (b := (v28 != v32)) (x := c_towpathlaw01_LeftBytes_32) (y := c_towpathlaw01_LeftBytes_36) (by kernel_rfl) (by kernel_rfl) (fun hb => ?_) (fun hb => ?_)
        · replace h := h.1 hb
          refine wpE_seq (x := c_towpathlaw01_LeftBytes_33) (y := c_towpathlaw01_LeftBytes_35) (by kernel_rfl) ?_
          refine wpE_region (id := 7) (ops := r_towpathlaw01_LeftBytes_33) (by kernel_rfl) ?_
          refine reg_run [.plain] 1 [(4, [], Value.bool false)] (by kernel_rfl) (by kernel_rfl) ?_
          refine reg_end [(4, Value.bool false)] (by kernel_rfl) (by kernel_rfl) ?_
          change WpE _ _ c_towpathlaw01_LeftBytes_35 _ _ _
          refine wpE_ret (by kernel_rfl) ?_
          repeat (first | refine seqQ_ret ?_ | refine blockQ_ret ?_ | refine loopQ_ret ?_ | refine cutQ_ret ?_)
          exact retS (rs := [(Go.ResultVar.tmp 4)]) (v := Value.bool false) (by kernel_rfl) (⟨by kernel_rfl, trivial⟩) ⟨false, rfl, h⟩
        · replace h := h.2 hb
          refine wpE_skip (by kernel_rfl) ?_
          change WpE _ _ c_towpathlaw01_LeftBytes_37 _ _ _
          refine wpE_region (id := 5) (ops := r_towpathlaw01_LeftBytes_37) (by kernel_rfl) ?_
          refine reg_run [.plain, .plain, .plain] 3 [(0, [], Value.slice t_.ptr t_.len t_.cap), (1, [], Value.slice l_.ptr l_.len l_.cap), (5, [], Value.int .i64 (IntKind.i64.wrap (i + 1)))] (by kernel_rfl) (by kernel_rfl) ?_
          refine reg_end [(0, Value.slice t_.ptr t_.len t_.cap), (1, Value.slice l_.ptr l_.len l_.cap), (5, Value.int .i64 (IntKind.i64.wrap (i + 1)))] (by kernel_rfl) (by kernel_rfl) ?_
          have hb_ := again__h _ _ h
          exact ⟨_, hb_.2, [(0, Value.slice t_.ptr t_.len t_.cap), (1, Value.slice l_.ptr l_.len l_.cap), (5, Value.int .i64 (IntKind.i64.wrap (i + 1)))], Sub.mk (by kernel_rfl), (IntKind.i64.wrap (i + 1)), rfl, hb_.1, rfl⟩
      · replace h := h.2 hb
        refine wpE_exit (id := 0) (by kernel_rfl) ?_
        change WpE _ _ c_towpathlaw01_LeftBytes_39 _ _ _
        refine wpE_seq (x := c_towpathlaw01_LeftBytes_40) (y := c_towpathlaw01_LeftBytes_42) (by kernel_rfl) ?_
        refine wpE_region (id := 8) (ops := r_towpathlaw01_LeftBytes_40) (by kernel_rfl) ?_
        refine reg_run [.plain, .plain, .plain, .plain] 4 [(1, [], Value.slice l_.ptr l_.len l_.cap), (34, [], Value.slice t_.ptr t_.len t_.cap), (37, [], Value.int .i64 (IntKind.i64.wrap (((l_.len : Nat) : Int) + 1)))] (by kernel_rfl) (by kernel_rfl) ?_
        obtain ⟨h0, h1, h⟩ := h
        refine reg_sliceHi (t := 74) (e := 5) (x := (Go.Operand.tmp 34)) (hi := (Go.Operand.tmp 37)) (p := t_.ptr) (l := t_.len) (c := t_.cap) (sz := 1) (k := .i64) (j := (IntKind.i64.wrap (((l_.len : Nat) : Int) + 1))) (ty := 74) (dst := some 38) (by kernel_rfl) (by kernel_rfl) (by kernel_rfl) (by kernel_rfl) (by kernel_rfl) h0 h1 ?_
        refine reg_run [.plain, .plain] 7 [(38, [], Value.slice t_.ptr ((IntKind.i64.wrap (((l_.len : Nat) : Int) + 1)).toNat) t_.cap), (40, [], Value.int .i64 ((l_.len : Nat) : Int))] (by kernel_rfl) (by kernel_rfl) ?_
        obtain ⟨hp_17, h⟩ := h
        refine reg_conv [(38, [], Value.slice (some ⟨(pblk t_.ptr), (poff t_.ptr), none⟩) ((IntKind.i64.wrap (((l_.len : Nat) : Int) + 1)).toNat) t_.cap), (40, [], Value.int .i64 ((l_.len : Nat) : Int))] (congrArg (fun pp => ([(38, [], Value.slice pp ((IntKind.i64.wrap (((l_.len : Nat) : Int) + 1)).toNat) t_.cap), (40, [], Value.int .i64 ((l_.len : Nat) : Int))] : GEnv)) hp_17) ?_
        obtain ⟨h0, h1, h⟩ := h
        refine reg_indexS1 (t := 74) (e := 5) (x := (Go.Operand.tmp 38)) (ix := (Go.Operand.tmp 40)) (b := (pblk t_.ptr)) (o := (poff t_.ptr)) (l := ((IntKind.i64.wrap (((l_.len : Nat) : Int) + 1)).toNat)) (c := t_.cap) (k := .i64) (j := ((l_.len : Nat) : Int)) (ty := 0) (dst := some 41) (by kernel_rfl) (by kernel_rfl) (by kernel_rfl) (by kernel_rfl) (by kernel_rfl) h0 h1 ?_
        refine reg_run [] 8 [(41, [], Value.pointer (some ⟨(pblk t_.ptr), (poff t_.ptr) + ((l_.len : Nat) : Int).toNat, none⟩))] (by kernel_rfl) (by kernel_rfl) ?_
        obtain ⟨x, hc, h⟩ := h
        refine reg_load1 (t := 5) (a := (Go.Operand.tmp 41)) (b := (pblk t_.ptr)) (o := ((poff t_.ptr) + ((l_.len : Nat) : Int).toNat)) (ty := 5) (dst := some 42) (by kernel_rfl) (by kernel_rfl) (by kernel_rfl) hc ?_
        refine reg_run [.plain] 10 [(6, [], Value.int .u8 x)] (by kernel_rfl) (by kernel_rfl) ?_
        refine reg_end [(6, Value.int .u8 x)] (by kernel_rfl) (by kernel_rfl) ?_
        change WpE _ _ c_towpathlaw01_LeftBytes_42 _ _ _
        refine wpE_seq (x := c_towpathlaw01_LeftBytes_43) (y := c_towpathlaw01_LeftBytes_45) (by kernel_rfl) ?_
        refine wpE_region (id := 9) (ops := r_towpathlaw01_LeftBytes_43) (by kernel_rfl) ?_
        refine reg_run [.plain, .plain, .plain] 3 [(4, [], Value.bool (x == 77))] (by kernel_rfl) (by kernel_rfl) ?_
        refine reg_end [(4, Value.bool (x == 77))] (by kernel_rfl) (by kernel_rfl) ?_
        change WpE _ _ c_towpathlaw01_LeftBytes_45 _ _ _
        refine wpE_ret (by kernel_rfl) ?_
        repeat (first | refine seqQ_ret ?_ | refine blockQ_ret ?_ | refine loopQ_ret ?_ | refine cutQ_ret ?_)
        exact retS (rs := [(Go.ResultVar.tmp 4)]) (v := Value.bool (x == 77)) (by kernel_rfl) (⟨by kernel_rfl, trivial⟩) ⟨(x == 77), rfl, h⟩
  · rintro e w' ⟨v, rfl, r0, rfl, h⟩; exact ⟨r0, rfl, h⟩

/-! ### towpath/num.Fit[int64,int16] (function 57) -/
noncomputable def c_num_Fit_int64_int16_0 : Code := (Try.f57.body).getD Code.skip
noncomputable def c_num_Fit_int64_int16_1 : Code := Code.l c_num_Fit_int64_int16_0
noncomputable def r_num_Fit_int64_int16_1 : Array Oper := Code.ops c_num_Fit_int64_int16_1
noncomputable def c_num_Fit_int64_int16_3 : Code := Code.r c_num_Fit_int64_int16_0
noncomputable def c_num_Fit_int64_int16_4 : Code := Code.l c_num_Fit_int64_int16_3
noncomputable def r_num_Fit_int64_int16_4 : Array Oper := Code.ops c_num_Fit_int64_int16_4
noncomputable def c_num_Fit_int64_int16_6 : Code := Code.r c_num_Fit_int64_int16_3
noncomputable def c_num_Fit_int64_int16_7 : Code := Code.l c_num_Fit_int64_int16_6
noncomputable def c_num_Fit_int64_int16_8 : Code := Code.l c_num_Fit_int64_int16_7
noncomputable def r_num_Fit_int64_int16_8 : Array Oper := Code.ops c_num_Fit_int64_int16_8
noncomputable def c_num_Fit_int64_int16_10 : Code := Code.r c_num_Fit_int64_int16_7
noncomputable def c_num_Fit_int64_int16_11 : Code := Code.l c_num_Fit_int64_int16_10
noncomputable def c_num_Fit_int64_int16_12 : Code := Code.l c_num_Fit_int64_int16_11
noncomputable def r_num_Fit_int64_int16_12 : Array Oper := Code.ops c_num_Fit_int64_int16_12
noncomputable def c_num_Fit_int64_int16_14 : Code := Code.r c_num_Fit_int64_int16_11
noncomputable def c_num_Fit_int64_int16_15 : Code := Code.r c_num_Fit_int64_int16_10
noncomputable def c_num_Fit_int64_int16_16 : Code := Code.r c_num_Fit_int64_int16_6
noncomputable def c_num_Fit_int64_int16_17 : Code := Code.l c_num_Fit_int64_int16_16
noncomputable def r_num_Fit_int64_int16_17 : Array Oper := Code.ops c_num_Fit_int64_int16_17
noncomputable def c_num_Fit_int64_int16_19 : Code := Code.r c_num_Fit_int64_int16_16

set_option maxRecDepth 100000 in
theorem S_num_Fit_int64_int16 {x : Int} {w : World} {R : Int → Bool → World → Prop} (h : F_num_Fit_int64_int16 x R w) : C_num_Fit_int64_int16 x w R := by
  unfold F_num_Fit_int64_int16 at h
  unfold C_num_Fit_int64_int16
  refine Calls.mono (calls_of_wpE (args := [Value.int .i16 x]) (R := fun v w' => ∃ (r0 : Int) (r1 : Bool), v = Value.tuple #[Value.int .i64 r0, Value.bool r1] ∧ R r0 r1 w') Try.func57 (c := c_num_Fit_int64_int16_0) (by kernel_rfl) 19 (by kernel_rfl) (by kernel_rfl) [(0, Value.int .i16 x)] (by kernel_rfl) ?_) ?_
  · refine wpE_seq (x := c_num_Fit_int64_int16_1) (y := c_num_Fit_int64_int16_3) (by kernel_rfl) ?_
    refine wpE_region (id := 0) (ops := r_num_Fit_int64_int16_1) (by kernel_rfl) ?_
    refine reg_run [.plain, .plain] 2 [(0, [], Value.int .i16 x)] (by kernel_rfl) (by kernel_rfl) ?_
    refine reg_end [(0, Value.int .i16 x)] (by kernel_rfl) (by kernel_rfl) ?_
    change WpE _ _ c_num_Fit_int64_int16_3 _ _ _
    refine wpE_seq (x := c_num_Fit_int64_int16_4) (y := c_num_Fit_int64_int16_6) (by kernel_rfl) ?_
    refine wpE_region (id := 1) (ops := r_num_Fit_int64_int16_4) (by kernel_rfl) ?_
    refine reg_run [.plain, .plain, .plain] 3 [(0, [], Value.int .i16 x), (4, [], Value.int .i64 (IntKind.i64.wrap x))] (by kernel_rfl) (by kernel_rfl) ?_
    refine reg_end [(0, Value.int .i16 x), (4, Value.int .i64 (IntKind.i64.wrap x))] (by kernel_rfl) (by kernel_rfl) ?_
    change WpE _ _ c_num_Fit_int64_int16_6 _ _ _
    refine wpE_seq (x := c_num_Fit_int64_int16_7) (y := c_num_Fit_int64_int16_16) (by kernel_rfl) ?_
    refine wpE_seq (x := c_num_Fit_int64_int16_8) (y := c_num_Fit_int64_int16_10) (by kernel_rfl) ?_
    refine wpE_region (id := 2) (ops := r_num_Fit_int64_int16_8) (by kernel_rfl) ?_
    refine reg_run [.plain, .plain, .plain, .plain, .plain, .plain, .plain, .plain, .plain, .plain, .pick] 11 [(4, [], Value.int .i64 (IntKind.i64.wrap x)), (17, [], Value.bool (((IntKind.i16.wrap (IntKind.i64.wrap x)) != x) || (!((decide (x < 0)) == (decide ((IntKind.i64.wrap x) < 0))))))] (by kernel_rfl) (by kernel_rfl) ?_
    refine reg_end [(4, Value.int .i64 (IntKind.i64.wrap x)), (17, Value.bool (((IntKind.i16.wrap (IntKind.i64.wrap x)) != x) || (!((decide (x < 0)) == (decide ((IntKind.i64.wrap x) < 0))))))] (by kernel_rfl) (by kernel_rfl) ?_
    change WpE _ _ c_num_Fit_int64_int16_10 _ _ _
    refine wpE_cond (o := (Operand.tmp 17)) (b := (((IntKind.i16.wrap (IntKind.i64.wrap x)) != x) || (!((decide (x < 0)) == (decide ((IntKind.i64.wrap x) < 0)))))) (x := c_num_Fit_int64_int16_11) (y := c_num_Fit_int64_int16_15) (by kernel_rfl) (by kernel_rfl) (fun hb => ?_) (fun hb => ?_)
    · replace h := h.1 hb
      refine wpE_seq (x := c_num_Fit_int64_int16_12) (y := c_num_Fit_int64_int16_14) (by kernel_rfl) ?_
      refine wpE_region (id := 3) (ops := r_num_Fit_int64_int16_12) (by kernel_rfl) ?_
      refine reg_run [.plain, .plain] 2 [(2, [], Value.int .i64 0), (3, [], Value.bool false)] (by kernel_rfl) (by kernel_rfl) ?_
      refine reg_end [(2, Value.int .i64 0), (3, Value.bool false)] (by kernel_rfl) (by kernel_rfl) ?_
      change WpE _ _ c_num_Fit_int64_int16_14 _ _ _
      refine wpE_ret (by kernel_rfl) ?_
      repeat (first | refine seqQ_ret ?_ | refine blockQ_ret ?_ | refine loopQ_ret ?_ | refine cutQ_ret ?_)
      exact retT (rs := [(Go.ResultVar.tmp 2), (Go.ResultVar.tmp 3)]) (vs := [Value.int .i64 0, Value.bool false]) (by kernel_rfl) (⟨by kernel_rfl, ⟨by kernel_rfl, trivial⟩⟩) (by kernel_rfl) ⟨0, false, rfl, h⟩
    · replace h := h.2 hb
      refine wpE_skip (by kernel_rfl) ?_
      change WpE _ _ c_num_Fit_int64_int16_16 _ _ _
      refine wpE_seq (x := c_num_Fit_int64_int16_17) (y := c_num_Fit_int64_int16_19) (by kernel_rfl) ?_
      refine wpE_region (id := 4) (ops := r_num_Fit_int64_int16_17) (by kernel_rfl) ?_
      refine reg_run [.plain, .plain, .plain] 3 [(2, [], Value.int .i64 (IntKind.i64.wrap x)), (3, [], Value.bool true)] (by kernel_rfl) (by kernel_rfl) ?_
      refine reg_end [(2, Value.int .i64 (IntKind.i64.wrap x)), (3, Value.bool true)] (by kernel_rfl) (by kernel_rfl) ?_
      change WpE _ _ c_num_Fit_int64_int16_19 _ _ _
      refine wpE_ret (by kernel_rfl) ?_
      repeat (first | refine seqQ_ret ?_ | refine blockQ_ret ?_ | refine loopQ_ret ?_ | refine cutQ_ret ?_)
      exact retT (rs := [(Go.ResultVar.tmp 2), (Go.ResultVar.tmp 3)]) (vs := [Value.int .i64 (IntKind.i64.wrap x), Value.bool true]) (by kernel_rfl) (⟨by kernel_rfl, ⟨by kernel_rfl, trivial⟩⟩) (by kernel_rfl) ⟨(IntKind.i64.wrap x), true, rfl, h⟩
  · rintro e w' ⟨v, rfl, r0, r1, rfl, h⟩; exact ⟨r0, r1, rfl, h⟩

/-! ### towpath/num.Fit[uint64,uint32] (function 58) -/
noncomputable def c_num_Fit_uint64_uint32_0 : Code := (Try.f58.body).getD Code.skip
noncomputable def c_num_Fit_uint64_uint32_1 : Code := Code.l c_num_Fit_uint64_uint32_0
noncomputable def r_num_Fit_uint64_uint32_1 : Array Oper := Code.ops c_num_Fit_uint64_uint32_1
noncomputable def c_num_Fit_uint64_uint32_3 : Code := Code.r c_num_Fit_uint64_uint32_0
noncomputable def c_num_Fit_uint64_uint32_4 : Code := Code.l c_num_Fit_uint64_uint32_3
noncomputable def r_num_Fit_uint64_uint32_4 : Array Oper := Code.ops c_num_Fit_uint64_uint32_4
noncomputable def c_num_Fit_uint64_uint32_6 : Code := Code.r c_num_Fit_uint64_uint32_3
noncomputable def c_num_Fit_uint64_uint32_7 : Code := Code.l c_num_Fit_uint64_uint32_6
noncomputable def c_num_Fit_uint64_uint32_8 : Code := Code.l c_num_Fit_uint64_uint32_7
noncomputable def r_num_Fit_uint64_uint32_8 : Array Oper := Code.ops c_num_Fit_uint64_uint32_8
noncomputable def c_num_Fit_uint64_uint32_10 : Code := Code.r c_num_Fit_uint64_uint32_7
noncomputable def c_num_Fit_uint64_uint32_11 : Code := Code.l c_num_Fit_uint64_uint32_10
noncomputable def c_num_Fit_uint64_uint32_12 : Code := Code.l c_num_Fit_uint64_uint32_11
noncomputable def r_num_Fit_uint64_uint32_12 : Array Oper := Code.ops c_num_Fit_uint64_uint32_12
noncomputable def c_num_Fit_uint64_uint32_14 : Code := Code.r c_num_Fit_uint64_uint32_11
noncomputable def c_num_Fit_uint64_uint32_15 : Code := Code.r c_num_Fit_uint64_uint32_10
noncomputable def c_num_Fit_uint64_uint32_16 : Code := Code.r c_num_Fit_uint64_uint32_6
noncomputable def c_num_Fit_uint64_uint32_17 : Code := Code.l c_num_Fit_uint64_uint32_16
noncomputable def r_num_Fit_uint64_uint32_17 : Array Oper := Code.ops c_num_Fit_uint64_uint32_17
noncomputable def c_num_Fit_uint64_uint32_19 : Code := Code.r c_num_Fit_uint64_uint32_16

set_option maxRecDepth 100000 in
theorem S_num_Fit_uint64_uint32 {x : Int} {w : World} {R : Int → Bool → World → Prop} (h : F_num_Fit_uint64_uint32 x R w) : C_num_Fit_uint64_uint32 x w R := by
  unfold F_num_Fit_uint64_uint32 at h
  unfold C_num_Fit_uint64_uint32
  refine Calls.mono (calls_of_wpE (args := [Value.int .u32 x]) (R := fun v w' => ∃ (r0 : Int) (r1 : Bool), v = Value.tuple #[Value.int .u64 r0, Value.bool r1] ∧ R r0 r1 w') Try.func58 (c := c_num_Fit_uint64_uint32_0) (by kernel_rfl) 19 (by kernel_rfl) (by kernel_rfl) [(0, Value.int .u32 x)] (by kernel_rfl) ?_) ?_
  · refine wpE_seq (x := c_num_Fit_uint64_uint32_1) (y := c_num_Fit_uint64_uint32_3) (by kernel_rfl) ?_
    refine wpE_region (id := 0) (ops := r_num_Fit_uint64_uint32_1) (by kernel_rfl) ?_
    refine reg_run [.plain, .plain] 2 [(0, [], Value.int .u32 x)] (by kernel_rfl) (by kernel_rfl) ?_
    refine reg_end [(0, Value.int .u32 x)] (by kernel_rfl) (by kernel_rfl) ?_
    change WpE _ _ c_num_Fit_uint64_uint32_3 _ _ _
    refine wpE_seq (x := c_num_Fit_uint64_uint32_4) (y := c_num_Fit_uint64_uint32_6) (by kernel_rfl) ?_
    refine wpE_region (id := 1) (ops := r_num_Fit_uint64_uint32_4) (by kernel_rfl) ?_
    refine reg_run [.plain, .plain, .plain] 3 [(0, [], Value.int .u32 x), (4, [], Value.int .u64 (IntKind.u64.wrap x))] (by kernel_rfl) (by kernel_rfl) ?_
    refine reg_end [(0, Value.int .u32 x), (4, Value.int .u64 (IntKind.u64.wrap x))] (by kernel_rfl) (by kernel_rfl) ?_
    change WpE _ _ c_num_Fit_uint64_uint32_6 _ _ _
    refine wpE_seq (x := c_num_Fit_uint64_uint32_7) (y := c_num_Fit_uint64_uint32_16) (by kernel_rfl) ?_
    refine wpE_seq (x := c_num_Fit_uint64_uint32_8) (y := c_num_Fit_uint64_uint32_10) (by kernel_rfl) ?_
    refine wpE_region (id := 2) (ops := r_num_Fit_uint64_uint32_8) (by kernel_rfl) ?_
    refine reg_run [.plain, .plain, .plain, .plain, .plain, .plain, .plain, .plain, .plain, .plain, .pick] 11 [(4, [], Value.int .u64 (IntKind.u64.wrap x)), (17, [], Value.bool (((IntKind.u32.wrap (IntKind.u64.wrap x)) != x) || (!((decide (x < 0)) == (decide ((IntKind.u64.wrap x) < 0))))))] (by kernel_rfl) (by kernel_rfl) ?_
    refine reg_end [(4, Value.int .u64 (IntKind.u64.wrap x)), (17, Value.bool (((IntKind.u32.wrap (IntKind.u64.wrap x)) != x) || (!((decide (x < 0)) == (decide ((IntKind.u64.wrap x) < 0))))))] (by kernel_rfl) (by kernel_rfl) ?_
    change WpE _ _ c_num_Fit_uint64_uint32_10 _ _ _
    refine wpE_cond (o := (Operand.tmp 17)) (b := (((IntKind.u32.wrap (IntKind.u64.wrap x)) != x) || (!((decide (x < 0)) == (decide ((IntKind.u64.wrap x) < 0)))))) (x := c_num_Fit_uint64_uint32_11) (y := c_num_Fit_uint64_uint32_15) (by kernel_rfl) (by kernel_rfl) (fun hb => ?_) (fun hb => ?_)
    · replace h := h.1 hb
      refine wpE_seq (x := c_num_Fit_uint64_uint32_12) (y := c_num_Fit_uint64_uint32_14) (by kernel_rfl) ?_
      refine wpE_region (id := 3) (ops := r_num_Fit_uint64_uint32_12) (by kernel_rfl) ?_
      refine reg_run [.plain, .plain] 2 [(2, [], Value.int .u64 0), (3, [], Value.bool false)] (by kernel_rfl) (by kernel_rfl) ?_
      refine reg_end [(2, Value.int .u64 0), (3, Value.bool false)] (by kernel_rfl) (by kernel_rfl) ?_
      change WpE _ _ c_num_Fit_uint64_uint32_14 _ _ _
      refine wpE_ret (by kernel_rfl) ?_
      repeat (first | refine seqQ_ret ?_ | refine blockQ_ret ?_ | refine loopQ_ret ?_ | refine cutQ_ret ?_)
      exact retT (rs := [(Go.ResultVar.tmp 2), (Go.ResultVar.tmp 3)]) (vs := [Value.int .u64 0, Value.bool false]) (by kernel_rfl) (⟨by kernel_rfl, ⟨by kernel_rfl, trivial⟩⟩) (by kernel_rfl) ⟨0, false, rfl, h⟩
    · replace h := h.2 hb
      refine wpE_skip (by kernel_rfl) ?_
      change WpE _ _ c_num_Fit_uint64_uint32_16 _ _ _
      refine wpE_seq (x := c_num_Fit_uint64_uint32_17) (y := c_num_Fit_uint64_uint32_19) (by kernel_rfl) ?_
      refine wpE_region (id := 4) (ops := r_num_Fit_uint64_uint32_17) (by kernel_rfl) ?_
      refine reg_run [.plain, .plain, .plain] 3 [(2, [], Value.int .u64 (IntKind.u64.wrap x)), (3, [], Value.bool true)] (by kernel_rfl) (by kernel_rfl) ?_
      refine reg_end [(2, Value.int .u64 (IntKind.u64.wrap x)), (3, Value.bool true)] (by kernel_rfl) (by kernel_rfl) ?_
      change WpE _ _ c_num_Fit_uint64_uint32_19 _ _ _
      refine wpE_ret (by kernel_rfl) ?_
      repeat (first | refine seqQ_ret ?_ | refine blockQ_ret ?_ | refine loopQ_ret ?_ | refine cutQ_ret ?_)
      exact retT (rs := [(Go.ResultVar.tmp 2), (Go.ResultVar.tmp 3)]) (vs := [Value.int .u64 (IntKind.u64.wrap x), Value.bool true]) (by kernel_rfl) (⟨by kernel_rfl, ⟨by kernel_rfl, trivial⟩⟩) (by kernel_rfl) ⟨(IntKind.u64.wrap x), true, rfl, h⟩
  · rintro e w' ⟨v, rfl, r0, r1, rfl, h⟩; exact ⟨r0, r1, rfl, h⟩

/-! ### towpath/towpathlaw01.alive (function 59) -/
noncomputable def c_towpathlaw01_alive_0 : Code := (Try.f59.body).getD Code.skip
noncomputable def c_towpathlaw01_alive_1 : Code := Code.l c_towpathlaw01_alive_0
noncomputable def r_towpathlaw01_alive_1 : Array Oper := Code.ops c_towpathlaw01_alive_1
noncomputable def c_towpathlaw01_alive_3 : Code := Code.r c_towpathlaw01_alive_0
noncomputable def c_towpathlaw01_alive_4 : Code := Code.l c_towpathlaw01_alive_3
noncomputable def r_towpathlaw01_alive_4 : Array Oper := Code.ops c_towpathlaw01_alive_4
noncomputable def c_towpathlaw01_alive_6 : Code := Code.r c_towpathlaw01_alive_3
noncomputable def c_towpathlaw01_alive_7 : Code := Code.l c_towpathlaw01_alive_6
noncomputable def r_towpathlaw01_alive_7 : Array Oper := Code.ops c_towpathlaw01_alive_7
noncomputable def c_towpathlaw01_alive_9 : Code := Code.r c_towpathlaw01_alive_6
noncomputable def c_towpathlaw01_alive_10 : Code := Code.l c_towpathlaw01_alive_9
noncomputable def r_towpathlaw01_alive_10 : Array Oper := Code.ops c_towpathlaw01_alive_10
noncomputable def c_towpathlaw01_alive_12 : Code := Code.r c_towpathlaw01_alive_9
noncomputable def c_towpathlaw01_alive_13 : Code := Code.l c_towpathlaw01_alive_12
noncomputable def r_towpathlaw01_alive_13 : Array Oper := Code.ops c_towpathlaw01_alive_13
noncomputable def c_towpathlaw01_alive_15 : Code := Code.r c_towpathlaw01_alive_12
noncomputable def c_towpathlaw01_alive_16 : Code := Code.l c_towpathlaw01_alive_15
noncomputable def r_towpathlaw01_alive_16 : Array Oper := Code.ops c_towpathlaw01_alive_16
noncomputable def c_towpathlaw01_alive_18 : Code := Code.r c_towpathlaw01_alive_15

set_option maxRecDepth 100000 in
theorem S_towpathlaw01_alive {w : World} {R : Bool → World → Prop} (h : F_towpathlaw01_alive R w) : C_towpathlaw01_alive w R := by
  unfold F_towpathlaw01_alive at h
  unfold C_towpathlaw01_alive
  refine Calls.mono (calls_of_wpE (args := []) (R := fun v w' => ∃ (r0 : Bool), v = Value.bool r0 ∧ R r0 w') Try.func59 (c := c_towpathlaw01_alive_0) (by kernel_rfl) 60 (by kernel_rfl) (by kernel_rfl) [] (by kernel_rfl) ?_) ?_
  · refine wpE_seq (x := c_towpathlaw01_alive_1) (y := c_towpathlaw01_alive_3) (by kernel_rfl) ?_
    refine wpE_region (id := 0) (ops := r_towpathlaw01_alive_1) (by kernel_rfl) ?_
    refine reg_run [.plain] 1 [] (by kernel_rfl) (by kernel_rfl) ?_
    refine reg_end [] (by kernel_rfl) (by kernel_rfl) ?_
    change WpE _ _ c_towpathlaw01_alive_3 _ _ _
    refine wpE_seq (x := c_towpathlaw01_alive_4) (y := c_towpathlaw01_alive_6) (by kernel_rfl) ?_
    refine wpE_region (id := 1) (ops := r_towpathlaw01_alive_4) (by kernel_rfl) ?_
    refine reg_run [] 0 [] (by kernel_rfl) (by kernel_rfl) ?_
    refine reg_enter (op := (Go.Op.call (Go.Call.mk (Go.Callee.value (Go.Operand.func 66)) #[(Go.Operand.const (Go.Value.int Go.IntKind.i64 127))] #[3]))) (ty := 23) (dst := some 10) 66 #[Value.int .i64 127] (by kernel_rfl) (fun ww => by kernel_rfl) (Calls.mono h ?_)
    rintro _ w1 ⟨a_, ok, rfl, h⟩
    refine ⟨_, rfl, ?_⟩
    refine reg_run [.plain, .plain, .plain, .plain, .plain] 6 [(1, [], Value.int .i8 a_), (2, [], Value.bool ok)] (by kernel_rfl) (by kernel_rfl) ?_
    refine reg_end [(1, Value.int .i8 a_), (2, Value.bool ok)] (by kernel_rfl) (by kernel_rfl) ?_
    change WpE _ _ c_towpathlaw01_alive_6 _ _ _
    refine wpE_seq (x := c_towpathlaw01_alive_7) (y := c_towpathlaw01_alive_9) (by kernel_rfl) ?_
    refine wpE_region (id := 2) (ops := r_towpathlaw01_alive_7) (by kernel_rfl) ?_
    refine reg_run [] 0 [(1, [], Value.int .i8 a_), (2, [], Value.bool ok)] (by kernel_rfl) (by kernel_rfl) ?_
    refine reg_enter (op := (Go.Op.call (Go.Call.mk (Go.Callee.value (Go.Operand.func 66)) #[(Go.Operand.const (Go.Value.int Go.IntKind.i64 128))] #[3]))) (ty := 23) (dst := some 14) 66 #[Value.int .i64 128] (by kernel_rfl) (fun ww => by kernel_rfl) (Calls.mono h ?_)
    rintro _ w2 ⟨v14, no, rfl, h⟩
    refine ⟨_, rfl, ?_⟩
    refine reg_run [.plain, .plain, .plain, .plain, .plain] 6 [(1, [], Value.int .i8 a_), (2, [], Value.bool ok), (4, [], Value.bool no)] (by kernel_rfl) (by kernel_rfl) ?_
    refine reg_end [(1, Value.int .i8 a_), (2, Value.bool ok), (4, Value.bool no)] (by kernel_rfl) (by kernel_rfl) ?_
    change WpE _ _ c_towpathlaw01_alive_9 _ _ _
    refine wpE_seq (x := c_towpathlaw01_alive_10) (y := c_towpathlaw01_alive_12) (by kernel_rfl) ?_
    refine wpE_region (id := 3) (ops := r_towpathlaw01_alive_10) (by kernel_rfl) ?_
    refine reg_run [] 0 [(1, [], Value.int .i8 a_), (2, [], Value.bool ok), (4, [], Value.bool no)] (by kernel_rfl) (by kernel_rfl) ?_
    refine reg_enter (op := (Go.Op.call (Go.Call.mk (Go.Callee.value (Go.Operand.func 46)) #[(Go.Operand.const (Go.Value.int Go.IntKind.u64 43981)), (Go.Operand.const (Go.Value.int Go.IntKind.i64 4)), (Go.Operand.const (Go.Value.int Go.IntKind.i64 8))] #[42, 3, 3]))) (ty := 43) (dst := some 18) 46 #[Value.int .u64 43981, Value.int .i64 4, Value.int .i64 8] (by kernel_rfl) (fun ww => by kernel_rfl) (Calls.mono h ?_)
    rintro _ w3 ⟨b_, is, rfl, h⟩
    refine ⟨_, rfl, ?_⟩
    refine reg_run [.plain, .plain, .plain, .plain, .plain] 6 [(1, [], Value.int .i8 a_), (2, [], Value.bool ok), (4, [], Value.bool no), (5, [], Value.int .u64 b_), (6, [], Value.bool is)] (by kernel_rfl) (by kernel_rfl) ?_
    refine reg_end [(1, Value.int .i8 a_), (2, Value.bool ok), (4, Value.bool no), (5, Value.int .u64 b_), (6, Value.bool is)] (by kernel_rfl) (by kernel_rfl) ?_
    change WpE _ _ c_towpathlaw01_alive_12 _ _ _
    refine wpE_seq (x := c_towpathlaw01_alive_13) (y := c_towpathlaw01_alive_15) (by kernel_rfl) ?_
    refine wpE_region (id := 4) (ops := r_towpathlaw01_alive_13) (by kernel_rfl) ?_
    refine reg_run [] 0 [(1, [], Value.int .i8 a_), (2, [], Value.bool ok), (4, [], Value.bool no), (5, [], Value.int .u64 b_), (6, [], Value.bool is)] (by kernel_rfl) (by kernel_rfl) ?_
    refine reg_enter (op := (Go.Op.call (Go.Call.mk (Go.Callee.value (Go.Operand.func 47)) #[(Go.Operand.const (Go.Value.int Go.IntKind.u64 43981)), (Go.Operand.const (Go.Value.int Go.IntKind.i64 4)), (Go.Operand.const (Go.Value.int Go.IntKind.i64 8)), (Go.Operand.const (Go.Value.int Go.IntKind.u64 18))] #[42, 3, 3, 42]))) (ty := 43) (dst := some 22) 47 #[Value.int .u64 43981, Value.int .i64 4, Value.int .i64 8, Value.int .u64 18] (by kernel_rfl) (fun ww => by kernel_rfl) (Calls.mono h ?_)
    rintro _ w4 ⟨c, put, rfl, h⟩
    refine ⟨_, rfl, ?_⟩
    refine reg_run [.plain, .plain, .plain, .plain, .plain] 6 [(1, [], Value.int .i8 a_), (2, [], Value.bool ok), (4, [], Value.bool no), (5, [], Value.int .u64 b_), (6, [], Value.bool is), (7, [], Value.int .u64 c), (8, [], Value.bool put)] (by kernel_rfl) (by kernel_rfl) ?_
    refine reg_end [(1, Value.int .i8 a_), (2, Value.bool ok), (4, Value.bool no), (5, Value.int .u64 b_), (6, Value.bool is), (7, Value.int .u64 c), (8, Value.bool put)] (by kernel_rfl) (by kernel_rfl) ?_
    change WpE _ _ c_towpathlaw01_alive_15 _ _ _
    refine wpE_seq (x := c_towpathlaw01_alive_16) (y := c_towpathlaw01_alive_18) (by kernel_rfl) ?_
    refine wpE_region (id := 5) (ops := r_towpathlaw01_alive_16) (by kernel_rfl) ?_
    refine reg_run [.plain, .plain, .plain, .plain, .pick, .plain, .plain, .plain, .pick, .plain, .plain, .plain, .pick, .plain, .plain, .pick, .plain, .plain, .plain, .pick, .plain, .plain, .pick, .plain] 24 [(48, [], Value.bool (((((((a_ == 127) && ok) && (!no)) && (b_ == 188)) && is) && (c == 41261)) && put))] (by kernel_rfl) (by kernel_rfl) ?_
    refine reg_split 48 (((((((a_ == 127) && ok) && (!no)) && (b_ == 188)) && is) && (c == 41261)) && put) (by kernel_rfl) (fun hb => ?_) (fun hb => ?_)
    · replace h := h.1 hb
      refine reg_run [] 24 [(48, [], Value.bool true)] (by kernel_rfl) (by kernel_rfl) ?_
      refine reg_run [] 24 [(48, [], Value.bool true)] (by kernel_rfl) (by kernel_rfl) ?_
      refine reg_enter (op := (Go.Op.call (Go.Call.mk (Go.Callee.value (Go.Operand.func 40)) #[(Go.Operand.const (Go.Value.int Go.IntKind.u32 2147483649)), (Go.Operand.const (Go.Value.int Go.IntKind.i64 1))] #[39, 3]))) (ty := 39) (dst := some 49) 40 #[Value.int .u32 2147483649, Value.int .i64 1] (by kernel_rfl) (fun ww => by kernel_rfl) (Calls.mono h ?_)
      rintro _ w5 ⟨v49, rfl, h⟩
      refine ⟨_, rfl, ?_⟩
      refine reg_run [.sure, .plain, .plain] 28 [(52, [], Value.bool (v49 == 3))] (by kernel_rfl) (by kernel_rfl) ?_
      refine reg_split 52 (v49 == 3) (by kernel_rfl) (fun hb => ?_) (fun hb => ?_)
      · replace h := h.1 hb
        refine reg_run [] 28 [(52, [], Value.bool true)] (by kernel_rfl) (by kernel_rfl) ?_
        refine reg_run [] 28 [(52, [], Value.bool true)] (by kernel_rfl) (by kernel_rfl) ?_
        refine reg_enter (op := (Go.Op.call (Go.Call.mk (Go.Callee.value (Go.Operand.func 42)) #[(Go.Operand.const (Go.Value.int Go.IntKind.i64 (-2)))] #[2]))) (ty := 42) (dst := some 53) 42 #[Value.int .i64 (-2)] (by kernel_rfl) (fun ww => by kernel_rfl) (Calls.mono h ?_)
        rintro _ w6 ⟨v53, rfl, h⟩
        refine ⟨_, rfl, ?_⟩
        refine reg_run [.sure, .plain, .plain] 32 [(56, [], Value.bool (v53 == 3))] (by kernel_rfl) (by kernel_rfl) ?_
        refine reg_split 56 (v53 == 3) (by kernel_rfl) (fun hb => ?_) (fun hb => ?_)
        · replace h := h.1 hb
          refine reg_run [] 32 [(56, [], Value.bool true)] (by kernel_rfl) (by kernel_rfl) ?_
          refine reg_run [] 32 [(56, [], Value.bool true)] (by kernel_rfl) (by kernel_rfl) ?_
          refine reg_enter (op := (Go.Op.call (Go.Call.mk (Go.Callee.value (Go.Operand.func 44)) #[(Go.Operand.const (Go.Value.int Go.IntKind.u64 3))] #[42]))) (ty := 2) (dst := some 57) 44 #[Value.int .u64 3] (by kernel_rfl) (fun ww => by kernel_rfl) (Calls.mono h ?_)
          rintro _ w7 ⟨v57, rfl, h⟩
          refine ⟨_, rfl, ?_⟩
          refine reg_run [.sure, .plain, .plain] 36 [(0, [], Value.bool (v57 == (-2)))] (by kernel_rfl) (by kernel_rfl) ?_
          refine reg_end [(0, Value.bool (v57 == (-2)))] (by kernel_rfl) (by kernel_rfl) ?_
          change WpE _ _ c_towpathlaw01_alive_18 _ _ _
          refine wpE_ret (by kernel_rfl) ?_
          repeat (first | refine seqQ_ret ?_ | refine blockQ_ret ?_ | refine loopQ_ret ?_ | refine cutQ_ret ?_)
          exact retS (rs := [(Go.ResultVar.tmp 0)]) (v := Value.bool (v57 == (-2))) (by kernel_rfl) (⟨by kernel_rfl, trivial⟩) ⟨(v57 == (-2)), rfl, h⟩
        · replace h := h.2 hb
          refine reg_run [] 32 [(56, [], Value.bool false)] (by kernel_rfl) (by kernel_rfl) ?_
          refine reg_run [.skip, .skip, .plain, .plain] 36 [(0, [], Value.bool false)] (by kernel_rfl) (by kernel_rfl) ?_
          refine reg_end [(0, Value.bool false)] (by kernel_rfl) (by kernel_rfl) ?_
          change WpE _ _ c_towpathlaw01_alive_18 _ _ _
          refine wpE_ret (by kernel_rfl) ?_
          repeat (first | refine seqQ_ret ?_ | refine blockQ_ret ?_ | refine loopQ_ret ?_ | refine cutQ_ret ?_)
          exact retS (rs := [(Go.ResultVar.tmp 0)]) (v := Value.bool false) (by kernel_rfl) (⟨by kernel_rfl, trivial⟩) ⟨false, rfl, h⟩
      · replace h := h.2 hb
        refine reg_run [] 28 [(52, [], Value.bool false)] (by kernel_rfl) (by kernel_rfl) ?_
        refine reg_run [.skip, .skip, .plain, .plain, .skip, .skip, .plain, .plain] 36 [(0, [], Value.bool false)] (by kernel_rfl) (by kernel_rfl) ?_
        refine reg_end [(0, Value.bool false)] (by kernel_rfl) (by kernel_rfl) ?_
        change WpE _ _ c_towpathlaw01_alive_18 _ _ _
        refine wpE_ret (by kernel_rfl) ?_
        repeat (first | refine seqQ_ret ?_ | refine blockQ_ret ?_ | refine loopQ_ret ?_ | refine cutQ_ret ?_)
        exact retS (rs := [(Go.ResultVar.tmp 0)]) (v := Value.bool false) (by kernel_rfl) (⟨by kernel_rfl, trivial⟩) ⟨false, rfl, h⟩
    · replace h := h.2 hb
      refine reg_run [] 24 [(48, [], Value.bool false)] (by kernel_rfl) (by kernel_rfl) ?_
      refine reg_run [.skip, .skip, .plain, .plain, .skip, .skip, .plain, .plain, .skip, .skip, .plain, .plain] 36 [(0, [], Value.bool false)] (by kernel_rfl) (by kernel_rfl) ?_
      refine reg_end [(0, Value.bool false)] (by kernel_rfl) (by kernel_rfl) ?_
      change WpE _ _ c_towpathlaw01_alive_18 _ _ _
      refine wpE_ret (by kernel_rfl) ?_
      repeat (first | refine seqQ_ret ?_ | refine blockQ_ret ?_ | refine loopQ_ret ?_ | refine cutQ_ret ?_)
      exact retS (rs := [(Go.ResultVar.tmp 0)]) (v := Value.bool false) (by kernel_rfl) (⟨by kernel_rfl, trivial⟩) ⟨false, rfl, h⟩
  · rintro e w' ⟨v, rfl, r0, rfl, h⟩; exact ⟨r0, rfl, h⟩

/-! ### towpath/towpathref01.power (function 60) -/
noncomputable def c_towpathref01_power_0 : Code := (Try.f60.body).getD Code.skip
noncomputable def c_towpathref01_power_1 : Code := Code.l c_towpathref01_power_0
noncomputable def r_towpathref01_power_1 : Array Oper := Code.ops c_towpathref01_power_1
noncomputable def c_towpathref01_power_3 : Code := Code.r c_towpathref01_power_0
noncomputable def c_towpathref01_power_4 : Code := Code.l c_towpathref01_power_3
noncomputable def r_towpathref01_power_4 : Array Oper := Code.ops c_towpathref01_power_4
noncomputable def c_towpathref01_power_6 : Code := Code.r c_towpathref01_power_3
noncomputable def c_towpathref01_power_7 : Code := Code.l c_towpathref01_power_6
noncomputable def c_towpathref01_power_8 : Code := Code.l c_towpathref01_power_7
noncomputable def r_towpathref01_power_8 : Array Oper := Code.ops c_towpathref01_power_8
noncomputable def c_towpathref01_power_10 : Code := Code.r c_towpathref01_power_7
noncomputable def c_towpathref01_power_11 : Code := Code.l c_towpathref01_power_10
noncomputable def c_towpathref01_power_12 : Code := Code.l c_towpathref01_power_11
noncomputable def c_towpathref01_power_13 : Code := Code.l c_towpathref01_power_12
noncomputable def c_towpathref01_power_14 : Code := Code.l c_towpathref01_power_13
noncomputable def r_towpathref01_power_14 : Array Oper := Code.ops c_towpathref01_power_14
noncomputable def c_towpathref01_power_16 : Code := Code.r c_towpathref01_power_13
noncomputable def c_towpathref01_power_17 : Code := Code.l c_towpathref01_power_16
noncomputable def c_towpathref01_power_18 : Code := Code.r c_towpathref01_power_16
noncomputable def c_towpathref01_power_19 : Code := Code.r c_towpathref01_power_12
noncomputable def c_towpathref01_power_20 : Code := Code.l c_towpathref01_power_19
noncomputable def c_towpathref01_power_21 : Code := Code.l c_towpathref01_power_20
noncomputable def r_towpathref01_power_21 : Array Oper := Code.ops c_towpathref01_power_21
noncomputable def c_towpathref01_power_23 : Code := Code.r c_towpathref01_power_19
noncomputable def r_towpathref01_power_23 : Array Oper := Code.ops c_towpathref01_power_23
noncomputable def c_towpathref01_power_25 : Code := Code.r c_towpathref01_power_6
noncomputable def c_towpathref01_power_26 : Code := Code.l c_towpathref01_power_25
noncomputable def r_towpathref01_power_26 : Array Oper := Code.ops c_towpathref01_power_26
noncomputable def c_towpathref01_power_28 : Code := Code.r c_towpathref01_power_25

set_option maxRecDepth 100000 in
theorem S_towpathref01_power {n_ : Int} {w : World} {R : Int → World → Prop} (h : F_towpathref01_power n_ R w) : C_towpathref01_power n_ w R := by
  unfold F_towpathref01_power at h
  unfold C_towpathref01_power
  refine Calls.mono (calls_of_wpE (args := [Value.int .i64 n_]) (R := fun v w' => ∃ (r0 : Int), v = Value.int .u64 r0 ∧ R r0 w') Try.func60 (c := c_towpathref01_power_0) (by kernel_rfl) 13 (by kernel_rfl) (by kernel_rfl) [(0, Value.int .i64 n_)] (by kernel_rfl) ?_) ?_
  · refine wpE_seq (x := c_towpathref01_power_1) (y := c_towpathref01_power_3) (by kernel_rfl) ?_
    refine wpE_region (id := 0) (ops := r_towpathref01_power_1) (by kernel_rfl) ?_
    refine reg_run [.plain] 1 [(0, [], Value.int .i64 n_)] (by kernel_rfl) (by kernel_rfl) ?_
    refine reg_end [(0, Value.int .i64 n_)] (by kernel_rfl) (by kernel_rfl) ?_
    change WpE _ _ c_towpathref01_power_3 _ _ _
    refine wpE_seq (x := c_towpathref01_power_4) (y := c_towpathref01_power_6) (by kernel_rfl) ?_
    refine wpE_region (id := 1) (ops := r_towpathref01_power_4) (by kernel_rfl) ?_
    refine reg_run [.plain] 1 [(0, [], Value.int .i64 n_), (3, [], Value.int .u64 1)] (by kernel_rfl) (by kernel_rfl) ?_
    refine reg_end [(0, Value.int .i64 n_), (3, Value.int .u64 1)] (by kernel_rfl) (by kernel_rfl) ?_
    change WpE _ _ c_towpathref01_power_6 _ _ _
    refine wpE_seq (x := c_towpathref01_power_7) (y := c_towpathref01_power_25) (by kernel_rfl) ?_
    refine wpE_seq (x := c_towpathref01_power_8) (y := c_towpathref01_power_10) (by kernel_rfl) ?_
    refine wpE_region (id := 2) (ops := r_towpathref01_power_8) (by kernel_rfl) ?_
    refine reg_run [.plain] 1 [(0, [], Value.int .i64 n_), (3, [], Value.int .u64 1), (4, [], Value.int .i64 0)] (by kernel_rfl) (by kernel_rfl) ?_
    refine reg_end [(0, Value.int .i64 n_), (3, Value.int .u64 1), (4, Value.int .i64 0)] (by kernel_rfl) (by kernel_rfl) ?_
    change WpE _ _ c_towpathref01_power_10 _ _ _
    refine wpE_block (id := 0) (x := c_towpathref01_power_11) (by kernel_rfl) ?_
    obtain ⟨I, μ, h0, hr⟩ := h
    refine wpE_loop (x := c_towpathref01_power_12) (by kernel_rfl) (fun m l w => ∃ (p : Int) (i : Int), l = [(0, Value.int .i64 n_), (3, Value.int .u64 p), (4, Value.int .i64 i)] ∧ I p i w ∧ μ p i w = m) (l' := [(0, Value.int .i64 n_), (3, Value.int .u64 1), (4, Value.int .i64 0)]) (Sub.mk (by kernel_rfl)) ⟨1, 0, rfl, h0, rfl⟩ ?_
    rintro _ _ w1 ⟨p, i, rfl, hI, rfl⟩
    obtain ⟨again_, again__h, h⟩ : ∃ again_ : Int → Int → World → Prop, (∀ p' i' w', again_ p' i' w' → I p' i' w' ∧ μ p' i' w' < μ p i w1) ∧ F_towpathref01_power_L0 n_ R again_ p i w1 := ⟨_, fun _ _ _ h => h, hr p i w1 hI⟩
    clear h0 hI
    unfold F_towpathref01_power_L0 at h
    refine wpE_seq (x := c_towpathref01_power_13) (y := c_towpathref01_power_19) (by kernel_rfl) ?_
    refine wpE_seq (x := c_towpathref01_power_14) (y := c_towpathref01_power_16) (by kernel_rfl) ?_
    refine wpE_region (id := 3) (ops := r_towpathref01_power_14) (by kernel_rfl) ?_
    refine reg_run [.plain, .plain, .plain] 3 [(0, [], Value.int .i64 n_), (3, [], Value.int .u64 p), (4, [], Value.int .i64 i), (7, [], Value.bool (decide (i < n_)))] (by kernel_rfl) (by kernel_rfl) ?_
    refine reg_end [(0, Value.int .i64 n_), (3, Value.int .u64 p), (4, Value.int .i64 i), (7, Value.bool (decide (i < n_)))] (by kernel_rfl) (by kernel_rfl) ?_
    change WpE _ _ c_towpathref01_power_16 _ _ _
    refine wpE_cond (o := (Operand.tmp 7)) (b := (decide (i < n_))) (x := c_towpathref01_power_17) (y := c_towpathref01_power_18) (by kernel_rfl) (by kernel_rfl) (fun hb => ?_) (fun hb => ?_)
    · replace h := h.1 hb
      refine wpE_skip (by kernel_rfl) ?_
      change WpE _ _ c_towpathref01_power_19 _ _ _
      refine wpE_seq (x := c_towpathref01_power_20) (y := c_towpathref01_power_23) (by kernel_rfl) ?_
      refine wpE_block (id := 1) (x := c_towpathref01_power_21) (by kernel_rfl) ?_
      refine wpE_region (id := 5) (ops := r_towpathref01_power_21) (by kernel_rfl) ?_
      refine reg_run [.plain, .plain, .plain] 3 [(0, [], Value.int .i64 n_), (3, [], Value.int .u64 (IntKind.u64.wrap (2 * p))), (4, [], Value.int .i64 i)] (by kernel_rfl) (by kernel_rfl) ?_
      refine reg_end [(0, Value.int .i64 n_), (3, Value.int .u64 (IntKind.u64.wrap (2 * p))), (4, Value.int .i64 i)] (by kernel_rfl) (by kernel_rfl) ?_
      change WpE _ _ c_towpathref01_power_23 _ _ _
      refine wpE_region (id := 4) (ops := r_towpathref01_power_23) (by kernel_rfl) ?_
      refine reg_run [.plain, .plain, .plain] 3 [(0, [], Value.int .i64 n_), (3, [], Value.int .u64 (IntKind.u64.wrap (2 * p))), (4, [], Value.int .i64 (IntKind.i64.wrap (i + 1)))] (by kernel_rfl) (by kernel_rfl) ?_
      refine reg_end [(0, Value.int .i64 n_), (3, Value.int .u64 (IntKind.u64.wrap (2 * p))), (4, Value.int .i64 (IntKind.i64.wrap (i + 1)))] (by kernel_rfl) (by kernel_rfl) ?_
      have hb_ := again__h _ _ _ h
      exact ⟨_, hb_.2, [(0, Value.int .i64 n_), (3, Value.int .u64 (IntKind.u64.wrap (2 * p))), (4, Value.int .i64 (IntKind.i64.wrap (i + 1)))], Sub.mk (by kernel_rfl), (IntKind.u64.wrap (2 * p)), (IntKind.i64.wrap (i + 1)), rfl, hb_.1, rfl⟩
    · replace h := h.2 hb
      refine wpE_exit (id := 0) (by kernel_rfl) ?_
      change WpE _ _ c_towpathref01_power_25 _ _ _
      refine wpE_seq (x := c_towpathref01_power_26) (y := c_towpathref01_power_28) (by kernel_rfl) ?_
      refine wpE_region (id := 6) (ops := r_towpathref01_power_26) (by kernel_rfl) ?_
      refine reg_run [.plain, .plain] 2 [(2, [], Value.int .u64 p)] (by kernel_rfl) (by kernel_rfl) ?_
      refine reg_end [(2, Value.int .u64 p)] (by kernel_rfl) (by kernel_rfl) ?_
      change WpE _ _ c_towpathref01_power_28 _ _ _
      refine wpE_ret (by kernel_rfl) ?_
      repeat (first | refine seqQ_ret ?_ | refine blockQ_ret ?_ | refine loopQ_ret ?_ | refine cutQ_ret ?_)
      exact retS (rs := [(Go.ResultVar.tmp 2)]) (v := Value.int .u64 p) (by kernel_rfl) (⟨by kernel_rfl, trivial⟩) ⟨p, rfl, h⟩
  · rintro e w' ⟨v, rfl, r0, rfl, h⟩; exact ⟨r0, rfl, h⟩

/-! ### math/bits.RotateLeft32 (function 61) -/
noncomputable def c_math_bits_RotateLeft32_0 : Code := (Try.f61.body).getD Code.skip
noncomputable def c_math_bits_RotateLeft32_1 : Code := Code.l c_math_bits_RotateLeft32_0
noncomputable def r_math_bits_RotateLeft32_1 : Array Oper := Code.ops c_math_bits_RotateLeft32_1
noncomputable def c_math_bits_RotateLeft32_3 : Code := Code.r c_math_bits_RotateLeft32_0
noncomputable def c_math_bits_RotateLeft32_4 : Code := Code.l c_math_bits_RotateLeft32_3
noncomputable def r_math_bits_RotateLeft32_4 : Array Oper := Code.ops c_math_bits_RotateLeft32_4
noncomputable def c_math_bits_RotateLeft32_6 : Code := Code.r c_math_bits_RotateLeft32_3
noncomputable def c_math_bits_RotateLeft32_7 : Code := Code.l c_math_bits_RotateLeft32_6
noncomputable def r_math_bits_RotateLeft32_7 : Array Oper := Code.ops c_math_bits_RotateLeft32_7
noncomputable def c_math_bits_RotateLeft32_9 : Code := Code.r c_math_bits_RotateLeft32_6

set_option maxRecDepth 100000 in
theorem S_math_bits_RotateLeft32 {x : Int} {k : Int} {w : World} {R : Int → World → Prop} (h : F_math_bits_RotateLeft32 x k R w) : C_math_bits_RotateLeft32 x k w R := by
  unfold F_math_bits_RotateLeft32 at h
  unfold C_math_bits_RotateLeft32
  refine Calls.mono (calls_of_wpE (args := [Value.int .u32 x, Value.int .i64 k]) (R := fun v w' => ∃ (r0 : Int), v = Value.int .u32 r0 ∧ R r0 w') Try.func61 (c := c_math_bits_RotateLeft32_0) (by kernel_rfl) 17 (by kernel_rfl) (by kernel_rfl) [(0, Value.int .u32 x), (1, Value.int .i64 k)] (by kernel_rfl) ?_) ?_
  · refine wpE_seq (x := c_math_bits_RotateLeft32_1) (y := c_math_bits_RotateLeft32_3) (by kernel_rfl) ?_
    refine wpE_region (id := 0) (ops := r_math_bits_RotateLeft32_1) (by kernel_rfl) ?_
    refine reg_run [.plain] 1 [(0, [], Value.int .u32 x), (1, [], Value.int .i64 k)] (by kernel_rfl) (by kernel_rfl) ?_
    refine reg_end [(0, Value.int .u32 x), (1, Value.int .i64 k)] (by kernel_rfl) (by kernel_rfl) ?_
    change WpE _ _ c_math_bits_RotateLeft32_3 _ _ _
    refine wpE_seq (x := c_math_bits_RotateLeft32_4) (y := c_math_bits_RotateLeft32_6) (by kernel_rfl) ?_
    refine wpE_region (id := 1) (ops := r_math_bits_RotateLeft32_4) (by kernel_rfl) ?_
    refine reg_run [.plain, .plain, .plain, .plain] 4 [(0, [], Value.int .u32 x), (5, [], Value.int .u64 (band .u64 (IntKind.u64.wrap k) 31))] (by kernel_rfl) (by kernel_rfl) ?_
    refine reg_end [(0, Value.int .u32 x), (5, Value.int .u64 (band .u64 (IntKind.u64.wrap k) 31))] (by kernel_rfl) (by kernel_rfl) ?_
    change WpE _ _ c_math_bits_RotateLeft32_6 _ _ _
    refine wpE_seq (x := c_math_bits_RotateLeft32_7) (y := c_math_bits_RotateLeft32_9) (by kernel_rfl) ?_
    refine wpE_region (id := 2) (ops := r_math_bits_RotateLeft32_7) (by kernel_rfl) ?_
    refine reg_run [.plain, .plain] 2 [(0, [], Value.int .u32 x), (5, [], Value.int .u64 (band .u64 (IntKind.u64.wrap k) 31)), (9, [], Value.int .u32 x), (10, [], Value.int .u64 (band .u64 (IntKind.u64.wrap k) 31))] (by kernel_rfl) (by kernel_rfl) ?_
    obtain ⟨h0, h⟩ := h
    refine reg_val (op := (Go.Op.binOp Go.BinOp.shl 39 (Go.Operand.tmp 9) (Go.Operand.tmp 10) 89)) (ty := 39) (dst := some 11) (Value.int .u32 (IntKind.u32.wrap (x * 2 ^ (min (band .u64 (IntKind.u64.wrap k) 31).toNat 32)))) (by kernel_rfl) (fun ww => run_shl (k' := .u64) (by kernel_rfl) (by kernel_rfl) (by kernel_rfl) h0 ww) ?_
    refine reg_run [.plain, .plain, .plain] 6 [(11, [], Value.int .u32 (IntKind.u32.wrap (x * 2 ^ (min (band .u64 (IntKind.u64.wrap k) 31).toNat 32)))), (12, [], Value.int .u32 x), (14, [], Value.int .u64 (IntKind.u64.wrap (32 - (band .u64 (IntKind.u64.wrap k) 31))))] (by kernel_rfl) (by kernel_rfl) ?_
    obtain ⟨h0, h⟩ := h
    refine reg_val (op := (Go.Op.binOp Go.BinOp.shr 39 (Go.Operand.tmp 12) (Go.Operand.tmp 14) 89)) (ty := 39) (dst := some 15) (Value.int .u32 (Int.fdiv x (2 ^ (min (IntKind.u64.wrap (32 - (band .u64 (IntKind.u64.wrap k) 31))).toNat 32)))) (by kernel_rfl) (fun ww => run_shr (k' := .u64) (by kernel_rfl) (by kernel_rfl) (by kernel_rfl) h0 ww) ?_
    refine reg_run [.plain, .plain] 9 [(4, [], Value.int .u32 (bor .u32 (IntKind.u32.wrap (x * 2 ^ (min (band .u64 (IntKind.u64.wrap k) 31).toNat 32))) (Int.fdiv x (2 ^ (min (IntKind.u64.wrap (32 - (band .u64 (IntKind.u64.wrap k) 31))).toNat 32)))))] (by kernel_rfl) (by kernel_rfl) ?_
    refine reg_end [(4, Value.int .u32 (bor .u32 (IntKind.u32.wrap (x * 2 ^ (min (band .u64 (IntKind.u64.wrap k) 31).toNat 32))) (Int.fdiv x (2 ^ (min (IntKind.u64.wrap (32 - (band .u64 (IntKind.u64.wrap k) 31))).toNat 32)))))] (by kernel_rfl) (by kernel_rfl) ?_
    change WpE _ _ c_math_bits_RotateLeft32_9 _ _ _
    refine wpE_ret (by kernel_rfl) ?_
    repeat (first | refine seqQ_ret ?_ | refine blockQ_ret ?_ | refine loopQ_ret ?_ | refine cutQ_ret ?_)
    exact retS (rs := [(Go.ResultVar.tmp 4)]) (v := Value.int .u32 (bor .u32 (IntKind.u32.wrap (x * 2 ^ (min (band .u64 (IntKind.u64.wrap k) 31).toNat 32))) (Int.fdiv x (2 ^ (min (IntKind.u64.wrap (32 - (band .u64 (IntKind.u64.wrap k) 31))).toNat 32))))) (by kernel_rfl) (⟨by kernel_rfl, trivial⟩) ⟨(bor .u32 (IntKind.u32.wrap (x * 2 ^ (min (band .u64 (IntKind.u64.wrap k) 31).toNat 32))) (Int.fdiv x (2 ^ (min (IntKind.u64.wrap (32 - (band .u64 (IntKind.u64.wrap k) 31))).toNat 32)))), rfl, h⟩
  · rintro e w' ⟨v, rfl, r0, rfl, h⟩; exact ⟨r0, rfl, h⟩

/-! ### towpath/num.many (function 62) -/
noncomputable def c_num_many_0 : Code := (Try.f62.body).getD Code.skip
noncomputable def c_num_many_1 : Code := Code.l c_num_many_0
noncomputable def r_num_many_1 : Array Oper := Code.ops c_num_many_1
noncomputable def c_num_many_3 : Code := Code.r c_num_many_0
noncomputable def c_num_many_4 : Code := Code.l c_num_many_3
noncomputable def r_num_many_4 : Array Oper := Code.ops c_num_many_4
noncomputable def c_num_many_6 : Code := Code.r c_num_many_3

set_option maxRecDepth 100000 in
theorem S_num_many {from_ : Int} {n_ : Int} {w : World} {R : Bool → World → Prop} (h : F_num_many from_ n_ R w) : C_num_many from_ n_ w R := by
  unfold F_num_many at h
  unfold C_num_many
  refine Calls.mono (calls_of_wpE (args := [Value.int .i64 from_, Value.int .i64 n_]) (R := fun v w' => ∃ (r0 : Bool), v = Value.bool r0 ∧ R r0 w') Try.func62 (c := c_num_many_0) (by kernel_rfl) 21 (by kernel_rfl) (by kernel_rfl) [(0, Value.int .i64 from_), (1, Value.int .i64 n_)] (by kernel_rfl) ?_) ?_
  · refine wpE_seq (x := c_num_many_1) (y := c_num_many_3) (by kernel_rfl) ?_
    refine wpE_region (id := 0) (ops := r_num_many_1) (by kernel_rfl) ?_
    refine reg_run [.plain] 1 [(0, [], Value.int .i64 from_), (1, [], Value.int .i64 n_)] (by kernel_rfl) (by kernel_rfl) ?_
    refine reg_end [(0, Value.int .i64 from_), (1, Value.int .i64 n_)] (by kernel_rfl) (by kernel_rfl) ?_
    change WpE _ _ c_num_many_3 _ _ _
    refine wpE_seq (x := c_num_many_4) (y := c_num_many_6) (by kernel_rfl) ?_
    refine wpE_region (id := 1) (ops := r_num_many_4) (by kernel_rfl) ?_
    refine reg_run [.plain, .plain, .plain, .plain, .plain, .pick, .plain, .plain, .plain, .pick, .plain, .plain, .plain, .plain, .plain, .pick, .plain] 17 [(4, [], Value.bool ((((decide (from_ ≥ 0)) && (decide (n_ ≥ 0))) && (decide (from_ ≤ 64))) && (decide (n_ ≤ (IntKind.i64.wrap (64 - from_))))))] (by kernel_rfl) (by kernel_rfl) ?_
    refine reg_end [(4, Value.bool ((((decide (from_ ≥ 0)) && (decide (n_ ≥ 0))) && (decide (from_ ≤ 64))) && (decide (n_ ≤ (IntKind.i64.wrap (64 - from_))))))] (by kernel_rfl) (by kernel_rfl) ?_
    change WpE _ _ c_num_many_6 _ _ _
    refine wpE_ret (by kernel_rfl) ?_
    repeat (first | refine seqQ_ret ?_ | refine blockQ_ret ?_ | refine loopQ_ret ?_ | refine cutQ_ret ?_)
    exact retS (rs := [(Go.ResultVar.tmp 4)]) (v := Value.bool ((((decide (from_ ≥ 0)) && (decide (n_ ≥ 0))) && (decide (from_ ≤ 64))) && (decide (n_ ≤ (IntKind.i64.wrap (64 - from_)))))) (by kernel_rfl) (⟨by kernel_rfl, trivial⟩) ⟨((((decide (from_ ≥ 0)) && (decide (n_ ≥ 0))) && (decide (from_ ≤ 64))) && (decide (n_ ≤ (IntKind.i64.wrap (64 - from_))))), rfl, h⟩
  · rintro e w' ⟨v, rfl, r0, rfl, h⟩; exact ⟨r0, rfl, h⟩

/-! ### towpath/towpathref01.Many (function 63) -/
noncomputable def c_towpathref01_Many_0 : Code := (Try.f63.body).getD Code.skip
noncomputable def c_towpathref01_Many_1 : Code := Code.l c_towpathref01_Many_0
noncomputable def r_towpathref01_Many_1 : Array Oper := Code.ops c_towpathref01_Many_1
noncomputable def c_towpathref01_Many_3 : Code := Code.r c_towpathref01_Many_0
noncomputable def c_towpathref01_Many_4 : Code := Code.l c_towpathref01_Many_3
noncomputable def r_towpathref01_Many_4 : Array Oper := Code.ops c_towpathref01_Many_4
noncomputable def c_towpathref01_Many_6 : Code := Code.r c_towpathref01_Many_3

set_option maxRecDepth 100000 in
theorem S_towpathref01_Many {from_ : Int} {n_ : Int} {w : World} {R : Bool → World → Prop} (h : F_towpathref01_Many from_ n_ R w) : C_towpathref01_Many from_ n_ w R := by
  unfold F_towpathref01_Many at h
  unfold C_towpathref01_Many
  refine Calls.mono (calls_of_wpE (args := [Value.int .i64 from_, Value.int .i64 n_]) (R := fun v w' => ∃ (r0 : Bool), v = Value.bool r0 ∧ R r0 w') Try.func63 (c := c_towpathref01_Many_0) (by kernel_rfl) 21 (by kernel_rfl) (by kernel_rfl) [(0, Value.int .i64 from_), (1, Value.int .i64 n_)] (by kernel_rfl) ?_) ?_
  · refine wpE_seq (x := c_towpathref01_Many_1) (y := c_towpathref01_Many_3) (by kernel_rfl) ?_
    refine wpE_region (id := 0) (ops := r_towpathref01_Many_1) (by kernel_rfl) ?_
    refine reg_run [.plain] 1 [(0, [], Value.int .i64 from_), (1, [], Value.int .i64 n_)] (by kernel_rfl) (by kernel_rfl) ?_
    refine reg_end [(0, Value.int .i64 from_), (1, Value.int .i64 n_)] (by kernel_rfl) (by kernel_rfl) ?_
    change WpE _ _ c_towpathref01_Many_3 _ _ _
    refine wpE_seq (x := c_towpathref01_Many_4) (y := c_towpathref01_Many_6) (by kernel_rfl) ?_
    refine wpE_region (id := 1) (ops := r_towpathref01_Many_4) (by kernel_rfl) ?_
    refine reg_run [.plain, .plain, .plain, .plain, .plain, .pick, .plain, .plain, .plain, .pick, .plain, .plain, .plain, .plain, .plain, .pick, .plain] 17 [(4, [], Value.bool ((((decide (from_ ≥ 0)) && (decide (n_ ≥ 0))) && (decide (from_ ≤ 64))) && (decide (n_ ≤ (IntKind.i64.wrap (64 - from_))))))] (by kernel_rfl) (by kernel_rfl) ?_
    refine reg_end [(4, Value.bool ((((decide (from_ ≥ 0)) && (decide (n_ ≥ 0))) && (decide (from_ ≤ 64))) && (decide (n_ ≤ (IntKind.i64.wrap (64 - from_))))))] (by kernel_rfl) (by kernel_rfl) ?_
    change WpE _ _ c_towpathref01_Many_6 _ _ _
    refine wpE_ret (by kernel_rfl) ?_
    repeat (first | refine seqQ_ret ?_ | refine blockQ_ret ?_ | refine loopQ_ret ?_ | refine cutQ_ret ?_)
    exact retS (rs := [(Go.ResultVar.tmp 4)]) (v := Value.bool ((((decide (from_ ≥ 0)) && (decide (n_ ≥ 0))) && (decide (from_ ≤ 64))) && (decide (n_ ≤ (IntKind.i64.wrap (64 - from_)))))) (by kernel_rfl) (⟨by kernel_rfl, trivial⟩) ⟨((((decide (from_ ≥ 0)) && (decide (n_ ≥ 0))) && (decide (from_ ≤ 64))) && (decide (n_ ≤ (IntKind.i64.wrap (64 - from_))))), rfl, h⟩
  · rintro e w' ⟨v, rfl, r0, rfl, h⟩; exact ⟨r0, rfl, h⟩

/-! ### towpath/towpathref01.bit (function 64) -/
noncomputable def c_towpathref01_bit_0 : Code := (Try.f64.body).getD Code.skip
noncomputable def c_towpathref01_bit_1 : Code := Code.l c_towpathref01_bit_0
noncomputable def r_towpathref01_bit_1 : Array Oper := Code.ops c_towpathref01_bit_1
noncomputable def c_towpathref01_bit_3 : Code := Code.r c_towpathref01_bit_0
noncomputable def c_towpathref01_bit_4 : Code := Code.l c_towpathref01_bit_3
noncomputable def c_towpathref01_bit_5 : Code := Code.l c_towpathref01_bit_4
noncomputable def r_towpathref01_bit_5 : Array Oper := Code.ops c_towpathref01_bit_5
noncomputable def c_towpathref01_bit_7 : Code := Code.r c_towpathref01_bit_4
noncomputable def c_towpathref01_bit_8 : Code := Code.l c_towpathref01_bit_7
noncomputable def c_towpathref01_bit_9 : Code := Code.l c_towpathref01_bit_8
noncomputable def c_towpathref01_bit_10 : Code := Code.l c_towpathref01_bit_9
noncomputable def c_towpathref01_bit_11 : Code := Code.l c_towpathref01_bit_10
noncomputable def r_towpathref01_bit_11 : Array Oper := Code.ops c_towpathref01_bit_11
noncomputable def c_towpathref01_bit_13 : Code := Code.r c_towpathref01_bit_10
noncomputable def c_towpathref01_bit_14 : Code := Code.l c_towpathref01_bit_13
noncomputable def c_towpathref01_bit_15 : Code := Code.r c_towpathref01_bit_13
noncomputable def c_towpathref01_bit_16 : Code := Code.r c_towpathref01_bit_9
noncomputable def c_towpathref01_bit_17 : Code := Code.l c_towpathref01_bit_16
noncomputable def c_towpathref01_bit_18 : Code := Code.l c_towpathref01_bit_17
noncomputable def r_towpathref01_bit_18 : Array Oper := Code.ops c_towpathref01_bit_18
noncomputable def c_towpathref01_bit_20 : Code := Code.r c_towpathref01_bit_16
noncomputable def r_towpathref01_bit_20 : Array Oper := Code.ops c_towpathref01_bit_20
noncomputable def c_towpathref01_bit_22 : Code := Code.r c_towpathref01_bit_3
noncomputable def c_towpathref01_bit_23 : Code := Code.l c_towpathref01_bit_22
noncomputable def r_towpathref01_bit_23 : Array Oper := Code.ops c_towpathref01_bit_23
noncomputable def c_towpathref01_bit_25 : Code := Code.r c_towpathref01_bit_22

set_option maxRecDepth 100000 in
theorem S_towpathref01_bit {x : Int} {at_ : Int} {w : World} {R : Int → World → Prop} (h : F_towpathref01_bit x at_ R w) : C_towpathref01_bit x at_ w R := by
  unfold F_towpathref01_bit at h
  unfold C_towpathref01_bit
  refine Calls.mono (calls_of_wpE (args := [Value.int .u64 x, Value.int .i64 at_]) (R := fun v w' => ∃ (r0 : Int), v = Value.int .u64 r0 ∧ R r0 w') Try.func64 (c := c_towpathref01_bit_0) (by kernel_rfl) 15 (by kernel_rfl) (by kernel_rfl) [(0, Value.int .u64 x), (1, Value.int .i64 at_)] (by kernel_rfl) ?_) ?_
  · refine wpE_seq (x := c_towpathref01_bit_1) (y := c_towpathref01_bit_3) (by kernel_rfl) ?_
    refine wpE_region (id := 0) (ops := r_towpathref01_bit_1) (by kernel_rfl) ?_
    refine reg_run [.plain] 1 [(0, [], Value.int .u64 x), (1, [], Value.int .i64 at_)] (by kernel_rfl) (by kernel_rfl) ?_
    refine reg_end [(0, Value.int .u64 x), (1, Value.int .i64 at_)] (by kernel_rfl) (by kernel_rfl) ?_
    change WpE _ _ c_towpathref01_bit_3 _ _ _
    refine wpE_seq (x := c_towpathref01_bit_4) (y := c_towpathref01_bit_22) (by kernel_rfl) ?_
    refine wpE_seq (x := c_towpathref01_bit_5) (y := c_towpathref01_bit_7) (by kernel_rfl) ?_
    refine wpE_region (id := 1) (ops := r_towpathref01_bit_5) (by kernel_rfl) ?_
    refine reg_run [.plain] 1 [(0, [], Value.int .u64 x), (1, [], Value.int .i64 at_), (5, [], Value.int .i64 0)] (by kernel_rfl) (by kernel_rfl) ?_
    refine reg_end [(0, Value.int .u64 x), (1, Value.int .i64 at_), (5, Value.int .i64 0)] (by kernel_rfl) (by kernel_rfl) ?_
    change WpE _ _ c_towpathref01_bit_7 _ _ _
    refine wpE_block (id := 0) (x := c_towpathref01_bit_8) (by kernel_rfl) ?_
    obtain ⟨I, μ, h0, hr⟩ := h
    refine wpE_loop (x := c_towpathref01_bit_9) (by kernel_rfl) (fun m l w => ∃ (x1 : Int) (i : Int), l = [(0, Value.int .u64 x1), (1, Value.int .i64 at_), (5, Value.int .i64 i)] ∧ I x1 i w ∧ μ x1 i w = m) (l' := [(0, Value.int .u64 x), (1, Value.int .i64 at_), (5, Value.int .i64 0)]) (Sub.mk (by kernel_rfl)) ⟨x, 0, rfl, h0, rfl⟩ ?_
    rintro _ _ w1 ⟨x1, i, rfl, hI, rfl⟩
    obtain ⟨again_, again__h, h⟩ : ∃ again_ : Int → Int → World → Prop, (∀ x1' i' w', again_ x1' i' w' → I x1' i' w' ∧ μ x1' i' w' < μ x1 i w1) ∧ F_towpathref01_bit_L0 at_ R again_ x1 i w1 := ⟨_, fun _ _ _ h => h, hr x1 i w1 hI⟩
    clear h0 hI
    unfold F_towpathref01_bit_L0 at h
    refine wpE_seq (x := c_towpathref01_bit_10) (y := c_towpathref01_bit_16) (by kernel_rfl) ?_
    refine wpE_seq (x := c_towpathref01_bit_11) (y := c_towpathref01_bit_13) (by kernel_rfl) ?_
    refine wpE_region (id := 2) (ops := r_towpathref01_bit_11) (by kernel_rfl) ?_
    refine reg_run [.plain, .plain, .plain] 3 [(0, [], Value.int .u64 x1), (1, [], Value.int .i64 at_), (5, [], Value.int .i64 i), (8, [], Value.bool (decide (i < at_)))] (by kernel_rfl) (by kernel_rfl) ?_
    refine reg_end [(0, Value.int .u64 x1), (1, Value.int .i64 at_), (5, Value.int .i64 i), (8, Value.bool (decide (i < at_)))] (by kernel_rfl) (by kernel_rfl) ?_
    change WpE _ _ c_towpathref01_bit_13 _ _ _
    refine wpE_cond (o := (Operand.tmp 8)) (b := (decide (i < at_))) (x := c_towpathref01_bit_14) (y := c_towpathref01_bit_15) (by kernel_rfl) (by kernel_rfl) (fun hb => ?_) (fun hb => ?_)
    · replace h := h.1 hb
      refine wpE_skip (by kernel_rfl) ?_
      change WpE _ _ c_towpathref01_bit_16 _ _ _
      refine wpE_seq (x := c_towpathref01_bit_17) (y := c_towpathref01_bit_20) (by kernel_rfl) ?_
      refine wpE_block (id := 1) (x := c_towpathref01_bit_18) (by kernel_rfl) ?_
      refine wpE_region (id := 4) (ops := r_towpathref01_bit_18) (by kernel_rfl) ?_
      refine reg_run [.plain, .plain, .plain] 3 [(0, [], Value.int .u64 (IntKind.u64.wrap (Int.tdiv x1 2))), (1, [], Value.int .i64 at_), (5, [], Value.int .i64 i)] (by kernel_rfl) (by kernel_rfl) ?_
      refine reg_end [(0, Value.int .u64 (IntKind.u64.wrap (Int.tdiv x1 2))), (1, Value.int .i64 at_), (5, Value.int .i64 i)] (by kernel_rfl) (by kernel_rfl) ?_
      change WpE _ _ c_towpathref01_bit_20 _ _ _
      refine wpE_region (id := 3) (ops := r_towpathref01_bit_20) (by kernel_rfl) ?_
      refine reg_run [.plain, .plain, .plain] 3 [(0, [], Value.int .u64 (IntKind.u64.wrap (Int.tdiv x1 2))), (1, [], Value.int .i64 at_), (5, [], Value.int .i64 (IntKind.i64.wrap (i + 1)))] (by kernel_rfl) (by kernel_rfl) ?_
      refine reg_end [(0, Value.int .u64 (IntKind.u64.wrap (Int.tdiv x1 2))), (1, Value.int .i64 at_), (5, Value.int .i64 (IntKind.i64.wrap (i + 1)))] (by kernel_rfl) (by kernel_rfl) ?_
      have hb_ := again__h _ _ _ h
      exact ⟨_, hb_.2, [(0, Value.int .u64 (IntKind.u64.wrap (Int.tdiv x1 2))), (1, Value.int .i64 at_), (5, Value.int .i64 (IntKind.i64.wrap (i + 1)))], Sub.mk (by kernel_rfl), (IntKind.u64.wrap (Int.tdiv x1 2)), (IntKind.i64.wrap (i + 1)), rfl, hb_.1, rfl⟩
    · replace h := h.2 hb
      refine wpE_exit (id := 0) (by kernel_rfl) ?_
      change WpE _ _ c_towpathref01_bit_22 _ _ _
      refine wpE_seq (x := c_towpathref01_bit_23) (y := c_towpathref01_bit_25) (by kernel_rfl) ?_
      refine wpE_region (id := 5) (ops := r_towpathref01_bit_23) (by kernel_rfl) ?_
      refine reg_run [.plain, .plain, .plain] 3 [(4, [], Value.int .u64 (Int.tmod x1 2))] (by kernel_rfl) (by kernel_rfl) ?_
      refine reg_end [(4, Value.int .u64 (Int.tmod x1 2))] (by kernel_rfl) (by kernel_rfl) ?_
      change WpE _ _ c_towpathref01_bit_25 _ _ _
      refine wpE_ret (by kernel_rfl) ?_
      repeat (first | refine seqQ_ret ?_ | refine blockQ_ret ?_ | refine loopQ_ret ?_ | refine cutQ_ret ?_)
      exact retS (rs := [(Go.ResultVar.tmp 4)]) (v := Value.int .u64 (Int.tmod x1 2)) (by kernel_rfl) (⟨by kernel_rfl, trivial⟩) ⟨(Int.tmod x1 2), rfl, h⟩
  · rintro e w' ⟨v, rfl, r0, rfl, h⟩; exact ⟨r0, rfl, h⟩

/-! ### towpath/sum.table (function 65) -/
noncomputable def c_sum_table_0 : Code := (Try.f65.body).getD Code.skip
noncomputable def c_sum_table_1 : Code := Code.l c_sum_table_0
noncomputable def r_sum_table_1 : Array Oper := Code.ops c_sum_table_1
noncomputable def c_sum_table_3 : Code := Code.r c_sum_table_0
noncomputable def c_sum_table_4 : Code := Code.l c_sum_table_3
noncomputable def r_sum_table_4 : Array Oper := Code.ops c_sum_table_4
noncomputable def c_sum_table_6 : Code := Code.r c_sum_table_3
noncomputable def c_sum_table_7 : Code := Code.l c_sum_table_6
noncomputable def c_sum_table_8 : Code := Code.l c_sum_table_7
noncomputable def r_sum_table_8 : Array Oper := Code.ops c_sum_table_8
noncomputable def c_sum_table_10 : Code := Code.r c_sum_table_7
noncomputable def c_sum_table_11 : Code := Code.l c_sum_table_10
noncomputable def c_sum_table_12 : Code := Code.l c_sum_table_11
noncomputable def c_sum_table_13 : Code := Code.l c_sum_table_12
noncomputable def r_sum_table_13 : Array Oper := Code.ops c_sum_table_13
noncomputable def c_sum_table_15 : Code := Code.r c_sum_table_12
noncomputable def c_sum_table_16 : Code := Code.l c_sum_table_15
noncomputable def c_sum_table_17 : Code := Code.l c_sum_table_16
noncomputable def c_sum_table_18 : Code := Code.r c_sum_table_16
noncomputable def c_sum_table_19 : Code := Code.r c_sum_table_15
noncomputable def c_sum_table_20 : Code := Code.l c_sum_table_19
noncomputable def c_sum_table_21 : Code := Code.l c_sum_table_20
noncomputable def c_sum_table_22 : Code := Code.l c_sum_table_21
noncomputable def r_sum_table_22 : Array Oper := Code.ops c_sum_table_22
noncomputable def c_sum_table_24 : Code := Code.r c_sum_table_21
noncomputable def c_sum_table_25 : Code := Code.l c_sum_table_24
noncomputable def r_sum_table_25 : Array Oper := Code.ops c_sum_table_25
noncomputable def c_sum_table_27 : Code := Code.r c_sum_table_24
noncomputable def c_sum_table_28 : Code := Code.l c_sum_table_27
noncomputable def c_sum_table_29 : Code := Code.l c_sum_table_28
noncomputable def r_sum_table_29 : Array Oper := Code.ops c_sum_table_29
noncomputable def c_sum_table_31 : Code := Code.r c_sum_table_28
noncomputable def c_sum_table_32 : Code := Code.l c_sum_table_31
noncomputable def c_sum_table_33 : Code := Code.l c_sum_table_32
noncomputable def c_sum_table_34 : Code := Code.l c_sum_table_33
noncomputable def r_sum_table_34 : Array Oper := Code.ops c_sum_table_34
noncomputable def c_sum_table_36 : Code := Code.r c_sum_table_33
noncomputable def c_sum_table_37 : Code := Code.l c_sum_table_36
noncomputable def c_sum_table_38 : Code := Code.l c_sum_table_37
noncomputable def c_sum_table_39 : Code := Code.r c_sum_table_37
noncomputable def c_sum_table_40 : Code := Code.r c_sum_table_36
noncomputable def c_sum_table_41 : Code := Code.l c_sum_table_40
noncomputable def c_sum_table_42 : Code := Code.l c_sum_table_41
noncomputable def r_sum_table_42 : Array Oper := Code.ops c_sum_table_42
noncomputable def c_sum_table_44 : Code := Code.r c_sum_table_40
noncomputable def r_sum_table_44 : Array Oper := Code.ops c_sum_table_44
noncomputable def c_sum_table_46 : Code := Code.r c_sum_table_27
noncomputable def r_sum_table_46 : Array Oper := Code.ops c_sum_table_46
noncomputable def c_sum_table_48 : Code := Code.r c_sum_table_19
noncomputable def r_sum_table_48 : Array Oper := Code.ops c_sum_table_48
noncomputable def c_sum_table_50 : Code := Code.r c_sum_table_6
noncomputable def c_sum_table_51 : Code := Code.l c_sum_table_50
noncomputable def r_sum_table_51 : Array Oper := Code.ops c_sum_table_51
noncomputable def c_sum_table_53 : Code := Code.r c_sum_table_50

set_option maxRecDepth 100000 in
theorem S_sum_table {w : World} {R : List Int → World → Prop} (h : F_sum_table R w) : C_sum_table w R := by
  unfold F_sum_table at h
  unfold C_sum_table
  refine Calls.mono (calls_of_wpE (args := []) (R := fun v w' => ∃ (r0 : List Int), r0.length = 256 ∧ v = Value.agg (List.map (Value.int .u32) r0).toArray ∧ R r0 w') Try.func65 (c := c_sum_table_0) (by kernel_rfl) 24 (by kernel_rfl) (by kernel_rfl) [] (by kernel_rfl) ?_) ?_
  · refine wpE_seq (x := c_sum_table_1) (y := c_sum_table_3) (by kernel_rfl) ?_
    refine wpE_region (id := 0) (ops := r_sum_table_1) (by kernel_rfl) ?_
    refine reg_run [] 0 [] (by kernel_rfl) (by kernel_rfl) ?_
    refine reg_new (op := (Go.Op.alloc 92)) (ty := 0) (dst := some 0) (fun bb => Value.pointer (some ⟨bb, 0, none⟩)) (Obj.cells ((List.map (Value.int .u32) (List.replicate 256 0))).toArray ty_256_uint32 (0, 0)) (by kernel_rfl) (by kernel_rfl) (fun b_ w1 hb hw => ?_)
    replace h := h b_ w1 hb hw
    clear hb hw
    refine reg_end [(0, Value.pointer (some ⟨b_, 0, none⟩))] (by kernel_rfl) (by kernel_rfl) ?_
    change WpE _ _ c_sum_table_3 _ _ _
    refine wpE_seq (x := c_sum_table_4) (y := c_sum_table_6) (by kernel_rfl) ?_
    refine wpE_region (id := 1) (ops := r_sum_table_4) (by kernel_rfl) ?_
    refine reg_run [] 0 [(0, [], Value.pointer (some ⟨b_, 0, none⟩))] (by kernel_rfl) (by kernel_rfl) ?_
    refine reg_new (op := (Go.Op.alloc 92)) (ty := 0) (dst := some 1) (fun bb => Value.pointer (some ⟨bb, 0, none⟩)) (Obj.cells ((List.map (Value.int .u32) (List.replicate 256 0))).toArray ty_256_uint32 (0, 0)) (by kernel_rfl) (by kernel_rfl) (fun b_1 w2 hb hw => ?_)
    replace h := h b_1 w2 hb hw
    clear hb hw
    refine reg_end [(0, Value.pointer (some ⟨b_, 0, none⟩)), (1, Value.pointer (some ⟨b_1, 0, none⟩))] (by kernel_rfl) (by kernel_rfl) ?_
    change WpE _ _ c_sum_table_6 _ _ _
    refine wpE_seq (x := c_sum_table_7) (y := c_sum_table_50) (by kernel_rfl) ?_
    refine wpE_seq (x := c_sum_table_8) (y := c_sum_table_10) (by kernel_rfl) ?_
    refine wpE_region (id := 2) (ops := r_sum_table_8) (by kernel_rfl) ?_
    refine reg_run [.plain] 1 [(0, [], Value.pointer (some ⟨b_, 0, none⟩)), (1, [], Value.pointer (some ⟨b_1, 0, none⟩)), (4, [], Value.int .i64 0)] (by kernel_rfl) (by kernel_rfl) ?_
    refine reg_end [(0, Value.pointer (some ⟨b_, 0, none⟩)), (1, Value.pointer (some ⟨b_1, 0, none⟩)), (4, Value.int .i64 0)] (by kernel_rfl) (by kernel_rfl) ?_
    change WpE _ _ c_sum_table_10 _ _ _
    refine wpE_block (id := 0) (x := c_sum_table_11) (by kernel_rfl) ?_
    obtain ⟨I, μ, h0, hr⟩ := h
    refine wpE_loop (x := c_sum_table_12) (by kernel_rfl) (fun m l w => ∃ (t4 : Int), l = [(0, Value.pointer (some ⟨b_, 0, none⟩)), (1, Value.pointer (some ⟨b_1, 0, none⟩)), (4, Value.int .i64 t4)] ∧ I t4 w ∧ μ t4 w = m) (l' := [(0, Value.pointer (some ⟨b_, 0, none⟩)), (1, Value.pointer (some ⟨b_1, 0, none⟩)), (4, Value.int .i64 0)]) (Sub.mk (by kernel_rfl)) ⟨0, rfl, h0, rfl⟩ ?_
    rintro _ _ w3 ⟨t4, rfl, hI, rfl⟩
    obtain ⟨again_, again__h, h⟩ : ∃ again_ : Int → World → Prop, (∀ t4' w', again_ t4' w' → I t4' w' ∧ μ t4' w' < μ t4 w3) ∧ F_sum_table_L0 R b_ b_1 again_ t4 w3 := ⟨_, fun _ _ h => h, hr t4 w3 hI⟩
    clear h0 hI
    unfold F_sum_table_L0 at h
    refine wpE_seq (x := c_sum_table_13) (y := c_sum_table_15) (by kernel_rfl) ?_
    refine wpE_region (id := 3) (ops := r_sum_table_13) (by kernel_rfl) ?_
    refine reg_run [.plain] 1 [(0, [], Value.pointer (some ⟨b_, 0, none⟩)), (1, [], Value.pointer (some ⟨b_1, 0, none⟩)), (4, [], Value.int .i64 t4), (5, [], Value.bool (decide (t4 < 256)))] (by kernel_rfl) (by kernel_rfl) ?_
    refine reg_end [(0, Value.pointer (some ⟨b_, 0, none⟩)), (1, Value.pointer (some ⟨b_1, 0, none⟩)), (4, Value.int .i64 t4), (5, Value.bool (decide (t4 < 256)))] (by kernel_rfl) (by kernel_rfl) ?_
    change WpE _ _ c_sum_table_15 _ _ _
    refine wpE_seq (x := c_sum_table_16) (y := c_sum_table_19) (by kernel_rfl) ?_
    refine wpE_cond (o := (Operand.tmp 5)) (b := (decide (t4 < 256))) (x := c_sum_table_17) (y := c_sum_table_18) (by kernel_rfl) (by kernel_rfl) (fun hb => ?_) (fun hb => ?_)
    · replace h := h.1 hb
      refine wpE_skip (by kernel_rfl) ?_
      change WpE _ _ c_sum_table_19 _ _ _
      refine wpE_seq (x := c_sum_table_20) (y := c_sum_table_48) (by kernel_rfl) ?_
      refine wpE_block (id := 1) (x := c_sum_table_21) (by kernel_rfl) ?_
      refine wpE_seq (x := c_sum_table_22) (y := c_sum_table_24) (by kernel_rfl) ?_
      refine wpE_region (id := 4) (ops := r_sum_table_22) (by kernel_rfl) ?_
      refine reg_run [.plain, .plain] 2 [(0, [], Value.pointer (some ⟨b_, 0, none⟩)), (1, [], Value.pointer (some ⟨b_1, 0, none⟩)), (2, [], Value.int .i64 t4), (4, [], Value.int .i64 t4)] (by kernel_rfl) (by kernel_rfl) ?_
      refine reg_end [(0, Value.pointer (some ⟨b_, 0, none⟩)), (1, Value.pointer (some ⟨b_1, 0, none⟩)), (2, Value.int .i64 t4), (4, Value.int .i64 t4)] (by kernel_rfl) (by kernel_rfl) ?_
      change WpE _ _ c_sum_table_24 _ _ _
      refine wpE_seq (x := c_sum_table_25) (y := c_sum_table_27) (by kernel_rfl) ?_
      refine wpE_region (id := 5) (ops := r_sum_table_25) (by kernel_rfl) ?_
      refine reg_run [.plain, .plain, .plain] 3 [(0, [], Value.pointer (some ⟨b_, 0, none⟩)), (1, [], Value.pointer (some ⟨b_1, 0, none⟩)), (2, [], Value.int .i64 t4), (3, [], Value.int .u32 (IntKind.u32.wrap t4)), (4, [], Value.int .i64 t4)] (by kernel_rfl) (by kernel_rfl) ?_
      refine reg_end [(0, Value.pointer (some ⟨b_, 0, none⟩)), (1, Value.pointer (some ⟨b_1, 0, none⟩)), (2, Value.int .i64 t4), (3, Value.int .u32 (IntKind.u32.wrap t4)), (4, Value.int .i64 t4)] (by kernel_rfl) (by kernel_rfl) ?_
      change WpE _ _ c_sum_table_27 _ _ _
      refine wpE_seq (x := c_sum_table_28) (y := c_sum_table_46) (by kernel_rfl) ?_
      refine wpE_seq (x := c_sum_table_29) (y := c_sum_table_31) (by kernel_rfl) ?_
      refine wpE_region (id := 6) (ops := r_sum_table_29) (by kernel_rfl) ?_
      refine reg_run [.plain] 1 [(0, [], Value.pointer (some ⟨b_, 0, none⟩)), (1, [], Value.pointer (some ⟨b_1, 0, none⟩)), (2, [], Value.int .i64 t4), (3, [], Value.int .u32 (IntKind.u32.wrap t4)), (4, [], Value.int .i64 t4), (9, [], Value.int .i64 0)] (by kernel_rfl) (by kernel_rfl) ?_
      refine reg_end [(0, Value.pointer (some ⟨b_, 0, none⟩)), (1, Value.pointer (some ⟨b_1, 0, none⟩)), (2, Value.int .i64 t4), (3, Value.int .u32 (IntKind.u32.wrap t4)), (4, Value.int .i64 t4), (9, Value.int .i64 0)] (by kernel_rfl) (by kernel_rfl) ?_
      change WpE _ _ c_sum_table_31 _ _ _
      refine wpE_block (id := 2) (x := c_sum_table_32) (by kernel_rfl) ?_
      obtain ⟨I, μ, h0, hr⟩ := h
      refine wpE_loop (x := c_sum_table_33) (by kernel_rfl) (fun m l w => ∃ (c : Int) (t9 : Int), l = [(0, Value.pointer (some ⟨b_, 0, none⟩)), (1, Value.pointer (some ⟨b_1, 0, none⟩)), (2, Value.int .i64 t4), (3, Value.int .u32 c), (4, Value.int .i64 t4), (9, Value.int .i64 t9)] ∧ I c t9 w ∧ μ c t9 w = m) (l' := [(0, Value.pointer (some ⟨b_, 0, none⟩)), (1, Value.pointer (some ⟨b_1, 0, none⟩)), (2, Value.int .i64 t4), (3, Value.int .u32 (IntKind.u32.wrap t4)), (4, Value.int .i64 t4), (9, Value.int .i64 0)]) (Sub.mk (by kernel_rfl)) ⟨(IntKind.u32.wrap t4), 0, rfl, h0, rfl⟩ ?_
      rintro _ _ w4 ⟨c, t9, rfl, hI, rfl⟩
      obtain ⟨again_1, again_1_h, h⟩ : ∃ again_1 : Int → Int → World → Prop, (∀ c' t9' w', again_1 c' t9' w' → I c' t9' w' ∧ μ c' t9' w' < μ c t9 w4) ∧ F_sum_table_L1 b_1 t4 again_ again_1 c t9 w4 := ⟨_, fun _ _ _ h => h, hr c t9 w4 hI⟩
      clear h0 hI
      unfold F_sum_table_L1 at h
      refine wpE_seq (x := c_sum_table_34) (y := c_sum_table_36) (by kernel_rfl) ?_
      refine wpE_region (id := 7) (ops := r_sum_table_34) (by kernel_rfl) ?_
      refine reg_run [.plain] 1 [(0, [], Value.pointer (some ⟨b_, 0, none⟩)), (1, [], Value.pointer (some ⟨b_1, 0, none⟩)), (2, [], Value.int .i64 t4), (3, [], Value.int .u32 c), (4, [], Value.int .i64 t4), (9, [], Value.int .i64 t9), (10, [], Value.bool (decide (t9 < 8)))] (by kernel_rfl) (by kernel_rfl) ?_
      refine reg_end [(0, Value.pointer (some ⟨b_, 0, none⟩)), (1, Value.pointer (some ⟨b_1, 0, none⟩)), (2, Value.int .i64 t4), (3, Value.int .u32 c), (4, Value.int .i64 t4), (9, Value.int .i64 t9), (10, Value.bool (decide (t9 < 8)))] (by kernel_rfl) (by kernel_rfl) ?_
      change WpE _ _ c_sum_table_36 _ _ _
      refine wpE_seq (x := c_sum_table_37) (y := c_sum_table_40) (by kernel_rfl) ?_
      refine wpE_cond (o := (Operand.tmp 10)) (b := (decide (t9 < 8))) (x := c_sum_table_38) (y := c_sum_table_39) (by kernel_rfl) (by kernel_rfl) (fun hb => ?_) (fun hb => ?_)
      · replace h := h.1 hb
        refine wpE_skip (by kernel_rfl) ?_
        change WpE _ _ c_sum_table_40 _ _ _
        refine wpE_seq (x := c_sum_table_41) (y := c_sum_table_44) (by kernel_rfl) ?_
        refine wpE_block (id := 3) (x := c_sum_table_42) (by kernel_rfl) ?_
        refine wpE_region (id := 8) (ops := r_sum_table_42) (by kernel_rfl) ?_
        refine reg_run [.plain, .plain, .plain, .plain, .plain, .plain, .plain, .plain] 8 [(0, [], Value.pointer (some ⟨b_, 0, none⟩)), (1, [], Value.pointer (some ⟨b_1, 0, none⟩)), (2, [], Value.int .i64 t4), (3, [], Value.int .u32 (bxor .u32 (Int.fdiv c (2 ^ 1)) (band .u32 2197175160 (IntKind.u32.wrap (0 - (band .u32 c 1)))))), (4, [], Value.int .i64 t4), (9, [], Value.int .i64 t9)] (by kernel_rfl) (by kernel_rfl) ?_
        refine reg_end [(0, Value.pointer (some ⟨b_, 0, none⟩)), (1, Value.pointer (some ⟨b_1, 0, none⟩)), (2, Value.int .i64 t4), (3, Value.int .u32 (bxor .u32 (Int.fdiv c (2 ^ 1)) (band .u32 2197175160 (IntKind.u32.wrap (0 - (band .u32 c 1)))))), (4, Value.int .i64 t4), (9, Value.int .i64 t9)] (by kernel_rfl) (by kernel_rfl) ?_
        change WpE _ _ c_sum_table_44 _ _ _
        refine wpE_region (id := 9) (ops := r_sum_table_44) (by kernel_rfl) ?_
        refine reg_run [.plain, .plain] 2 [(0, [], Value.pointer (some ⟨b_, 0, none⟩)), (1, [], Value.pointer (some ⟨b_1, 0, none⟩)), (2, [], Value.int .i64 t4), (3, [], Value.int .u32 (bxor .u32 (Int.fdiv c (2 ^ 1)) (band .u32 2197175160 (IntKind.u32.wrap (0 - (band .u32 c 1)))))), (4, [], Value.int .i64 t4), (9, [], Value.int .i64 (IntKind.i64.wrap (t9 + 1)))] (by kernel_rfl) (by kernel_rfl) ?_
        refine reg_end [(0, Value.pointer (some ⟨b_, 0, none⟩)), (1, Value.pointer (some ⟨b_1, 0, none⟩)), (2, Value.int .i64 t4), (3, Value.int .u32 (bxor .u32 (Int.fdiv c (2 ^ 1)) (band .u32 2197175160 (IntKind.u32.wrap (0 - (band .u32 c 1)))))), (4, Value.int .i64 t4), (9, Value.int .i64 (IntKind.i64.wrap (t9 + 1)))] (by kernel_rfl) (by kernel_rfl) ?_
        have hb_ := again_1_h _ _ _ h
        exact ⟨_, hb_.2, [(0, Value.pointer (some ⟨b_, 0, none⟩)), (1, Value.pointer (some ⟨b_1, 0, none⟩)), (2, Value.int .i64 t4), (3, Value.int .u32 (bxor .u32 (Int.fdiv c (2 ^ 1)) (band .u32 2197175160 (IntKind.u32.wrap (0 - (band .u32 c 1)))))), (4, Value.int .i64 t4), (9, Value.int .i64 (IntKind.i64.wrap (t9 + 1)))], Sub.mk (by kernel_rfl), (bxor .u32 (Int.fdiv c (2 ^ 1)) (band .u32 2197175160 (IntKind.u32.wrap (0 - (band .u32 c 1))))), (IntKind.i64.wrap (t9 + 1)), rfl, hb_.1, rfl⟩
      · replace h := h.2 hb
        refine wpE_exit (id := 2) (by kernel_rfl) ?_
        change WpE _ _ c_sum_table_46 _ _ _
        refine wpE_region (id := 10) (ops := r_sum_table_46) (by kernel_rfl) ?_
        refine reg_run [.plain, .plain] 2 [(0, [], Value.pointer (some ⟨b_, 0, none⟩)), (1, [], Value.pointer (some ⟨b_1, 0, none⟩)), (4, [], Value.int .i64 t4), (19, [], Value.int .i64 t4), (20, [], Value.int .u32 c)] (by kernel_rfl) (by kernel_rfl) ?_
        obtain ⟨h0, h1, h⟩ := h
        refine reg_indexA1 (t := 92) (e := 39) (x := (Go.Operand.tmp 1)) (ix := (Go.Operand.tmp 19)) (b := b_1) (o := 0) (len := 256) (k := .i64) (j := t4) (ty := 0) (dst := some 21) (by kernel_rfl) (by kernel_rfl) (by kernel_rfl) (by kernel_rfl) (by kernel_rfl) h0 h1 ?_
        refine reg_run [] 3 [(0, [], Value.pointer (some ⟨b_, 0, none⟩)), (1, [], Value.pointer (some ⟨b_1, 0, none⟩)), (4, [], Value.int .i64 t4), (20, [], Value.int .u32 c), (21, [], Value.pointer (some ⟨b_1, 0 + t4.toNat, none⟩))] (by kernel_rfl) (by kernel_rfl) ?_
        obtain ⟨hc, h⟩ := h
        refine reg_store (t := 39) (a := (Go.Operand.tmp 21)) (x := (Go.Operand.tmp 20)) (b := b_1) (o := (0 + t4.toNat)) (ty := 0) (dst := none) [Value.int .u32 c] (by kernel_rfl) (by kernel_rfl) (by kernel_rfl) (k := 1) (by kernel_rfl) (by kernel_rfl) (by kernel_rfl) hc (fun w5 hw => ?_)
        replace h := h w5 hw
        clear hw
        refine reg_end [(0, Value.pointer (some ⟨b_, 0, none⟩)), (1, Value.pointer (some ⟨b_1, 0, none⟩)), (4, Value.int .i64 t4)] (by kernel_rfl) (by kernel_rfl) ?_
        change WpE _ _ c_sum_table_48 _ _ _
        refine wpE_region (id := 11) (ops := r_sum_table_48) (by kernel_rfl) ?_
        refine reg_run [.plain, .plain] 2 [(0, [], Value.pointer (some ⟨b_, 0, none⟩)), (1, [], Value.pointer (some ⟨b_1, 0, none⟩)), (4, [], Value.int .i64 (IntKind.i64.wrap (t4 + 1)))] (by kernel_rfl) (by kernel_rfl) ?_
        refine reg_end [(0, Value.pointer (some ⟨b_, 0, none⟩)), (1, Value.pointer (some ⟨b_1, 0, none⟩)), (4, Value.int .i64 (IntKind.i64.wrap (t4 + 1)))] (by kernel_rfl) (by kernel_rfl) ?_
        have hb_ := again__h _ _ h
        exact ⟨_, hb_.2, [(0, Value.pointer (some ⟨b_, 0, none⟩)), (1, Value.pointer (some ⟨b_1, 0, none⟩)), (4, Value.int .i64 (IntKind.i64.wrap (t4 + 1)))], Sub.mk (by kernel_rfl), (IntKind.i64.wrap (t4 + 1)), rfl, hb_.1, rfl⟩
    · replace h := h.2 hb
      refine wpE_exit (id := 0) (by kernel_rfl) ?_
      change WpE _ _ c_sum_table_50 _ _ _
      refine wpE_seq (x := c_sum_table_51) (y := c_sum_table_53) (by kernel_rfl) ?_
      refine wpE_region (id := 12) (ops := r_sum_table_51) (by kernel_rfl) ?_
      refine reg_run [] 0 [(0, [], Value.pointer (some ⟨b_, 0, none⟩)), (1, [], Value.pointer (some ⟨b_1, 0, none⟩))] (by kernel_rfl) (by kernel_rfl) ?_
      obtain ⟨v23, hl_v23_0, hc, h⟩ := h
      refine reg_loadN (t := 92) (a := (Go.Operand.tmp 1)) (b := b_1) (o := 0) (ty := 92) (dst := some 23) (List.map (Value.int .u32) v23) (by kernel_rfl) (by kernel_rfl) (by kernel_rfl) (k := 256) (by kernel_rfl) (by simp [hl_v23_0]) hc ?_
      refine reg_run [] 1 [(0, [], Value.pointer (some ⟨b_, 0, none⟩)), (23, [], Value.agg (List.map (Value.int .u32) v23).toArray)] (by kernel_rfl) (by kernel_rfl) ?_
      obtain ⟨hc, h⟩ := h
      refine reg_store (t := 92) (a := (Go.Operand.tmp 0)) (x := (Go.Operand.tmp 23)) (b := b_) (o := 0) (ty := 0) (dst := none) (List.map (Value.int .u32) v23) (by kernel_rfl) (by kernel_rfl) (by kernel_rfl) (k := 256) (by kernel_rfl) (by simp [*]) (by simp [oneCells, oneCell, List.all_eq_true]) hc (fun w6 hw => ?_)
      replace h := h w6 hw
      clear hw
      refine reg_end [(0, Value.pointer (some ⟨b_, 0, none⟩))] (by kernel_rfl) (by kernel_rfl) ?_
      change WpE _ _ c_sum_table_53 _ _ _
      refine wpE_ret (by kernel_rfl) ?_
      obtain ⟨res, hl_res_0, hc_res, h⟩ := h
      repeat (first | refine seqQ_ret ?_ | refine blockQ_ret ?_ | refine loopQ_ret ?_ | refine cutQ_ret ?_)
      exact retS (rs := [(Go.ResultVar.cell 0 92)]) (v := Value.agg (List.map (Value.int .u32) res).toArray) (by kernel_rfl) (⟨b_, 0, (List.map (Value.int .u32) res), by kernel_rfl, hc_res, (sizeP_of (k := 256) (by kernel_rfl) (by simp [hl_res_0])), .inl ⟨by kernel_rfl, rfl⟩, trivial⟩) ⟨res, (by simp [*]), rfl, h⟩
  · rintro e w' ⟨v, rfl, r0, hl0, rfl, h⟩; exact ⟨r0, hl0, rfl, h⟩

/-! ### towpath/num.Fit[int8,int] (function 66) -/
noncomputable def c_num_Fit_int8_int_0 : Code := (Try.f66.body).getD Code.skip
noncomputable def c_num_Fit_int8_int_1 : Code := Code.l c_num_Fit_int8_int_0
noncomputable def r_num_Fit_int8_int_1 : Array Oper := Code.ops c_num_Fit_int8_int_1
noncomputable def c_num_Fit_int8_int_3 : Code := Code.r c_num_Fit_int8_int_0
noncomputable def c_num_Fit_int8_int_4 : Code := Code.l c_num_Fit_int8_int_3
noncomputable def r_num_Fit_int8_int_4 : Array Oper := Code.ops c_num_Fit_int8_int_4
noncomputable def c_num_Fit_int8_int_6 : Code := Code.r c_num_Fit_int8_int_3
noncomputable def c_num_Fit_int8_int_7 : Code := Code.l c_num_Fit_int8_int_6
noncomputable def c_num_Fit_int8_int_8 : Code := Code.l c_num_Fit_int8_int_7
noncomputable def r_num_Fit_int8_int_8 : Array Oper := Code.ops c_num_Fit_int8_int_8
noncomputable def c_num_Fit_int8_int_10 : Code := Code.r c_num_Fit_int8_int_7
noncomputable def c_num_Fit_int8_int_11 : Code := Code.l c_num_Fit_int8_int_10
noncomputable def c_num_Fit_int8_int_12 : Code := Code.l c_num_Fit_int8_int_11
noncomputable def r_num_Fit_int8_int_12 : Array Oper := Code.ops c_num_Fit_int8_int_12
noncomputable def c_num_Fit_int8_int_14 : Code := Code.r c_num_Fit_int8_int_11
noncomputable def c_num_Fit_int8_int_15 : Code := Code.r c_num_Fit_int8_int_10
noncomputable def c_num_Fit_int8_int_16 : Code := Code.r c_num_Fit_int8_int_6
noncomputable def c_num_Fit_int8_int_17 : Code := Code.l c_num_Fit_int8_int_16
noncomputable def r_num_Fit_int8_int_17 : Array Oper := Code.ops c_num_Fit_int8_int_17
noncomputable def c_num_Fit_int8_int_19 : Code := Code.r c_num_Fit_int8_int_16

set_option maxRecDepth 100000 in
theorem S_num_Fit_int8_int {x : Int} {w : World} {R : Int → Bool → World → Prop} (h : F_num_Fit_int8_int x R w) : C_num_Fit_int8_int x w R := by
  unfold F_num_Fit_int8_int at h
  unfold C_num_Fit_int8_int
  refine Calls.mono (calls_of_wpE (args := [Value.int .i64 x]) (R := fun v w' => ∃ (r0 : Int) (r1 : Bool), v = Value.tuple #[Value.int .i8 r0, Value.bool r1] ∧ R r0 r1 w') Try.func66 (c := c_num_Fit_int8_int_0) (by kernel_rfl) 19 (by kernel_rfl) (by kernel_rfl) [(0, Value.int .i64 x)] (by kernel_rfl) ?_) ?_
  · refine wpE_seq (x := c_num_Fit_int8_int_1) (y := c_num_Fit_int8_int_3) (by kernel_rfl) ?_
    refine wpE_region (id := 0) (ops := r_num_Fit_int8_int_1) (by kernel_rfl) ?_
    refine reg_run [.plain, .plain] 2 [(0, [], Value.int .i64 x)] (by kernel_rfl) (by kernel_rfl) ?_
    refine reg_end [(0, Value.int .i64 x)] (by kernel_rfl) (by kernel_rfl) ?_
    change WpE _ _ c_num_Fit_int8_int_3 _ _ _
    refine wpE_seq (x := c_num_Fit_int8_int_4) (y := c_num_Fit_int8_int_6) (by kernel_rfl) ?_
    refine wpE_region (id := 1) (ops := r_num_Fit_int8_int_4) (by kernel_rfl) ?_
    refine reg_run [.plain, .plain, .plain] 3 [(0, [], Value.int .i64 x), (4, [], Value.int .i8 (IntKind.i8.wrap x))] (by kernel_rfl) (by kernel_rfl) ?_
    refine reg_end [(0, Value.int .i64 x), (4, Value.int .i8 (IntKind.i8.wrap x))] (by kernel_rfl) (by kernel_rfl) ?_
    change WpE _ _ c_num_Fit_int8_int_6 _ _ _
    refine wpE_seq (x := c_num_Fit_int8_int_7) (y := c_num_Fit_int8_int_16) (by kernel_rfl) ?_
    refine wpE_seq (x := c_num_Fit_int8_int_8) (y := c_num_Fit_int8_int_10) (by kernel_rfl) ?_
    refine wpE_region (id := 2) (ops := r_num_Fit_int8_int_8) (by kernel_rfl) ?_
    refine reg_run [.plain, .plain, .plain, .plain, .plain, .plain, .plain, .plain, .plain, .plain, .pick] 11 [(4, [], Value.int .i8 (IntKind.i8.wrap x)), (17, [], Value.bool (((IntKind.i64.wrap (IntKind.i8.wrap x)) != x) || (!((decide (x < 0)) == (decide ((IntKind.i8.wrap x) < 0))))))] (by kernel_rfl) (by kernel_rfl) ?_
    refine reg_end [(4, Value.int .i8 (IntKind.i8.wrap x)), (17, Value.bool (((IntKind.i64.wrap (IntKind.i8.wrap x)) != x) || (!((decide (x < 0)) == (decide ((IntKind.i8.wrap x) < 0))))))] (by kernel_rfl) (by kernel_rfl) ?_
    change WpE _ _ c_num_Fit_int8_int_10 _ _ _
    refine wpE_cond (o := (Operand.tmp 17)) (b := (((IntKind.i64.wrap (IntKind.i8.wrap x)) != x) || (!((decide (x < 0)) == (decide ((IntKind.i8.wrap x) < 0)))))) (x := c_num_Fit_int8_int_11) (y := c_num_Fit_int8_int_15) (by kernel_rfl) (by kernel_rfl) (fun hb => ?_) (fun hb => ?_)
    · replace h := h.1 hb
      refine wpE_seq (x := c_num_Fit_int8_int_12) (y := c_num_Fit_int8_int_14) (by kernel_rfl) ?_
      refine wpE_region (id := 3) (ops := r_num_Fit_int8_int_12) (by kernel_rfl) ?_
      refine reg_run [.plain, .plain] 2 [(2, [], Value.int .i8 0), (3, [], Value.bool false)] (by kernel_rfl) (by kernel_rfl) ?_
      refine reg_end [(2, Value.int .i8 0), (3, Value.bool false)] (by kernel_rfl) (by kernel_rfl) ?_
      change WpE _ _ c_num_Fit_int8_int_14 _ _ _
      refine wpE_ret (by kernel_rfl) ?_
      repeat (first | refine seqQ_ret ?_ | refine blockQ_ret ?_ | refine loopQ_ret ?_ | refine cutQ_ret ?_)
      exact retT (rs := [(Go.ResultVar.tmp 2), (Go.ResultVar.tmp 3)]) (vs := [Value.int .i8 0, Value.bool false]) (by kernel_rfl) (⟨by kernel_rfl, ⟨by kernel_rfl, trivial⟩⟩) (by kernel_rfl) ⟨0, false, rfl, h⟩
    · replace h := h.2 hb
      refine wpE_skip (by kernel_rfl) ?_
      change WpE _ _ c_num_Fit_int8_int_16 _ _ _
      refine wpE_seq (x := c_num_Fit_int8_int_17) (y := c_num_Fit_int8_int_19) (by kernel_rfl) ?_
      refine wpE_region (id := 4) (ops := r_num_Fit_int8_int_17) (by kernel_rfl) ?_
      refine reg_run [.plain, .plain, .plain] 3 [(2, [], Value.int .i8 (IntKind.i8.wrap x)), (3, [], Value.bool true)] (by kernel_rfl) (by kernel_rfl) ?_
      refine reg_end [(2, Value.int .i8 (IntKind.i8.wrap x)), (3, Value.bool true)] (by kernel_rfl) (by kernel_rfl) ?_
      change WpE _ _ c_num_Fit_int8_int_19 _ _ _
      refine wpE_ret (by kernel_rfl) ?_
      repeat (first | refine seqQ_ret ?_ | refine blockQ_ret ?_ | refine loopQ_ret ?_ | refine cutQ_ret ?_)
      exact retT (rs := [(Go.ResultVar.tmp 2), (Go.ResultVar.tmp 3)]) (vs := [Value.int .i8 (IntKind.i8.wrap x), Value.bool true]) (by kernel_rfl) (⟨by kernel_rfl, ⟨by kernel_rfl, trivial⟩⟩) (by kernel_rfl) ⟨(IntKind.i8.wrap x), true, rfl, h⟩
  · rintro e w' ⟨v, rfl, r0, r1, rfl, h⟩; exact ⟨r0, r1, rfl, h⟩
end Go.Proofs.Ytmcpljflohlnaaa
