/- WRITTEN BY PROGRAM (dec.py): for each Go function the clean formula F, the call's contract C, and the proof S that F gives C. -/
import Derived.Test.YtmcpljflohlnaaaRows
import Derived.Test.YtmcpljflohlnaaaGF
namespace Go.Proofs.Ytmcpljflohlnaaa
open Go
set_option linter.unusedVariables false

/-! ### towpath/num.Fit[int8,int64] (function 14) -/
noncomputable def c_num_Fit_int8_int64_0 : Code := (Try.f14.body).getD Code.skip
noncomputable def c_num_Fit_int8_int64_1 : Code := Code.l c_num_Fit_int8_int64_0
noncomputable def r_num_Fit_int8_int64_1 : Array Oper := Code.ops c_num_Fit_int8_int64_1
noncomputable def c_num_Fit_int8_int64_3 : Code := Code.r c_num_Fit_int8_int64_0
noncomputable def c_num_Fit_int8_int64_4 : Code := Code.l c_num_Fit_int8_int64_3
noncomputable def r_num_Fit_int8_int64_4 : Array Oper := Code.ops c_num_Fit_int8_int64_4
noncomputable def c_num_Fit_int8_int64_6 : Code := Code.r c_num_Fit_int8_int64_3
noncomputable def c_num_Fit_int8_int64_7 : Code := Code.l c_num_Fit_int8_int64_6
noncomputable def c_num_Fit_int8_int64_8 : Code := Code.l c_num_Fit_int8_int64_7
noncomputable def r_num_Fit_int8_int64_8 : Array Oper := Code.ops c_num_Fit_int8_int64_8
noncomputable def c_num_Fit_int8_int64_10 : Code := Code.r c_num_Fit_int8_int64_7
noncomputable def c_num_Fit_int8_int64_11 : Code := Code.l c_num_Fit_int8_int64_10
noncomputable def c_num_Fit_int8_int64_12 : Code := Code.l c_num_Fit_int8_int64_11
noncomputable def r_num_Fit_int8_int64_12 : Array Oper := Code.ops c_num_Fit_int8_int64_12
noncomputable def c_num_Fit_int8_int64_14 : Code := Code.r c_num_Fit_int8_int64_11
noncomputable def c_num_Fit_int8_int64_15 : Code := Code.r c_num_Fit_int8_int64_10
noncomputable def c_num_Fit_int8_int64_16 : Code := Code.r c_num_Fit_int8_int64_6
noncomputable def c_num_Fit_int8_int64_17 : Code := Code.l c_num_Fit_int8_int64_16
noncomputable def r_num_Fit_int8_int64_17 : Array Oper := Code.ops c_num_Fit_int8_int64_17
noncomputable def c_num_Fit_int8_int64_19 : Code := Code.r c_num_Fit_int8_int64_16

set_option maxRecDepth 100000 in
theorem S_num_Fit_int8_int64 {x : Int} {w : World} {R : Int → Bool → World → Prop} (h : F_num_Fit_int8_int64 x R w) : C_num_Fit_int8_int64 x w R := by
  unfold F_num_Fit_int8_int64 at h
  unfold C_num_Fit_int8_int64
  refine Calls.mono (calls_of_wpE (args := [Value.int .i64 x]) (R := fun v w' => ∃ (r0 : Int) (r1 : Bool), v = Value.tuple #[Value.int .i8 r0, Value.bool r1] ∧ R r0 r1 w') Try.func14 (c := c_num_Fit_int8_int64_0) (by kernel_rfl) 19 (by kernel_rfl) (by kernel_rfl) [(0, Value.int .i64 x)] (by kernel_rfl) ?_) ?_
  · refine wpE_seq (x := c_num_Fit_int8_int64_1) (y := c_num_Fit_int8_int64_3) (by kernel_rfl) ?_
    refine wpE_region (id := 0) (ops := r_num_Fit_int8_int64_1) (by kernel_rfl) ?_
    refine reg_run [.plain, .plain] 2 [(0, [], Value.int .i64 x)] (by kernel_rfl) (by kernel_rfl) ?_
    refine reg_end [(0, Value.int .i64 x)] (by kernel_rfl) (by kernel_rfl) ?_
    change WpE _ _ c_num_Fit_int8_int64_3 _ _ _
    refine wpE_seq (x := c_num_Fit_int8_int64_4) (y := c_num_Fit_int8_int64_6) (by kernel_rfl) ?_
    refine wpE_region (id := 1) (ops := r_num_Fit_int8_int64_4) (by kernel_rfl) ?_
    refine reg_run [.plain, .plain, .plain] 3 [(0, [], Value.int .i64 x), (4, [], Value.int .i8 (IntKind.i8.wrap x))] (by kernel_rfl) (by kernel_rfl) ?_
    refine reg_end [(0, Value.int .i64 x), (4, Value.int .i8 (IntKind.i8.wrap x))] (by kernel_rfl) (by kernel_rfl) ?_
    change WpE _ _ c_num_Fit_int8_int64_6 _ _ _
    refine wpE_seq (x := c_num_Fit_int8_int64_7) (y := c_num_Fit_int8_int64_16) (by kernel_rfl) ?_
    refine wpE_seq (x := c_num_Fit_int8_int64_8) (y := c_num_Fit_int8_int64_10) (by kernel_rfl) ?_
    refine wpE_region (id := 2) (ops := r_num_Fit_int8_int64_8) (by kernel_rfl) ?_
    refine reg_run [.plain, .plain, .plain, .plain, .plain, .plain, .plain, .plain, .plain, .plain, .pick] 11 [(4, [], Value.int .i8 (IntKind.i8.wrap x)), (17, [], Value.bool (((IntKind.i64.wrap (IntKind.i8.wrap x)) != x) || (!((decide (x < 0)) == (decide ((IntKind.i8.wrap x) < 0))))))] (by kernel_rfl) (by kernel_rfl) ?_
    refine reg_end [(4, Value.int .i8 (IntKind.i8.wrap x)), (17, Value.bool (((IntKind.i64.wrap (IntKind.i8.wrap x)) != x) || (!((decide (x < 0)) == (decide ((IntKind.i8.wrap x) < 0))))))] (by kernel_rfl) (by kernel_rfl) ?_
    change WpE _ _ c_num_Fit_int8_int64_10 _ _ _
    refine wpE_cond (o := (Operand.tmp 17)) (b := (((IntKind.i64.wrap (IntKind.i8.wrap x)) != x) || (!((decide (x < 0)) == (decide ((IntKind.i8.wrap x) < 0)))))) (x := c_num_Fit_int8_int64_11) (y := c_num_Fit_int8_int64_15) (by kernel_rfl) (by kernel_rfl) (fun hb => ?_) (fun hb => ?_)
    · replace h := h.1 hb
      refine wpE_seq (x := c_num_Fit_int8_int64_12) (y := c_num_Fit_int8_int64_14) (by kernel_rfl) ?_
      refine wpE_region (id := 3) (ops := r_num_Fit_int8_int64_12) (by kernel_rfl) ?_
      refine reg_run [.plain, .plain] 2 [(2, [], Value.int .i8 0), (3, [], Value.bool false)] (by kernel_rfl) (by kernel_rfl) ?_
      refine reg_end [(2, Value.int .i8 0), (3, Value.bool false)] (by kernel_rfl) (by kernel_rfl) ?_
      change WpE _ _ c_num_Fit_int8_int64_14 _ _ _
      refine wpE_ret (by kernel_rfl) ?_
      repeat (first | refine seqQ_ret ?_ | refine blockQ_ret ?_ | refine loopQ_ret ?_ | refine cutQ_ret ?_)
      exact retT (rs := [(Go.ResultVar.tmp 2), (Go.ResultVar.tmp 3)]) (vs := [Value.int .i8 0, Value.bool false]) (by kernel_rfl) (⟨by kernel_rfl, ⟨by kernel_rfl, trivial⟩⟩) (by kernel_rfl) ⟨0, false, rfl, h⟩
    · replace h := h.2 hb
      refine wpE_skip (by kernel_rfl) ?_
      change WpE _ _ c_num_Fit_int8_int64_16 _ _ _
      refine wpE_seq (x := c_num_Fit_int8_int64_17) (y := c_num_Fit_int8_int64_19) (by kernel_rfl) ?_
      refine wpE_region (id := 4) (ops := r_num_Fit_int8_int64_17) (by kernel_rfl) ?_
      refine reg_run [.plain, .plain, .plain] 3 [(2, [], Value.int .i8 (IntKind.i8.wrap x)), (3, [], Value.bool true)] (by kernel_rfl) (by kernel_rfl) ?_
      refine reg_end [(2, Value.int .i8 (IntKind.i8.wrap x)), (3, Value.bool true)] (by kernel_rfl) (by kernel_rfl) ?_
      change WpE _ _ c_num_Fit_int8_int64_19 _ _ _
      refine wpE_ret (by kernel_rfl) ?_
      repeat (first | refine seqQ_ret ?_ | refine blockQ_ret ?_ | refine loopQ_ret ?_ | refine cutQ_ret ?_)
      exact retT (rs := [(Go.ResultVar.tmp 2), (Go.ResultVar.tmp 3)]) (vs := [Value.int .i8 (IntKind.i8.wrap x), Value.bool true]) (by kernel_rfl) (⟨by kernel_rfl, ⟨by kernel_rfl, trivial⟩⟩) (by kernel_rfl) ⟨(IntKind.i8.wrap x), true, rfl, h⟩
  · rintro e w' ⟨v, rfl, r0, r1, rfl, h⟩; exact ⟨r0, r1, rfl, h⟩

/-! ### towpath/num.Fit[int16,int64] (function 15) -/
noncomputable def c_num_Fit_int16_int64_0 : Code := (Try.f15.body).getD Code.skip
noncomputable def c_num_Fit_int16_int64_1 : Code := Code.l c_num_Fit_int16_int64_0
noncomputable def r_num_Fit_int16_int64_1 : Array Oper := Code.ops c_num_Fit_int16_int64_1
noncomputable def c_num_Fit_int16_int64_3 : Code := Code.r c_num_Fit_int16_int64_0
noncomputable def c_num_Fit_int16_int64_4 : Code := Code.l c_num_Fit_int16_int64_3
noncomputable def r_num_Fit_int16_int64_4 : Array Oper := Code.ops c_num_Fit_int16_int64_4
noncomputable def c_num_Fit_int16_int64_6 : Code := Code.r c_num_Fit_int16_int64_3
noncomputable def c_num_Fit_int16_int64_7 : Code := Code.l c_num_Fit_int16_int64_6
noncomputable def c_num_Fit_int16_int64_8 : Code := Code.l c_num_Fit_int16_int64_7
noncomputable def r_num_Fit_int16_int64_8 : Array Oper := Code.ops c_num_Fit_int16_int64_8
noncomputable def c_num_Fit_int16_int64_10 : Code := Code.r c_num_Fit_int16_int64_7
noncomputable def c_num_Fit_int16_int64_11 : Code := Code.l c_num_Fit_int16_int64_10
noncomputable def c_num_Fit_int16_int64_12 : Code := Code.l c_num_Fit_int16_int64_11
noncomputable def r_num_Fit_int16_int64_12 : Array Oper := Code.ops c_num_Fit_int16_int64_12
noncomputable def c_num_Fit_int16_int64_14 : Code := Code.r c_num_Fit_int16_int64_11
noncomputable def c_num_Fit_int16_int64_15 : Code := Code.r c_num_Fit_int16_int64_10
noncomputable def c_num_Fit_int16_int64_16 : Code := Code.r c_num_Fit_int16_int64_6
noncomputable def c_num_Fit_int16_int64_17 : Code := Code.l c_num_Fit_int16_int64_16
noncomputable def r_num_Fit_int16_int64_17 : Array Oper := Code.ops c_num_Fit_int16_int64_17
noncomputable def c_num_Fit_int16_int64_19 : Code := Code.r c_num_Fit_int16_int64_16

set_option maxRecDepth 100000 in
theorem S_num_Fit_int16_int64 {x : Int} {w : World} {R : Int → Bool → World → Prop} (h : F_num_Fit_int16_int64 x R w) : C_num_Fit_int16_int64 x w R := by
  unfold F_num_Fit_int16_int64 at h
  unfold C_num_Fit_int16_int64
  refine Calls.mono (calls_of_wpE (args := [Value.int .i64 x]) (R := fun v w' => ∃ (r0 : Int) (r1 : Bool), v = Value.tuple #[Value.int .i16 r0, Value.bool r1] ∧ R r0 r1 w') Try.func15 (c := c_num_Fit_int16_int64_0) (by kernel_rfl) 19 (by kernel_rfl) (by kernel_rfl) [(0, Value.int .i64 x)] (by kernel_rfl) ?_) ?_
  · refine wpE_seq (x := c_num_Fit_int16_int64_1) (y := c_num_Fit_int16_int64_3) (by kernel_rfl) ?_
    refine wpE_region (id := 0) (ops := r_num_Fit_int16_int64_1) (by kernel_rfl) ?_
    refine reg_run [.plain, .plain] 2 [(0, [], Value.int .i64 x)] (by kernel_rfl) (by kernel_rfl) ?_
    refine reg_end [(0, Value.int .i64 x)] (by kernel_rfl) (by kernel_rfl) ?_
    change WpE _ _ c_num_Fit_int16_int64_3 _ _ _
    refine wpE_seq (x := c_num_Fit_int16_int64_4) (y := c_num_Fit_int16_int64_6) (by kernel_rfl) ?_
    refine wpE_region (id := 1) (ops := r_num_Fit_int16_int64_4) (by kernel_rfl) ?_
    refine reg_run [.plain, .plain, .plain] 3 [(0, [], Value.int .i64 x), (4, [], Value.int .i16 (IntKind.i16.wrap x))] (by kernel_rfl) (by kernel_rfl) ?_
    refine reg_end [(0, Value.int .i64 x), (4, Value.int .i16 (IntKind.i16.wrap x))] (by kernel_rfl) (by kernel_rfl) ?_
    change WpE _ _ c_num_Fit_int16_int64_6 _ _ _
    refine wpE_seq (x := c_num_Fit_int16_int64_7) (y := c_num_Fit_int16_int64_16) (by kernel_rfl) ?_
    refine wpE_seq (x := c_num_Fit_int16_int64_8) (y := c_num_Fit_int16_int64_10) (by kernel_rfl) ?_
    refine wpE_region (id := 2) (ops := r_num_Fit_int16_int64_8) (by kernel_rfl) ?_
    refine reg_run [.plain, .plain, .plain, .plain, .plain, .plain, .plain, .plain, .plain, .plain, .pick] 11 [(4, [], Value.int .i16 (IntKind.i16.wrap x)), (17, [], Value.bool (((IntKind.i64.wrap (IntKind.i16.wrap x)) != x) || (!((decide (x < 0)) == (decide ((IntKind.i16.wrap x) < 0))))))] (by kernel_rfl) (by kernel_rfl) ?_
    refine reg_end [(4, Value.int .i16 (IntKind.i16.wrap x)), (17, Value.bool (((IntKind.i64.wrap (IntKind.i16.wrap x)) != x) || (!((decide (x < 0)) == (decide ((IntKind.i16.wrap x) < 0))))))] (by kernel_rfl) (by kernel_rfl) ?_
    change WpE _ _ c_num_Fit_int16_int64_10 _ _ _
    refine wpE_cond (o := (Operand.tmp 17)) (b := (((IntKind.i64.wrap (IntKind.i16.wrap x)) != x) || (!((decide (x < 0)) == (decide ((IntKind.i16.wrap x) < 0)))))) (x := c_num_Fit_int16_int64_11) (y := c_num_Fit_int16_int64_15) (by kernel_rfl) (by kernel_rfl) (fun hb => ?_) (fun hb => ?_)
    · replace h := h.1 hb
      refine wpE_seq (x := c_num_Fit_int16_int64_12) (y := c_num_Fit_int16_int64_14) (by kernel_rfl) ?_
      refine wpE_region (id := 3) (ops := r_num_Fit_int16_int64_12) (by kernel_rfl) ?_
      refine reg_run [.plain, .plain] 2 [(2, [], Value.int .i16 0), (3, [], Value.bool false)] (by kernel_rfl) (by kernel_rfl) ?_
      refine reg_end [(2, Value.int .i16 0), (3, Value.bool false)] (by kernel_rfl) (by kernel_rfl) ?_
      change WpE _ _ c_num_Fit_int16_int64_14 _ _ _
      refine wpE_ret (by kernel_rfl) ?_
      repeat (first | refine seqQ_ret ?_ | refine blockQ_ret ?_ | refine loopQ_ret ?_ | refine cutQ_ret ?_)
      exact retT (rs := [(Go.ResultVar.tmp 2), (Go.ResultVar.tmp 3)]) (vs := [Value.int .i16 0, Value.bool false]) (by kernel_rfl) (⟨by kernel_rfl, ⟨by kernel_rfl, trivial⟩⟩) (by kernel_rfl) ⟨0, false, rfl, h⟩
    · replace h := h.2 hb
      refine wpE_skip (by kernel_rfl) ?_
      change WpE _ _ c_num_Fit_int16_int64_16 _ _ _
      refine wpE_seq (x := c_num_Fit_int16_int64_17) (y := c_num_Fit_int16_int64_19) (by kernel_rfl) ?_
      refine wpE_region (id := 4) (ops := r_num_Fit_int16_int64_17) (by kernel_rfl) ?_
      refine reg_run [.plain, .plain, .plain] 3 [(2, [], Value.int .i16 (IntKind.i16.wrap x)), (3, [], Value.bool true)] (by kernel_rfl) (by kernel_rfl) ?_
      refine reg_end [(2, Value.int .i16 (IntKind.i16.wrap x)), (3, Value.bool true)] (by kernel_rfl) (by kernel_rfl) ?_
      change WpE _ _ c_num_Fit_int16_int64_19 _ _ _
      refine wpE_ret (by kernel_rfl) ?_
      repeat (first | refine seqQ_ret ?_ | refine blockQ_ret ?_ | refine loopQ_ret ?_ | refine cutQ_ret ?_)
      exact retT (rs := [(Go.ResultVar.tmp 2), (Go.ResultVar.tmp 3)]) (vs := [Value.int .i16 (IntKind.i16.wrap x), Value.bool true]) (by kernel_rfl) (⟨by kernel_rfl, ⟨by kernel_rfl, trivial⟩⟩) (by kernel_rfl) ⟨(IntKind.i16.wrap x), true, rfl, h⟩
  · rintro e w' ⟨v, rfl, r0, r1, rfl, h⟩; exact ⟨r0, r1, rfl, h⟩

/-! ### towpath/num.Fit[int32,int64] (function 16) -/
noncomputable def c_num_Fit_int32_int64_0 : Code := (Try.f16.body).getD Code.skip
noncomputable def c_num_Fit_int32_int64_1 : Code := Code.l c_num_Fit_int32_int64_0
noncomputable def r_num_Fit_int32_int64_1 : Array Oper := Code.ops c_num_Fit_int32_int64_1
noncomputable def c_num_Fit_int32_int64_3 : Code := Code.r c_num_Fit_int32_int64_0
noncomputable def c_num_Fit_int32_int64_4 : Code := Code.l c_num_Fit_int32_int64_3
noncomputable def r_num_Fit_int32_int64_4 : Array Oper := Code.ops c_num_Fit_int32_int64_4
noncomputable def c_num_Fit_int32_int64_6 : Code := Code.r c_num_Fit_int32_int64_3
noncomputable def c_num_Fit_int32_int64_7 : Code := Code.l c_num_Fit_int32_int64_6
noncomputable def c_num_Fit_int32_int64_8 : Code := Code.l c_num_Fit_int32_int64_7
noncomputable def r_num_Fit_int32_int64_8 : Array Oper := Code.ops c_num_Fit_int32_int64_8
noncomputable def c_num_Fit_int32_int64_10 : Code := Code.r c_num_Fit_int32_int64_7
noncomputable def c_num_Fit_int32_int64_11 : Code := Code.l c_num_Fit_int32_int64_10
noncomputable def c_num_Fit_int32_int64_12 : Code := Code.l c_num_Fit_int32_int64_11
noncomputable def r_num_Fit_int32_int64_12 : Array Oper := Code.ops c_num_Fit_int32_int64_12
noncomputable def c_num_Fit_int32_int64_14 : Code := Code.r c_num_Fit_int32_int64_11
noncomputable def c_num_Fit_int32_int64_15 : Code := Code.r c_num_Fit_int32_int64_10
noncomputable def c_num_Fit_int32_int64_16 : Code := Code.r c_num_Fit_int32_int64_6
noncomputable def c_num_Fit_int32_int64_17 : Code := Code.l c_num_Fit_int32_int64_16
noncomputable def r_num_Fit_int32_int64_17 : Array Oper := Code.ops c_num_Fit_int32_int64_17
noncomputable def c_num_Fit_int32_int64_19 : Code := Code.r c_num_Fit_int32_int64_16

set_option maxRecDepth 100000 in
theorem S_num_Fit_int32_int64 {x : Int} {w : World} {R : Int → Bool → World → Prop} (h : F_num_Fit_int32_int64 x R w) : C_num_Fit_int32_int64 x w R := by
  unfold F_num_Fit_int32_int64 at h
  unfold C_num_Fit_int32_int64
  refine Calls.mono (calls_of_wpE (args := [Value.int .i64 x]) (R := fun v w' => ∃ (r0 : Int) (r1 : Bool), v = Value.tuple #[Value.int .i32 r0, Value.bool r1] ∧ R r0 r1 w') Try.func16 (c := c_num_Fit_int32_int64_0) (by kernel_rfl) 19 (by kernel_rfl) (by kernel_rfl) [(0, Value.int .i64 x)] (by kernel_rfl) ?_) ?_
  · refine wpE_seq (x := c_num_Fit_int32_int64_1) (y := c_num_Fit_int32_int64_3) (by kernel_rfl) ?_
    refine wpE_region (id := 0) (ops := r_num_Fit_int32_int64_1) (by kernel_rfl) ?_
    refine reg_run [.plain, .plain] 2 [(0, [], Value.int .i64 x)] (by kernel_rfl) (by kernel_rfl) ?_
    refine reg_end [(0, Value.int .i64 x)] (by kernel_rfl) (by kernel_rfl) ?_
    change WpE _ _ c_num_Fit_int32_int64_3 _ _ _
    refine wpE_seq (x := c_num_Fit_int32_int64_4) (y := c_num_Fit_int32_int64_6) (by kernel_rfl) ?_
    refine wpE_region (id := 1) (ops := r_num_Fit_int32_int64_4) (by kernel_rfl) ?_
    refine reg_run [.plain, .plain, .plain] 3 [(0, [], Value.int .i64 x), (4, [], Value.int .i32 (IntKind.i32.wrap x))] (by kernel_rfl) (by kernel_rfl) ?_
    refine reg_end [(0, Value.int .i64 x), (4, Value.int .i32 (IntKind.i32.wrap x))] (by kernel_rfl) (by kernel_rfl) ?_
    change WpE _ _ c_num_Fit_int32_int64_6 _ _ _
    refine wpE_seq (x := c_num_Fit_int32_int64_7) (y := c_num_Fit_int32_int64_16) (by kernel_rfl) ?_
    refine wpE_seq (x := c_num_Fit_int32_int64_8) (y := c_num_Fit_int32_int64_10) (by kernel_rfl) ?_
    refine wpE_region (id := 2) (ops := r_num_Fit_int32_int64_8) (by kernel_rfl) ?_
    refine reg_run [.plain, .plain, .plain, .plain, .plain, .plain, .plain, .plain, .plain, .plain, .pick] 11 [(4, [], Value.int .i32 (IntKind.i32.wrap x)), (17, [], Value.bool (((IntKind.i64.wrap (IntKind.i32.wrap x)) != x) || (!((decide (x < 0)) == (decide ((IntKind.i32.wrap x) < 0))))))] (by kernel_rfl) (by kernel_rfl) ?_
    refine reg_end [(4, Value.int .i32 (IntKind.i32.wrap x)), (17, Value.bool (((IntKind.i64.wrap (IntKind.i32.wrap x)) != x) || (!((decide (x < 0)) == (decide ((IntKind.i32.wrap x) < 0))))))] (by kernel_rfl) (by kernel_rfl) ?_
    change WpE _ _ c_num_Fit_int32_int64_10 _ _ _
    refine wpE_cond (o := (Operand.tmp 17)) (b := (((IntKind.i64.wrap (IntKind.i32.wrap x)) != x) || (!((decide (x < 0)) == (decide ((IntKind.i32.wrap x) < 0)))))) (x := c_num_Fit_int32_int64_11) (y := c_num_Fit_int32_int64_15) (by kernel_rfl) (by kernel_rfl) (fun hb => ?_) (fun hb => ?_)
    · replace h := h.1 hb
      refine wpE_seq (x := c_num_Fit_int32_int64_12) (y := c_num_Fit_int32_int64_14) (by kernel_rfl) ?_
      refine wpE_region (id := 3) (ops := r_num_Fit_int32_int64_12) (by kernel_rfl) ?_
      refine reg_run [.plain, .plain] 2 [(2, [], Value.int .i32 0), (3, [], Value.bool false)] (by kernel_rfl) (by kernel_rfl) ?_
      refine reg_end [(2, Value.int .i32 0), (3, Value.bool false)] (by kernel_rfl) (by kernel_rfl) ?_
      change WpE _ _ c_num_Fit_int32_int64_14 _ _ _
      refine wpE_ret (by kernel_rfl) ?_
      repeat (first | refine seqQ_ret ?_ | refine blockQ_ret ?_ | refine loopQ_ret ?_ | refine cutQ_ret ?_)
      exact retT (rs := [(Go.ResultVar.tmp 2), (Go.ResultVar.tmp 3)]) (vs := [Value.int .i32 0, Value.bool false]) (by kernel_rfl) (⟨by kernel_rfl, ⟨by kernel_rfl, trivial⟩⟩) (by kernel_rfl) ⟨0, false, rfl, h⟩
    · replace h := h.2 hb
      refine wpE_skip (by kernel_rfl) ?_
      change WpE _ _ c_num_Fit_int32_int64_16 _ _ _
      refine wpE_seq (x := c_num_Fit_int32_int64_17) (y := c_num_Fit_int32_int64_19) (by kernel_rfl) ?_
      refine wpE_region (id := 4) (ops := r_num_Fit_int32_int64_17) (by kernel_rfl) ?_
      refine reg_run [.plain, .plain, .plain] 3 [(2, [], Value.int .i32 (IntKind.i32.wrap x)), (3, [], Value.bool true)] (by kernel_rfl) (by kernel_rfl) ?_
      refine reg_end [(2, Value.int .i32 (IntKind.i32.wrap x)), (3, Value.bool true)] (by kernel_rfl) (by kernel_rfl) ?_
      change WpE _ _ c_num_Fit_int32_int64_19 _ _ _
      refine wpE_ret (by kernel_rfl) ?_
      repeat (first | refine seqQ_ret ?_ | refine blockQ_ret ?_ | refine loopQ_ret ?_ | refine cutQ_ret ?_)
      exact retT (rs := [(Go.ResultVar.tmp 2), (Go.ResultVar.tmp 3)]) (vs := [Value.int .i32 (IntKind.i32.wrap x), Value.bool true]) (by kernel_rfl) (⟨by kernel_rfl, ⟨by kernel_rfl, trivial⟩⟩) (by kernel_rfl) ⟨(IntKind.i32.wrap x), true, rfl, h⟩
  · rintro e w' ⟨v, rfl, r0, r1, rfl, h⟩; exact ⟨r0, r1, rfl, h⟩

/-! ### towpath/num.Fit[int64,int64] (function 17) -/
noncomputable def c_num_Fit_int64_int64_0 : Code := (Try.f17.body).getD Code.skip
noncomputable def c_num_Fit_int64_int64_1 : Code := Code.l c_num_Fit_int64_int64_0
noncomputable def r_num_Fit_int64_int64_1 : Array Oper := Code.ops c_num_Fit_int64_int64_1
noncomputable def c_num_Fit_int64_int64_3 : Code := Code.r c_num_Fit_int64_int64_0
noncomputable def c_num_Fit_int64_int64_4 : Code := Code.l c_num_Fit_int64_int64_3
noncomputable def r_num_Fit_int64_int64_4 : Array Oper := Code.ops c_num_Fit_int64_int64_4
noncomputable def c_num_Fit_int64_int64_6 : Code := Code.r c_num_Fit_int64_int64_3
noncomputable def c_num_Fit_int64_int64_7 : Code := Code.l c_num_Fit_int64_int64_6
noncomputable def c_num_Fit_int64_int64_8 : Code := Code.l c_num_Fit_int64_int64_7
noncomputable def r_num_Fit_int64_int64_8 : Array Oper := Code.ops c_num_Fit_int64_int64_8
noncomputable def c_num_Fit_int64_int64_10 : Code := Code.r c_num_Fit_int64_int64_7
noncomputable def c_num_Fit_int64_int64_11 : Code := Code.l c_num_Fit_int64_int64_10
noncomputable def c_num_Fit_int64_int64_12 : Code := Code.l c_num_Fit_int64_int64_11
noncomputable def r_num_Fit_int64_int64_12 : Array Oper := Code.ops c_num_Fit_int64_int64_12
noncomputable def c_num_Fit_int64_int64_14 : Code := Code.r c_num_Fit_int64_int64_11
noncomputable def c_num_Fit_int64_int64_15 : Code := Code.r c_num_Fit_int64_int64_10
noncomputable def c_num_Fit_int64_int64_16 : Code := Code.r c_num_Fit_int64_int64_6
noncomputable def c_num_Fit_int64_int64_17 : Code := Code.l c_num_Fit_int64_int64_16
noncomputable def r_num_Fit_int64_int64_17 : Array Oper := Code.ops c_num_Fit_int64_int64_17
noncomputable def c_num_Fit_int64_int64_19 : Code := Code.r c_num_Fit_int64_int64_16

set_option maxRecDepth 100000 in
theorem S_num_Fit_int64_int64 {x : Int} {w : World} {R : Int → Bool → World → Prop} (h : F_num_Fit_int64_int64 x R w) : C_num_Fit_int64_int64 x w R := by
  unfold F_num_Fit_int64_int64 at h
  unfold C_num_Fit_int64_int64
  refine Calls.mono (calls_of_wpE (args := [Value.int .i64 x]) (R := fun v w' => ∃ (r0 : Int) (r1 : Bool), v = Value.tuple #[Value.int .i64 r0, Value.bool r1] ∧ R r0 r1 w') Try.func17 (c := c_num_Fit_int64_int64_0) (by kernel_rfl) 17 (by kernel_rfl) (by kernel_rfl) [(0, Value.int .i64 x)] (by kernel_rfl) ?_) ?_
  · refine wpE_seq (x := c_num_Fit_int64_int64_1) (y := c_num_Fit_int64_int64_3) (by kernel_rfl) ?_
    refine wpE_region (id := 0) (ops := r_num_Fit_int64_int64_1) (by kernel_rfl) ?_
    refine reg_run [.plain, .plain] 2 [(0, [], Value.int .i64 x)] (by kernel_rfl) (by kernel_rfl) ?_
    refine reg_end [(0, Value.int .i64 x)] (by kernel_rfl) (by kernel_rfl) ?_
    change WpE _ _ c_num_Fit_int64_int64_3 _ _ _
    refine wpE_seq (x := c_num_Fit_int64_int64_4) (y := c_num_Fit_int64_int64_6) (by kernel_rfl) ?_
    refine wpE_region (id := 1) (ops := r_num_Fit_int64_int64_4) (by kernel_rfl) ?_
    refine reg_run [.plain, .plain] 2 [(0, [], Value.int .i64 x), (4, [], Value.int .i64 x)] (by kernel_rfl) (by kernel_rfl) ?_
    refine reg_end [(0, Value.int .i64 x), (4, Value.int .i64 x)] (by kernel_rfl) (by kernel_rfl) ?_
    change WpE _ _ c_num_Fit_int64_int64_6 _ _ _
    refine wpE_seq (x := c_num_Fit_int64_int64_7) (y := c_num_Fit_int64_int64_16) (by kernel_rfl) ?_
    refine wpE_seq (x := c_num_Fit_int64_int64_8) (y := c_num_Fit_int64_int64_10) (by kernel_rfl) ?_
    refine wpE_region (id := 2) (ops := r_num_Fit_int64_int64_8) (by kernel_rfl) ?_
    refine reg_run [.plain, .plain, .plain, .plain, .plain, .plain, .plain, .plain, .plain, .pick] 10 [(4, [], Value.int .i64 x), (15, [], Value.bool ((x != x) || (!((decide (x < 0)) == (decide (x < 0))))))] (by kernel_rfl) (by kernel_rfl) ?_
    refine reg_end [(4, Value.int .i64 x), (15, Value.bool ((x != x) || (!((decide (x < 0)) == (decide (x < 0))))))] (by kernel_rfl) (by kernel_rfl) ?_
    change WpE _ _ c_num_Fit_int64_int64_10 _ _ _
    refine wpE_cond (o := (Operand.tmp 15)) (b := ((x != x) || (!((decide (x < 0)) == (decide (x < 0)))))) (x := c_num_Fit_int64_int64_11) (y := c_num_Fit_int64_int64_15) (by kernel_rfl) (by kernel_rfl) (fun hb => ?_) (fun hb => ?_)
    · replace h := h.1 hb
      refine wpE_seq (x := c_num_Fit_int64_int64_12) (y := c_num_Fit_int64_int64_14) (by kernel_rfl) ?_
      refine wpE_region (id := 3) (ops := r_num_Fit_int64_int64_12) (by kernel_rfl) ?_
      refine reg_run [.plain, .plain] 2 [(2, [], Value.int .i64 0), (3, [], Value.bool false)] (by kernel_rfl) (by kernel_rfl) ?_
      refine reg_end [(2, Value.int .i64 0), (3, Value.bool false)] (by kernel_rfl) (by kernel_rfl) ?_
      change WpE _ _ c_num_Fit_int64_int64_14 _ _ _
      refine wpE_ret (by kernel_rfl) ?_
      repeat (first | refine seqQ_ret ?_ | refine blockQ_ret ?_ | refine loopQ_ret ?_ | refine cutQ_ret ?_)
      exact retT (rs := [(Go.ResultVar.tmp 2), (Go.ResultVar.tmp 3)]) (vs := [Value.int .i64 0, Value.bool false]) (by kernel_rfl) (⟨by kernel_rfl, ⟨by kernel_rfl, trivial⟩⟩) (by kernel_rfl) ⟨0, false, rfl, h⟩
    · replace h := h.2 hb
      refine wpE_skip (by kernel_rfl) ?_
      change WpE _ _ c_num_Fit_int64_int64_16 _ _ _
      refine wpE_seq (x := c_num_Fit_int64_int64_17) (y := c_num_Fit_int64_int64_19) (by kernel_rfl) ?_
      refine wpE_region (id := 4) (ops := r_num_Fit_int64_int64_17) (by kernel_rfl) ?_
      refine reg_run [.plain, .plain, .plain] 3 [(2, [], Value.int .i64 x), (3, [], Value.bool true)] (by kernel_rfl) (by kernel_rfl) ?_
      refine reg_end [(2, Value.int .i64 x), (3, Value.bool true)] (by kernel_rfl) (by kernel_rfl) ?_
      change WpE _ _ c_num_Fit_int64_int64_19 _ _ _
      refine wpE_ret (by kernel_rfl) ?_
      repeat (first | refine seqQ_ret ?_ | refine blockQ_ret ?_ | refine loopQ_ret ?_ | refine cutQ_ret ?_)
      exact retT (rs := [(Go.ResultVar.tmp 2), (Go.ResultVar.tmp 3)]) (vs := [Value.int .i64 x, Value.bool true]) (by kernel_rfl) (⟨by kernel_rfl, ⟨by kernel_rfl, trivial⟩⟩) (by kernel_rfl) ⟨x, true, rfl, h⟩
  · rintro e w' ⟨v, rfl, r0, r1, rfl, h⟩; exact ⟨r0, r1, rfl, h⟩

/-! ### towpath/num.Fit[int,int64] (function 18) -/
noncomputable def c_num_Fit_int_int64_0 : Code := (Try.f18.body).getD Code.skip
noncomputable def c_num_Fit_int_int64_1 : Code := Code.l c_num_Fit_int_int64_0
noncomputable def r_num_Fit_int_int64_1 : Array Oper := Code.ops c_num_Fit_int_int64_1
noncomputable def c_num_Fit_int_int64_3 : Code := Code.r c_num_Fit_int_int64_0
noncomputable def c_num_Fit_int_int64_4 : Code := Code.l c_num_Fit_int_int64_3
noncomputable def r_num_Fit_int_int64_4 : Array Oper := Code.ops c_num_Fit_int_int64_4
noncomputable def c_num_Fit_int_int64_6 : Code := Code.r c_num_Fit_int_int64_3
noncomputable def c_num_Fit_int_int64_7 : Code := Code.l c_num_Fit_int_int64_6
noncomputable def c_num_Fit_int_int64_8 : Code := Code.l c_num_Fit_int_int64_7
noncomputable def r_num_Fit_int_int64_8 : Array Oper := Code.ops c_num_Fit_int_int64_8
noncomputable def c_num_Fit_int_int64_10 : Code := Code.r c_num_Fit_int_int64_7
noncomputable def c_num_Fit_int_int64_11 : Code := Code.l c_num_Fit_int_int64_10
noncomputable def c_num_Fit_int_int64_12 : Code := Code.l c_num_Fit_int_int64_11
noncomputable def r_num_Fit_int_int64_12 : Array Oper := Code.ops c_num_Fit_int_int64_12
noncomputable def c_num_Fit_int_int64_14 : Code := Code.r c_num_Fit_int_int64_11
noncomputable def c_num_Fit_int_int64_15 : Code := Code.r c_num_Fit_int_int64_10
noncomputable def c_num_Fit_int_int64_16 : Code := Code.r c_num_Fit_int_int64_6
noncomputable def c_num_Fit_int_int64_17 : Code := Code.l c_num_Fit_int_int64_16
noncomputable def r_num_Fit_int_int64_17 : Array Oper := Code.ops c_num_Fit_int_int64_17
noncomputable def c_num_Fit_int_int64_19 : Code := Code.r c_num_Fit_int_int64_16

set_option maxRecDepth 100000 in
theorem S_num_Fit_int_int64 {x : Int} {w : World} {R : Int → Bool → World → Prop} (h : F_num_Fit_int_int64 x R w) : C_num_Fit_int_int64 x w R := by
  unfold F_num_Fit_int_int64 at h
  unfold C_num_Fit_int_int64
  refine Calls.mono (calls_of_wpE (args := [Value.int .i64 x]) (R := fun v w' => ∃ (r0 : Int) (r1 : Bool), v = Value.tuple #[Value.int .i64 r0, Value.bool r1] ∧ R r0 r1 w') Try.func18 (c := c_num_Fit_int_int64_0) (by kernel_rfl) 17 (by kernel_rfl) (by kernel_rfl) [(0, Value.int .i64 x)] (by kernel_rfl) ?_) ?_
  · refine wpE_seq (x := c_num_Fit_int_int64_1) (y := c_num_Fit_int_int64_3) (by kernel_rfl) ?_
    refine wpE_region (id := 0) (ops := r_num_Fit_int_int64_1) (by kernel_rfl) ?_
    refine reg_run [.plain, .plain] 2 [(0, [], Value.int .i64 x)] (by kernel_rfl) (by kernel_rfl) ?_
    refine reg_end [(0, Value.int .i64 x)] (by kernel_rfl) (by kernel_rfl) ?_
    change WpE _ _ c_num_Fit_int_int64_3 _ _ _
    refine wpE_seq (x := c_num_Fit_int_int64_4) (y := c_num_Fit_int_int64_6) (by kernel_rfl) ?_
    refine wpE_region (id := 1) (ops := r_num_Fit_int_int64_4) (by kernel_rfl) ?_
    refine reg_run [.plain, .plain] 2 [(0, [], Value.int .i64 x), (4, [], Value.int .i64 x)] (by kernel_rfl) (by kernel_rfl) ?_
    refine reg_end [(0, Value.int .i64 x), (4, Value.int .i64 x)] (by kernel_rfl) (by kernel_rfl) ?_
    change WpE _ _ c_num_Fit_int_int64_6 _ _ _
    refine wpE_seq (x := c_num_Fit_int_int64_7) (y := c_num_Fit_int_int64_16) (by kernel_rfl) ?_
    refine wpE_seq (x := c_num_Fit_int_int64_8) (y := c_num_Fit_int_int64_10) (by kernel_rfl) ?_
    refine wpE_region (id := 2) (ops := r_num_Fit_int_int64_8) (by kernel_rfl) ?_
    refine reg_run [.plain, .plain, .plain, .plain, .plain, .plain, .plain, .plain, .plain, .pick] 10 [(4, [], Value.int .i64 x), (15, [], Value.bool ((x != x) || (!((decide (x < 0)) == (decide (x < 0))))))] (by kernel_rfl) (by kernel_rfl) ?_
    refine reg_end [(4, Value.int .i64 x), (15, Value.bool ((x != x) || (!((decide (x < 0)) == (decide (x < 0))))))] (by kernel_rfl) (by kernel_rfl) ?_
    change WpE _ _ c_num_Fit_int_int64_10 _ _ _
    refine wpE_cond (o := (Operand.tmp 15)) (b := ((x != x) || (!((decide (x < 0)) == (decide (x < 0)))))) (x := c_num_Fit_int_int64_11) (y := c_num_Fit_int_int64_15) (by kernel_rfl) (by kernel_rfl) (fun hb => ?_) (fun hb => ?_)
    · replace h := h.1 hb
      refine wpE_seq (x := c_num_Fit_int_int64_12) (y := c_num_Fit_int_int64_14) (by kernel_rfl) ?_
      refine wpE_region (id := 3) (ops := r_num_Fit_int_int64_12) (by kernel_rfl) ?_
      refine reg_run [.plain, .plain] 2 [(2, [], Value.int .i64 0), (3, [], Value.bool false)] (by kernel_rfl) (by kernel_rfl) ?_
      refine reg_end [(2, Value.int .i64 0), (3, Value.bool false)] (by kernel_rfl) (by kernel_rfl) ?_
      change WpE _ _ c_num_Fit_int_int64_14 _ _ _
      refine wpE_ret (by kernel_rfl) ?_
      repeat (first | refine seqQ_ret ?_ | refine blockQ_ret ?_ | refine loopQ_ret ?_ | refine cutQ_ret ?_)
      exact retT (rs := [(Go.ResultVar.tmp 2), (Go.ResultVar.tmp 3)]) (vs := [Value.int .i64 0, Value.bool false]) (by kernel_rfl) (⟨by kernel_rfl, ⟨by kernel_rfl, trivial⟩⟩) (by kernel_rfl) ⟨0, false, rfl, h⟩
    · replace h := h.2 hb
      refine wpE_skip (by kernel_rfl) ?_
      change WpE _ _ c_num_Fit_int_int64_16 _ _ _
      refine wpE_seq (x := c_num_Fit_int_int64_17) (y := c_num_Fit_int_int64_19) (by kernel_rfl) ?_
      refine wpE_region (id := 4) (ops := r_num_Fit_int_int64_17) (by kernel_rfl) ?_
      refine reg_run [.plain, .plain, .plain] 3 [(2, [], Value.int .i64 x), (3, [], Value.bool true)] (by kernel_rfl) (by kernel_rfl) ?_
      refine reg_end [(2, Value.int .i64 x), (3, Value.bool true)] (by kernel_rfl) (by kernel_rfl) ?_
      change WpE _ _ c_num_Fit_int_int64_19 _ _ _
      refine wpE_ret (by kernel_rfl) ?_
      repeat (first | refine seqQ_ret ?_ | refine blockQ_ret ?_ | refine loopQ_ret ?_ | refine cutQ_ret ?_)
      exact retT (rs := [(Go.ResultVar.tmp 2), (Go.ResultVar.tmp 3)]) (vs := [Value.int .i64 x, Value.bool true]) (by kernel_rfl) (⟨by kernel_rfl, ⟨by kernel_rfl, trivial⟩⟩) (by kernel_rfl) ⟨x, true, rfl, h⟩
  · rintro e w' ⟨v, rfl, r0, r1, rfl, h⟩; exact ⟨r0, r1, rfl, h⟩

/-! ### towpath/num.Fit[uint8,int64] (function 19) -/
noncomputable def c_num_Fit_uint8_int64_0 : Code := (Try.f19.body).getD Code.skip
noncomputable def c_num_Fit_uint8_int64_1 : Code := Code.l c_num_Fit_uint8_int64_0
noncomputable def r_num_Fit_uint8_int64_1 : Array Oper := Code.ops c_num_Fit_uint8_int64_1
noncomputable def c_num_Fit_uint8_int64_3 : Code := Code.r c_num_Fit_uint8_int64_0
noncomputable def c_num_Fit_uint8_int64_4 : Code := Code.l c_num_Fit_uint8_int64_3
noncomputable def r_num_Fit_uint8_int64_4 : Array Oper := Code.ops c_num_Fit_uint8_int64_4
noncomputable def c_num_Fit_uint8_int64_6 : Code := Code.r c_num_Fit_uint8_int64_3
noncomputable def c_num_Fit_uint8_int64_7 : Code := Code.l c_num_Fit_uint8_int64_6
noncomputable def c_num_Fit_uint8_int64_8 : Code := Code.l c_num_Fit_uint8_int64_7
noncomputable def r_num_Fit_uint8_int64_8 : Array Oper := Code.ops c_num_Fit_uint8_int64_8
noncomputable def c_num_Fit_uint8_int64_10 : Code := Code.r c_num_Fit_uint8_int64_7
noncomputable def c_num_Fit_uint8_int64_11 : Code := Code.l c_num_Fit_uint8_int64_10
noncomputable def c_num_Fit_uint8_int64_12 : Code := Code.l c_num_Fit_uint8_int64_11
noncomputable def r_num_Fit_uint8_int64_12 : Array Oper := Code.ops c_num_Fit_uint8_int64_12
noncomputable def c_num_Fit_uint8_int64_14 : Code := Code.r c_num_Fit_uint8_int64_11
noncomputable def c_num_Fit_uint8_int64_15 : Code := Code.r c_num_Fit_uint8_int64_10
noncomputable def c_num_Fit_uint8_int64_16 : Code := Code.r c_num_Fit_uint8_int64_6
noncomputable def c_num_Fit_uint8_int64_17 : Code := Code.l c_num_Fit_uint8_int64_16
noncomputable def r_num_Fit_uint8_int64_17 : Array Oper := Code.ops c_num_Fit_uint8_int64_17
noncomputable def c_num_Fit_uint8_int64_19 : Code := Code.r c_num_Fit_uint8_int64_16

set_option maxRecDepth 100000 in
theorem S_num_Fit_uint8_int64 {x : Int} {w : World} {R : Int → Bool → World → Prop} (h : F_num_Fit_uint8_int64 x R w) : C_num_Fit_uint8_int64 x w R := by
  unfold F_num_Fit_uint8_int64 at h
  unfold C_num_Fit_uint8_int64
  refine Calls.mono (calls_of_wpE (args := [Value.int .i64 x]) (R := fun v w' => ∃ (r0 : Int) (r1 : Bool), v = Value.tuple #[Value.int .u8 r0, Value.bool r1] ∧ R r0 r1 w') Try.func19 (c := c_num_Fit_uint8_int64_0) (by kernel_rfl) 19 (by kernel_rfl) (by kernel_rfl) [(0, Value.int .i64 x)] (by kernel_rfl) ?_) ?_
  · refine wpE_seq (x := c_num_Fit_uint8_int64_1) (y := c_num_Fit_uint8_int64_3) (by kernel_rfl) ?_
    refine wpE_region (id := 0) (ops := r_num_Fit_uint8_int64_1) (by kernel_rfl) ?_
    refine reg_run [.plain, .plain] 2 [(0, [], Value.int .i64 x)] (by kernel_rfl) (by kernel_rfl) ?_
    refine reg_end [(0, Value.int .i64 x)] (by kernel_rfl) (by kernel_rfl) ?_
    change WpE _ _ c_num_Fit_uint8_int64_3 _ _ _
    refine wpE_seq (x := c_num_Fit_uint8_int64_4) (y := c_num_Fit_uint8_int64_6) (by kernel_rfl) ?_
    refine wpE_region (id := 1) (ops := r_num_Fit_uint8_int64_4) (by kernel_rfl) ?_
    refine reg_run [.plain, .plain, .plain] 3 [(0, [], Value.int .i64 x), (4, [], Value.int .u8 (IntKind.u8.wrap x))] (by kernel_rfl) (by kernel_rfl) ?_
    refine reg_end [(0, Value.int .i64 x), (4, Value.int .u8 (IntKind.u8.wrap x))] (by kernel_rfl) (by kernel_rfl) ?_
    change WpE _ _ c_num_Fit_uint8_int64_6 _ _ _
    refine wpE_seq (x := c_num_Fit_uint8_int64_7) (y := c_num_Fit_uint8_int64_16) (by kernel_rfl) ?_
    refine wpE_seq (x := c_num_Fit_uint8_int64_8) (y := c_num_Fit_uint8_int64_10) (by kernel_rfl) ?_
    refine wpE_region (id := 2) (ops := r_num_Fit_uint8_int64_8) (by kernel_rfl) ?_
    refine reg_run [.plain, .plain, .plain, .plain, .plain, .plain, .plain, .plain, .plain, .plain, .pick] 11 [(4, [], Value.int .u8 (IntKind.u8.wrap x)), (17, [], Value.bool (((IntKind.i64.wrap (IntKind.u8.wrap x)) != x) || (!((decide (x < 0)) == (decide ((IntKind.u8.wrap x) < 0))))))] (by kernel_rfl) (by kernel_rfl) ?_
    refine reg_end [(4, Value.int .u8 (IntKind.u8.wrap x)), (17, Value.bool (((IntKind.i64.wrap (IntKind.u8.wrap x)) != x) || (!((decide (x < 0)) == (decide ((IntKind.u8.wrap x) < 0))))))] (by kernel_rfl) (by kernel_rfl) ?_
    change WpE _ _ c_num_Fit_uint8_int64_10 _ _ _
    refine wpE_cond (o := (Operand.tmp 17)) (b := (((IntKind.i64.wrap (IntKind.u8.wrap x)) != x) || (!((decide (x < 0)) == (decide ((IntKind.u8.wrap x) < 0)))))) (x := c_num_Fit_uint8_int64_11) (y := c_num_Fit_uint8_int64_15) (by kernel_rfl) (by kernel_rfl) (fun hb => ?_) (fun hb => ?_)
    · replace h := h.1 hb
      refine wpE_seq (x := c_num_Fit_uint8_int64_12) (y := c_num_Fit_uint8_int64_14) (by kernel_rfl) ?_
      refine wpE_region (id := 3) (ops := r_num_Fit_uint8_int64_12) (by kernel_rfl) ?_
      refine reg_run [.plain, .plain] 2 [(2, [], Value.int .u8 0), (3, [], Value.bool false)] (by kernel_rfl) (by kernel_rfl) ?_
      refine reg_end [(2, Value.int .u8 0), (3, Value.bool false)] (by kernel_rfl) (by kernel_rfl) ?_
      change WpE _ _ c_num_Fit_uint8_int64_14 _ _ _
      refine wpE_ret (by kernel_rfl) ?_
      repeat (first | refine seqQ_ret ?_ | refine blockQ_ret ?_ | refine loopQ_ret ?_ | refine cutQ_ret ?_)
      exact retT (rs := [(Go.ResultVar.tmp 2), (Go.ResultVar.tmp 3)]) (vs := [Value.int .u8 0, Value.bool false]) (by kernel_rfl) (⟨by kernel_rfl, ⟨by kernel_rfl, trivial⟩⟩) (by kernel_rfl) ⟨0, false, rfl, h⟩
    · replace h := h.2 hb
      refine wpE_skip (by kernel_rfl) ?_
      change WpE _ _ c_num_Fit_uint8_int64_16 _ _ _
      refine wpE_seq (x := c_num_Fit_uint8_int64_17) (y := c_num_Fit_uint8_int64_19) (by kernel_rfl) ?_
      refine wpE_region (id := 4) (ops := r_num_Fit_uint8_int64_17) (by kernel_rfl) ?_
      refine reg_run [.plain, .plain, .plain] 3 [(2, [], Value.int .u8 (IntKind.u8.wrap x)), (3, [], Value.bool true)] (by kernel_rfl) (by kernel_rfl) ?_
      refine reg_end [(2, Value.int .u8 (IntKind.u8.wrap x)), (3, Value.bool true)] (by kernel_rfl) (by kernel_rfl) ?_
      change WpE _ _ c_num_Fit_uint8_int64_19 _ _ _
      refine wpE_ret (by kernel_rfl) ?_
      repeat (first | refine seqQ_ret ?_ | refine blockQ_ret ?_ | refine loopQ_ret ?_ | refine cutQ_ret ?_)
      exact retT (rs := [(Go.ResultVar.tmp 2), (Go.ResultVar.tmp 3)]) (vs := [Value.int .u8 (IntKind.u8.wrap x), Value.bool true]) (by kernel_rfl) (⟨by kernel_rfl, ⟨by kernel_rfl, trivial⟩⟩) (by kernel_rfl) ⟨(IntKind.u8.wrap x), true, rfl, h⟩
  · rintro e w' ⟨v, rfl, r0, r1, rfl, h⟩; exact ⟨r0, r1, rfl, h⟩

/-! ### towpath/num.Fit[uint16,int64] (function 20) -/
noncomputable def c_num_Fit_uint16_int64_0 : Code := (Try.f20.body).getD Code.skip
noncomputable def c_num_Fit_uint16_int64_1 : Code := Code.l c_num_Fit_uint16_int64_0
noncomputable def r_num_Fit_uint16_int64_1 : Array Oper := Code.ops c_num_Fit_uint16_int64_1
noncomputable def c_num_Fit_uint16_int64_3 : Code := Code.r c_num_Fit_uint16_int64_0
noncomputable def c_num_Fit_uint16_int64_4 : Code := Code.l c_num_Fit_uint16_int64_3
noncomputable def r_num_Fit_uint16_int64_4 : Array Oper := Code.ops c_num_Fit_uint16_int64_4
noncomputable def c_num_Fit_uint16_int64_6 : Code := Code.r c_num_Fit_uint16_int64_3
noncomputable def c_num_Fit_uint16_int64_7 : Code := Code.l c_num_Fit_uint16_int64_6
noncomputable def c_num_Fit_uint16_int64_8 : Code := Code.l c_num_Fit_uint16_int64_7
noncomputable def r_num_Fit_uint16_int64_8 : Array Oper := Code.ops c_num_Fit_uint16_int64_8
noncomputable def c_num_Fit_uint16_int64_10 : Code := Code.r c_num_Fit_uint16_int64_7
noncomputable def c_num_Fit_uint16_int64_11 : Code := Code.l c_num_Fit_uint16_int64_10
noncomputable def c_num_Fit_uint16_int64_12 : Code := Code.l c_num_Fit_uint16_int64_11
noncomputable def r_num_Fit_uint16_int64_12 : Array Oper := Code.ops c_num_Fit_uint16_int64_12
noncomputable def c_num_Fit_uint16_int64_14 : Code := Code.r c_num_Fit_uint16_int64_11
noncomputable def c_num_Fit_uint16_int64_15 : Code := Code.r c_num_Fit_uint16_int64_10
noncomputable def c_num_Fit_uint16_int64_16 : Code := Code.r c_num_Fit_uint16_int64_6
noncomputable def c_num_Fit_uint16_int64_17 : Code := Code.l c_num_Fit_uint16_int64_16
noncomputable def r_num_Fit_uint16_int64_17 : Array Oper := Code.ops c_num_Fit_uint16_int64_17
noncomputable def c_num_Fit_uint16_int64_19 : Code := Code.r c_num_Fit_uint16_int64_16

set_option maxRecDepth 100000 in
theorem S_num_Fit_uint16_int64 {x : Int} {w : World} {R : Int → Bool → World → Prop} (h : F_num_Fit_uint16_int64 x R w) : C_num_Fit_uint16_int64 x w R := by
  unfold F_num_Fit_uint16_int64 at h
  unfold C_num_Fit_uint16_int64
  refine Calls.mono (calls_of_wpE (args := [Value.int .i64 x]) (R := fun v w' => ∃ (r0 : Int) (r1 : Bool), v = Value.tuple #[Value.int .u16 r0, Value.bool r1] ∧ R r0 r1 w') Try.func20 (c := c_num_Fit_uint16_int64_0) (by kernel_rfl) 19 (by kernel_rfl) (by kernel_rfl) [(0, Value.int .i64 x)] (by kernel_rfl) ?_) ?_
  · refine wpE_seq (x := c_num_Fit_uint16_int64_1) (y := c_num_Fit_uint16_int64_3) (by kernel_rfl) ?_
    refine wpE_region (id := 0) (ops := r_num_Fit_uint16_int64_1) (by kernel_rfl) ?_
    refine reg_run [.plain, .plain] 2 [(0, [], Value.int .i64 x)] (by kernel_rfl) (by kernel_rfl) ?_
    refine reg_end [(0, Value.int .i64 x)] (by kernel_rfl) (by kernel_rfl) ?_
    change WpE _ _ c_num_Fit_uint16_int64_3 _ _ _
    refine wpE_seq (x := c_num_Fit_uint16_int64_4) (y := c_num_Fit_uint16_int64_6) (by kernel_rfl) ?_
    refine wpE_region (id := 1) (ops := r_num_Fit_uint16_int64_4) (by kernel_rfl) ?_
    refine reg_run [.plain, .plain, .plain] 3 [(0, [], Value.int .i64 x), (4, [], Value.int .u16 (IntKind.u16.wrap x))] (by kernel_rfl) (by kernel_rfl) ?_
    refine reg_end [(0, Value.int .i64 x), (4, Value.int .u16 (IntKind.u16.wrap x))] (by kernel_rfl) (by kernel_rfl) ?_
    change WpE _ _ c_num_Fit_uint16_int64_6 _ _ _
    refine wpE_seq (x := c_num_Fit_uint16_int64_7) (y := c_num_Fit_uint16_int64_16) (by kernel_rfl) ?_
    refine wpE_seq (x := c_num_Fit_uint16_int64_8) (y := c_num_Fit_uint16_int64_10) (by kernel_rfl) ?_
    refine wpE_region (id := 2) (ops := r_num_Fit_uint16_int64_8) (by kernel_rfl) ?_
    refine reg_run [.plain, .plain, .plain, .plain, .plain, .plain, .plain, .plain, .plain, .plain, .pick] 11 [(4, [], Value.int .u16 (IntKind.u16.wrap x)), (17, [], Value.bool (((IntKind.i64.wrap (IntKind.u16.wrap x)) != x) || (!((decide (x < 0)) == (decide ((IntKind.u16.wrap x) < 0))))))] (by kernel_rfl) (by kernel_rfl) ?_
    refine reg_end [(4, Value.int .u16 (IntKind.u16.wrap x)), (17, Value.bool (((IntKind.i64.wrap (IntKind.u16.wrap x)) != x) || (!((decide (x < 0)) == (decide ((IntKind.u16.wrap x) < 0))))))] (by kernel_rfl) (by kernel_rfl) ?_
    change WpE _ _ c_num_Fit_uint16_int64_10 _ _ _
    refine wpE_cond (o := (Operand.tmp 17)) (b := (((IntKind.i64.wrap (IntKind.u16.wrap x)) != x) || (!((decide (x < 0)) == (decide ((IntKind.u16.wrap x) < 0)))))) (x := c_num_Fit_uint16_int64_11) (y := c_num_Fit_uint16_int64_15) (by kernel_rfl) (by kernel_rfl) (fun hb => ?_) (fun hb => ?_)
    · replace h := h.1 hb
      refine wpE_seq (x := c_num_Fit_uint16_int64_12) (y := c_num_Fit_uint16_int64_14) (by kernel_rfl) ?_
      refine wpE_region (id := 3) (ops := r_num_Fit_uint16_int64_12) (by kernel_rfl) ?_
      refine reg_run [.plain, .plain] 2 [(2, [], Value.int .u16 0), (3, [], Value.bool false)] (by kernel_rfl) (by kernel_rfl) ?_
      refine reg_end [(2, Value.int .u16 0), (3, Value.bool false)] (by kernel_rfl) (by kernel_rfl) ?_
      change WpE _ _ c_num_Fit_uint16_int64_14 _ _ _
      refine wpE_ret (by kernel_rfl) ?_
      repeat (first | refine seqQ_ret ?_ | refine blockQ_ret ?_ | refine loopQ_ret ?_ | refine cutQ_ret ?_)
      exact retT (rs := [(Go.ResultVar.tmp 2), (Go.ResultVar.tmp 3)]) (vs := [Value.int .u16 0, Value.bool false]) (by kernel_rfl) (⟨by kernel_rfl, ⟨by kernel_rfl, trivial⟩⟩) (by kernel_rfl) ⟨0, false, rfl, h⟩
    · replace h := h.2 hb
      refine wpE_skip (by kernel_rfl) ?_
      change WpE _ _ c_num_Fit_uint16_int64_16 _ _ _
      refine wpE_seq (x := c_num_Fit_uint16_int64_17) (y := c_num_Fit_uint16_int64_19) (by kernel_rfl) ?_
      refine wpE_region (id := 4) (ops := r_num_Fit_uint16_int64_17) (by kernel_rfl) ?_
      refine reg_run [.plain, .plain, .plain] 3 [(2, [], Value.int .u16 (IntKind.u16.wrap x)), (3, [], Value.bool true)] (by kernel_rfl) (by kernel_rfl) ?_
      refine reg_end [(2, Value.int .u16 (IntKind.u16.wrap x)), (3, Value.bool true)] (by kernel_rfl) (by kernel_rfl) ?_
      change WpE _ _ c_num_Fit_uint16_int64_19 _ _ _
      refine wpE_ret (by kernel_rfl) ?_
      repeat (first | refine seqQ_ret ?_ | refine blockQ_ret ?_ | refine loopQ_ret ?_ | refine cutQ_ret ?_)
      exact retT (rs := [(Go.ResultVar.tmp 2), (Go.ResultVar.tmp 3)]) (vs := [Value.int .u16 (IntKind.u16.wrap x), Value.bool true]) (by kernel_rfl) (⟨by kernel_rfl, ⟨by kernel_rfl, trivial⟩⟩) (by kernel_rfl) ⟨(IntKind.u16.wrap x), true, rfl, h⟩
  · rintro e w' ⟨v, rfl, r0, r1, rfl, h⟩; exact ⟨r0, r1, rfl, h⟩

/-! ### towpath/num.Fit[uint32,int64] (function 21) -/
noncomputable def c_num_Fit_uint32_int64_0 : Code := (Try.f21.body).getD Code.skip
noncomputable def c_num_Fit_uint32_int64_1 : Code := Code.l c_num_Fit_uint32_int64_0
noncomputable def r_num_Fit_uint32_int64_1 : Array Oper := Code.ops c_num_Fit_uint32_int64_1
noncomputable def c_num_Fit_uint32_int64_3 : Code := Code.r c_num_Fit_uint32_int64_0
noncomputable def c_num_Fit_uint32_int64_4 : Code := Code.l c_num_Fit_uint32_int64_3
noncomputable def r_num_Fit_uint32_int64_4 : Array Oper := Code.ops c_num_Fit_uint32_int64_4
noncomputable def c_num_Fit_uint32_int64_6 : Code := Code.r c_num_Fit_uint32_int64_3
noncomputable def c_num_Fit_uint32_int64_7 : Code := Code.l c_num_Fit_uint32_int64_6
noncomputable def c_num_Fit_uint32_int64_8 : Code := Code.l c_num_Fit_uint32_int64_7
noncomputable def r_num_Fit_uint32_int64_8 : Array Oper := Code.ops c_num_Fit_uint32_int64_8
noncomputable def c_num_Fit_uint32_int64_10 : Code := Code.r c_num_Fit_uint32_int64_7
noncomputable def c_num_Fit_uint32_int64_11 : Code := Code.l c_num_Fit_uint32_int64_10
noncomputable def c_num_Fit_uint32_int64_12 : Code := Code.l c_num_Fit_uint32_int64_11
noncomputable def r_num_Fit_uint32_int64_12 : Array Oper := Code.ops c_num_Fit_uint32_int64_12
noncomputable def c_num_Fit_uint32_int64_14 : Code := Code.r c_num_Fit_uint32_int64_11
noncomputable def c_num_Fit_uint32_int64_15 : Code := Code.r c_num_Fit_uint32_int64_10
noncomputable def c_num_Fit_uint32_int64_16 : Code := Code.r c_num_Fit_uint32_int64_6
noncomputable def c_num_Fit_uint32_int64_17 : Code := Code.l c_num_Fit_uint32_int64_16
noncomputable def r_num_Fit_uint32_int64_17 : Array Oper := Code.ops c_num_Fit_uint32_int64_17
noncomputable def c_num_Fit_uint32_int64_19 : Code := Code.r c_num_Fit_uint32_int64_16

set_option maxRecDepth 100000 in
theorem S_num_Fit_uint32_int64 {x : Int} {w : World} {R : Int → Bool → World → Prop} (h : F_num_Fit_uint32_int64 x R w) : C_num_Fit_uint32_int64 x w R := by
  unfold F_num_Fit_uint32_int64 at h
  unfold C_num_Fit_uint32_int64
  refine Calls.mono (calls_of_wpE (args := [Value.int .i64 x]) (R := fun v w' => ∃ (r0 : Int) (r1 : Bool), v = Value.tuple #[Value.int .u32 r0, Value.bool r1] ∧ R r0 r1 w') Try.func21 (c := c_num_Fit_uint32_int64_0) (by kernel_rfl) 19 (by kernel_rfl) (by kernel_rfl) [(0, Value.int .i64 x)] (by kernel_rfl) ?_) ?_
  · refine wpE_seq (x := c_num_Fit_uint32_int64_1) (y := c_num_Fit_uint32_int64_3) (by kernel_rfl) ?_
    refine wpE_region (id := 0) (ops := r_num_Fit_uint32_int64_1) (by kernel_rfl) ?_
    refine reg_run [.plain, .plain] 2 [(0, [], Value.int .i64 x)] (by kernel_rfl) (by kernel_rfl) ?_
    refine reg_end [(0, Value.int .i64 x)] (by kernel_rfl) (by kernel_rfl) ?_
    change WpE _ _ c_num_Fit_uint32_int64_3 _ _ _
    refine wpE_seq (x := c_num_Fit_uint32_int64_4) (y := c_num_Fit_uint32_int64_6) (by kernel_rfl) ?_
    refine wpE_region (id := 1) (ops := r_num_Fit_uint32_int64_4) (by kernel_rfl) ?_
    refine reg_run [.plain, .plain, .plain] 3 [(0, [], Value.int .i64 x), (4, [], Value.int .u32 (IntKind.u32.wrap x))] (by kernel_rfl) (by kernel_rfl) ?_
    refine reg_end [(0, Value.int .i64 x), (4, Value.int .u32 (IntKind.u32.wrap x))] (by kernel_rfl) (by kernel_rfl) ?_
    change WpE _ _ c_num_Fit_uint32_int64_6 _ _ _
    refine wpE_seq (x := c_num_Fit_uint32_int64_7) (y := c_num_Fit_uint32_int64_16) (by kernel_rfl) ?_
    refine wpE_seq (x := c_num_Fit_uint32_int64_8) (y := c_num_Fit_uint32_int64_10) (by kernel_rfl) ?_
    refine wpE_region (id := 2) (ops := r_num_Fit_uint32_int64_8) (by kernel_rfl) ?_
    refine reg_run [.plain, .plain, .plain, .plain, .plain, .plain, .plain, .plain, .plain, .plain, .pick] 11 [(4, [], Value.int .u32 (IntKind.u32.wrap x)), (17, [], Value.bool (((IntKind.i64.wrap (IntKind.u32.wrap x)) != x) || (!((decide (x < 0)) == (decide ((IntKind.u32.wrap x) < 0))))))] (by kernel_rfl) (by kernel_rfl) ?_
    refine reg_end [(4, Value.int .u32 (IntKind.u32.wrap x)), (17, Value.bool (((IntKind.i64.wrap (IntKind.u32.wrap x)) != x) || (!((decide (x < 0)) == (decide ((IntKind.u32.wrap x) < 0))))))] (by kernel_rfl) (by kernel_rfl) ?_
    change WpE _ _ c_num_Fit_uint32_int64_10 _ _ _
    refine wpE_cond (o := (Operand.tmp 17)) (b := (((IntKind.i64.wrap (IntKind.u32.wrap x)) != x) || (!((decide (x < 0)) == (decide ((IntKind.u32.wrap x) < 0)))))) (x := c_num_Fit_uint32_int64_11) (y := c_num_Fit_uint32_int64_15) (by kernel_rfl) (by kernel_rfl) (fun hb => ?_) (fun hb => ?_)
    · replace h := h.1 hb
      refine wpE_seq (x := c_num_Fit_uint32_int64_12) (y := c_num_Fit_uint32_int64_14) (by kernel_rfl) ?_
      refine wpE_region (id := 3) (ops := r_num_Fit_uint32_int64_12) (by kernel_rfl) ?_
      refine reg_run [.plain, .plain] 2 [(2, [], Value.int .u32 0), (3, [], Value.bool false)] (by kernel_rfl) (by kernel_rfl) ?_
      refine reg_end [(2, Value.int .u32 0), (3, Value.bool false)] (by kernel_rfl) (by kernel_rfl) ?_
      change WpE _ _ c_num_Fit_uint32_int64_14 _ _ _
      refine wpE_ret (by kernel_rfl) ?_
      repeat (first | refine seqQ_ret ?_ | refine blockQ_ret ?_ | refine loopQ_ret ?_ | refine cutQ_ret ?_)
      exact retT (rs := [(Go.ResultVar.tmp 2), (Go.ResultVar.tmp 3)]) (vs := [Value.int .u32 0, Value.bool false]) (by kernel_rfl) (⟨by kernel_rfl, ⟨by kernel_rfl, trivial⟩⟩) (by kernel_rfl) ⟨0, false, rfl, h⟩
    · replace h := h.2 hb
      refine wpE_skip (by kernel_rfl) ?_
      change WpE _ _ c_num_Fit_uint32_int64_16 _ _ _
      refine wpE_seq (x := c_num_Fit_uint32_int64_17) (y := c_num_Fit_uint32_int64_19) (by kernel_rfl) ?_
      refine wpE_region (id := 4) (ops := r_num_Fit_uint32_int64_17) (by kernel_rfl) ?_
      refine reg_run [.plain, .plain, .plain] 3 [(2, [], Value.int .u32 (IntKind.u32.wrap x)), (3, [], Value.bool true)] (by kernel_rfl) (by kernel_rfl) ?_
      refine reg_end [(2, Value.int .u32 (IntKind.u32.wrap x)), (3, Value.bool true)] (by kernel_rfl) (by kernel_rfl) ?_
      change WpE _ _ c_num_Fit_uint32_int64_19 _ _ _
      refine wpE_ret (by kernel_rfl) ?_
      repeat (first | refine seqQ_ret ?_ | refine blockQ_ret ?_ | refine loopQ_ret ?_ | refine cutQ_ret ?_)
      exact retT (rs := [(Go.ResultVar.tmp 2), (Go.ResultVar.tmp 3)]) (vs := [Value.int .u32 (IntKind.u32.wrap x), Value.bool true]) (by kernel_rfl) (⟨by kernel_rfl, ⟨by kernel_rfl, trivial⟩⟩) (by kernel_rfl) ⟨(IntKind.u32.wrap x), true, rfl, h⟩
  · rintro e w' ⟨v, rfl, r0, r1, rfl, h⟩; exact ⟨r0, r1, rfl, h⟩

/-! ### towpath/num.Fit[uint64,int64] (function 22) -/
noncomputable def c_num_Fit_uint64_int64_0 : Code := (Try.f22.body).getD Code.skip
noncomputable def c_num_Fit_uint64_int64_1 : Code := Code.l c_num_Fit_uint64_int64_0
noncomputable def r_num_Fit_uint64_int64_1 : Array Oper := Code.ops c_num_Fit_uint64_int64_1
noncomputable def c_num_Fit_uint64_int64_3 : Code := Code.r c_num_Fit_uint64_int64_0
noncomputable def c_num_Fit_uint64_int64_4 : Code := Code.l c_num_Fit_uint64_int64_3
noncomputable def r_num_Fit_uint64_int64_4 : Array Oper := Code.ops c_num_Fit_uint64_int64_4
noncomputable def c_num_Fit_uint64_int64_6 : Code := Code.r c_num_Fit_uint64_int64_3
noncomputable def c_num_Fit_uint64_int64_7 : Code := Code.l c_num_Fit_uint64_int64_6
noncomputable def c_num_Fit_uint64_int64_8 : Code := Code.l c_num_Fit_uint64_int64_7
noncomputable def r_num_Fit_uint64_int64_8 : Array Oper := Code.ops c_num_Fit_uint64_int64_8
noncomputable def c_num_Fit_uint64_int64_10 : Code := Code.r c_num_Fit_uint64_int64_7
noncomputable def c_num_Fit_uint64_int64_11 : Code := Code.l c_num_Fit_uint64_int64_10
noncomputable def c_num_Fit_uint64_int64_12 : Code := Code.l c_num_Fit_uint64_int64_11
noncomputable def r_num_Fit_uint64_int64_12 : Array Oper := Code.ops c_num_Fit_uint64_int64_12
noncomputable def c_num_Fit_uint64_int64_14 : Code := Code.r c_num_Fit_uint64_int64_11
noncomputable def c_num_Fit_uint64_int64_15 : Code := Code.r c_num_Fit_uint64_int64_10
noncomputable def c_num_Fit_uint64_int64_16 : Code := Code.r c_num_Fit_uint64_int64_6
noncomputable def c_num_Fit_uint64_int64_17 : Code := Code.l c_num_Fit_uint64_int64_16
noncomputable def r_num_Fit_uint64_int64_17 : Array Oper := Code.ops c_num_Fit_uint64_int64_17
noncomputable def c_num_Fit_uint64_int64_19 : Code := Code.r c_num_Fit_uint64_int64_16

set_option maxRecDepth 100000 in
theorem S_num_Fit_uint64_int64 {x : Int} {w : World} {R : Int → Bool → World → Prop} (h : F_num_Fit_uint64_int64 x R w) : C_num_Fit_uint64_int64 x w R := by
  unfold F_num_Fit_uint64_int64 at h
  unfold C_num_Fit_uint64_int64
  refine Calls.mono (calls_of_wpE (args := [Value.int .i64 x]) (R := fun v w' => ∃ (r0 : Int) (r1 : Bool), v = Value.tuple #[Value.int .u64 r0, Value.bool r1] ∧ R r0 r1 w') Try.func22 (c := c_num_Fit_uint64_int64_0) (by kernel_rfl) 19 (by kernel_rfl) (by kernel_rfl) [(0, Value.int .i64 x)] (by kernel_rfl) ?_) ?_
  · refine wpE_seq (x := c_num_Fit_uint64_int64_1) (y := c_num_Fit_uint64_int64_3) (by kernel_rfl) ?_
    refine wpE_region (id := 0) (ops := r_num_Fit_uint64_int64_1) (by kernel_rfl) ?_
    refine reg_run [.plain, .plain] 2 [(0, [], Value.int .i64 x)] (by kernel_rfl) (by kernel_rfl) ?_
    refine reg_end [(0, Value.int .i64 x)] (by kernel_rfl) (by kernel_rfl) ?_
    change WpE _ _ c_num_Fit_uint64_int64_3 _ _ _
    refine wpE_seq (x := c_num_Fit_uint64_int64_4) (y := c_num_Fit_uint64_int64_6) (by kernel_rfl) ?_
    refine wpE_region (id := 1) (ops := r_num_Fit_uint64_int64_4) (by kernel_rfl) ?_
    refine reg_run [.plain, .plain, .plain] 3 [(0, [], Value.int .i64 x), (4, [], Value.int .u64 (IntKind.u64.wrap x))] (by kernel_rfl) (by kernel_rfl) ?_
    refine reg_end [(0, Value.int .i64 x), (4, Value.int .u64 (IntKind.u64.wrap x))] (by kernel_rfl) (by kernel_rfl) ?_
    change WpE _ _ c_num_Fit_uint64_int64_6 _ _ _
    refine wpE_seq (x := c_num_Fit_uint64_int64_7) (y := c_num_Fit_uint64_int64_16) (by kernel_rfl) ?_
    refine wpE_seq (x := c_num_Fit_uint64_int64_8) (y := c_num_Fit_uint64_int64_10) (by kernel_rfl) ?_
    refine wpE_region (id := 2) (ops := r_num_Fit_uint64_int64_8) (by kernel_rfl) ?_
    refine reg_run [.plain, .plain, .plain, .plain, .plain, .plain, .plain, .plain, .plain, .plain, .pick] 11 [(4, [], Value.int .u64 (IntKind.u64.wrap x)), (17, [], Value.bool (((IntKind.i64.wrap (IntKind.u64.wrap x)) != x) || (!((decide (x < 0)) == (decide ((IntKind.u64.wrap x) < 0))))))] (by kernel_rfl) (by kernel_rfl) ?_
    refine reg_end [(4, Value.int .u64 (IntKind.u64.wrap x)), (17, Value.bool (((IntKind.i64.wrap (IntKind.u64.wrap x)) != x) || (!((decide (x < 0)) == (decide ((IntKind.u64.wrap x) < 0))))))] (by kernel_rfl) (by kernel_rfl) ?_
    change WpE _ _ c_num_Fit_uint64_int64_10 _ _ _
    refine wpE_cond (o := (Operand.tmp 17)) (b := (((IntKind.i64.wrap (IntKind.u64.wrap x)) != x) || (!((decide (x < 0)) == (decide ((IntKind.u64.wrap x) < 0)))))) (x := c_num_Fit_uint64_int64_11) (y := c_num_Fit_uint64_int64_15) (by kernel_rfl) (by kernel_rfl) (fun hb => ?_) (fun hb => ?_)
    · replace h := h.1 hb
      refine wpE_seq (x := c_num_Fit_uint64_int64_12) (y := c_num_Fit_uint64_int64_14) (by kernel_rfl) ?_
      refine wpE_region (id := 3) (ops := r_num_Fit_uint64_int64_12) (by kernel_rfl) ?_
      refine reg_run [.plain, .plain] 2 [(2, [], Value.int .u64 0), (3, [], Value.bool false)] (by kernel_rfl) (by kernel_rfl) ?_
      refine reg_end [(2, Value.int .u64 0), (3, Value.bool false)] (by kernel_rfl) (by kernel_rfl) ?_
      change WpE _ _ c_num_Fit_uint64_int64_14 _ _ _
      refine wpE_ret (by kernel_rfl) ?_
      repeat (first | refine seqQ_ret ?_ | refine blockQ_ret ?_ | refine loopQ_ret ?_ | refine cutQ_ret ?_)
      exact retT (rs := [(Go.ResultVar.tmp 2), (Go.ResultVar.tmp 3)]) (vs := [Value.int .u64 0, Value.bool false]) (by kernel_rfl) (⟨by kernel_rfl, ⟨by kernel_rfl, trivial⟩⟩) (by kernel_rfl) ⟨0, false, rfl, h⟩
    · replace h := h.2 hb
      refine wpE_skip (by kernel_rfl) ?_
      change WpE _ _ c_num_Fit_uint64_int64_16 _ _ _
      refine wpE_seq (x := c_num_Fit_uint64_int64_17) (y := c_num_Fit_uint64_int64_19) (by kernel_rfl) ?_
      refine wpE_region (id := 4) (ops := r_num_Fit_uint64_int64_17) (by kernel_rfl) ?_
      refine reg_run [.plain, .plain, .plain] 3 [(2, [], Value.int .u64 (IntKind.u64.wrap x)), (3, [], Value.bool true)] (by kernel_rfl) (by kernel_rfl) ?_
      refine reg_end [(2, Value.int .u64 (IntKind.u64.wrap x)), (3, Value.bool true)] (by kernel_rfl) (by kernel_rfl) ?_
      change WpE _ _ c_num_Fit_uint64_int64_19 _ _ _
      refine wpE_ret (by kernel_rfl) ?_
      repeat (first | refine seqQ_ret ?_ | refine blockQ_ret ?_ | refine loopQ_ret ?_ | refine cutQ_ret ?_)
      exact retT (rs := [(Go.ResultVar.tmp 2), (Go.ResultVar.tmp 3)]) (vs := [Value.int .u64 (IntKind.u64.wrap x), Value.bool true]) (by kernel_rfl) (⟨by kernel_rfl, ⟨by kernel_rfl, trivial⟩⟩) (by kernel_rfl) ⟨(IntKind.u64.wrap x), true, rfl, h⟩
  · rintro e w' ⟨v, rfl, r0, r1, rfl, h⟩; exact ⟨r0, r1, rfl, h⟩

/-! ### towpath/towpathlaw01.size (function 23) -/
noncomputable def c_towpathlaw01_size_0 : Code := (Try.f23.body).getD Code.skip
noncomputable def c_towpathlaw01_size_1 : Code := Code.l c_towpathlaw01_size_0
noncomputable def r_towpathlaw01_size_1 : Array Oper := Code.ops c_towpathlaw01_size_1
noncomputable def c_towpathlaw01_size_3 : Code := Code.r c_towpathlaw01_size_0
noncomputable def c_towpathlaw01_size_4 : Code := Code.l c_towpathlaw01_size_3
noncomputable def c_towpathlaw01_size_5 : Code := Code.l c_towpathlaw01_size_4
noncomputable def r_towpathlaw01_size_5 : Array Oper := Code.ops c_towpathlaw01_size_5
noncomputable def c_towpathlaw01_size_7 : Code := Code.r c_towpathlaw01_size_4
noncomputable def c_towpathlaw01_size_8 : Code := Code.l c_towpathlaw01_size_7
noncomputable def c_towpathlaw01_size_9 : Code := Code.l c_towpathlaw01_size_8
noncomputable def r_towpathlaw01_size_9 : Array Oper := Code.ops c_towpathlaw01_size_9
noncomputable def c_towpathlaw01_size_11 : Code := Code.r c_towpathlaw01_size_8
noncomputable def c_towpathlaw01_size_12 : Code := Code.r c_towpathlaw01_size_7
noncomputable def c_towpathlaw01_size_13 : Code := Code.r c_towpathlaw01_size_3
noncomputable def c_towpathlaw01_size_14 : Code := Code.l c_towpathlaw01_size_13
noncomputable def r_towpathlaw01_size_14 : Array Oper := Code.ops c_towpathlaw01_size_14
noncomputable def c_towpathlaw01_size_16 : Code := Code.r c_towpathlaw01_size_13

set_option maxRecDepth 100000 in
theorem S_towpathlaw01_size {x : Int} {w : World} {R : Int → World → Prop} (h : F_towpathlaw01_size x R w) : C_towpathlaw01_size x w R := by
  unfold F_towpathlaw01_size at h
  unfold C_towpathlaw01_size
  refine Calls.mono (calls_of_wpE (args := [Value.int .i64 x]) (R := fun v w' => ∃ (r0 : Int), v = Value.int .u64 r0 ∧ R r0 w') Try.func23 (c := c_towpathlaw01_size_0) (by kernel_rfl) 10 (by kernel_rfl) (by kernel_rfl) [(0, Value.int .i64 x)] (by kernel_rfl) ?_) ?_
  · refine wpE_seq (x := c_towpathlaw01_size_1) (y := c_towpathlaw01_size_3) (by kernel_rfl) ?_
    refine wpE_region (id := 0) (ops := r_towpathlaw01_size_1) (by kernel_rfl) ?_
    refine reg_run [.plain] 1 [(0, [], Value.int .i64 x)] (by kernel_rfl) (by kernel_rfl) ?_
    refine reg_end [(0, Value.int .i64 x)] (by kernel_rfl) (by kernel_rfl) ?_
    change WpE _ _ c_towpathlaw01_size_3 _ _ _
    refine wpE_seq (x := c_towpathlaw01_size_4) (y := c_towpathlaw01_size_13) (by kernel_rfl) ?_
    refine wpE_seq (x := c_towpathlaw01_size_5) (y := c_towpathlaw01_size_7) (by kernel_rfl) ?_
    refine wpE_region (id := 1) (ops := r_towpathlaw01_size_5) (by kernel_rfl) ?_
    refine reg_run [.plain, .plain] 2 [(0, [], Value.int .i64 x), (4, [], Value.bool (decide (x < 0)))] (by kernel_rfl) (by kernel_rfl) ?_
    refine reg_end [(0, Value.int .i64 x), (4, Value.bool (decide (x < 0)))] (by kernel_rfl) (by kernel_rfl) ?_
    change WpE _ _ c_towpathlaw01_size_7 _ _ _
    refine wpE_cond (o := (Operand.tmp 4)) (b := (decide (x < 0))) (x := c_towpathlaw01_size_8) (y := c_towpathlaw01_size_12) (by kernel_rfl) (by kernel_rfl) (fun hb => ?_) (fun hb => ?_)
    · replace h := h.1 hb
      refine wpE_seq (x := c_towpathlaw01_size_9) (y := c_towpathlaw01_size_11) (by kernel_rfl) ?_
      refine wpE_region (id := 2) (ops := r_towpathlaw01_size_9) (by kernel_rfl) ?_
      refine reg_run [.plain, .plain, .plain, .plain] 4 [(2, [], Value.int .u64 (IntKind.u64.wrap (0 - (IntKind.u64.wrap x))))] (by kernel_rfl) (by kernel_rfl) ?_
      refine reg_end [(2, Value.int .u64 (IntKind.u64.wrap (0 - (IntKind.u64.wrap x))))] (by kernel_rfl) (by kernel_rfl) ?_
      change WpE _ _ c_towpathlaw01_size_11 _ _ _
      refine wpE_ret (by kernel_rfl) ?_
      repeat (first | refine seqQ_ret ?_ | refine blockQ_ret ?_ | refine loopQ_ret ?_ | refine cutQ_ret ?_)
      exact retS (rs := [(Go.ResultVar.tmp 2)]) (v := Value.int .u64 (IntKind.u64.wrap (0 - (IntKind.u64.wrap x)))) (by kernel_rfl) (⟨by kernel_rfl, trivial⟩) ⟨(IntKind.u64.wrap (0 - (IntKind.u64.wrap x))), rfl, h⟩
    · replace h := h.2 hb
      refine wpE_skip (by kernel_rfl) ?_
      change WpE _ _ c_towpathlaw01_size_13 _ _ _
      refine wpE_seq (x := c_towpathlaw01_size_14) (y := c_towpathlaw01_size_16) (by kernel_rfl) ?_
      refine wpE_region (id := 3) (ops := r_towpathlaw01_size_14) (by kernel_rfl) ?_
      refine reg_run [.plain, .plain, .plain] 3 [(2, [], Value.int .u64 (IntKind.u64.wrap x))] (by kernel_rfl) (by kernel_rfl) ?_
      refine reg_end [(2, Value.int .u64 (IntKind.u64.wrap x))] (by kernel_rfl) (by kernel_rfl) ?_
      change WpE _ _ c_towpathlaw01_size_16 _ _ _
      refine wpE_ret (by kernel_rfl) ?_
      repeat (first | refine seqQ_ret ?_ | refine blockQ_ret ?_ | refine loopQ_ret ?_ | refine cutQ_ret ?_)
      exact retS (rs := [(Go.ResultVar.tmp 2)]) (v := Value.int .u64 (IntKind.u64.wrap x)) (by kernel_rfl) (⟨by kernel_rfl, trivial⟩) ⟨(IntKind.u64.wrap x), rfl, h⟩
  · rintro e w' ⟨v, rfl, r0, rfl, h⟩; exact ⟨r0, rfl, h⟩

/-! ### towpath/towpathlaw01.fits (function 24) -/
noncomputable def c_towpathlaw01_fits_0 : Code := (Try.f24.body).getD Code.skip
noncomputable def c_towpathlaw01_fits_1 : Code := Code.l c_towpathlaw01_fits_0
noncomputable def r_towpathlaw01_fits_1 : Array Oper := Code.ops c_towpathlaw01_fits_1
noncomputable def c_towpathlaw01_fits_3 : Code := Code.r c_towpathlaw01_fits_0
noncomputable def c_towpathlaw01_fits_4 : Code := Code.l c_towpathlaw01_fits_3
noncomputable def c_towpathlaw01_fits_5 : Code := Code.l c_towpathlaw01_fits_4
noncomputable def r_towpathlaw01_fits_5 : Array Oper := Code.ops c_towpathlaw01_fits_5
noncomputable def c_towpathlaw01_fits_7 : Code := Code.r c_towpathlaw01_fits_4
noncomputable def c_towpathlaw01_fits_8 : Code := Code.l c_towpathlaw01_fits_7
noncomputable def c_towpathlaw01_fits_9 : Code := Code.l c_towpathlaw01_fits_8
noncomputable def r_towpathlaw01_fits_9 : Array Oper := Code.ops c_towpathlaw01_fits_9
noncomputable def c_towpathlaw01_fits_11 : Code := Code.r c_towpathlaw01_fits_8
noncomputable def c_towpathlaw01_fits_12 : Code := Code.r c_towpathlaw01_fits_7
noncomputable def c_towpathlaw01_fits_13 : Code := Code.r c_towpathlaw01_fits_3
noncomputable def c_towpathlaw01_fits_14 : Code := Code.l c_towpathlaw01_fits_13
noncomputable def r_towpathlaw01_fits_14 : Array Oper := Code.ops c_towpathlaw01_fits_14
noncomputable def c_towpathlaw01_fits_16 : Code := Code.r c_towpathlaw01_fits_13

set_option maxRecDepth 100000 in
theorem S_towpathlaw01_fits {ok : Bool} {got : Int} {x : Int} {want : Bool} {w : World} {R : Bool → World → Prop} (h : F_towpathlaw01_fits ok got x want R w) : C_towpathlaw01_fits ok got x want w R := by
  unfold F_towpathlaw01_fits at h
  unfold C_towpathlaw01_fits
  refine Calls.mono (calls_of_wpE (args := [Value.bool ok, Value.int .i64 got, Value.int .i64 x, Value.bool want]) (R := fun v w' => ∃ (r0 : Bool), v = Value.bool r0 ∧ R r0 w') Try.func24 (c := c_towpathlaw01_fits_0) (by kernel_rfl) 23 (by kernel_rfl) (by kernel_rfl) [(0, Value.bool ok), (1, Value.int .i64 got), (2, Value.int .i64 x), (3, Value.bool want)] (by kernel_rfl) ?_) ?_
  · refine wpE_seq (x := c_towpathlaw01_fits_1) (y := c_towpathlaw01_fits_3) (by kernel_rfl) ?_
    refine wpE_region (id := 0) (ops := r_towpathlaw01_fits_1) (by kernel_rfl) ?_
    refine reg_run [.plain] 1 [(0, [], Value.bool ok), (1, [], Value.int .i64 got), (2, [], Value.int .i64 x), (3, [], Value.bool want)] (by kernel_rfl) (by kernel_rfl) ?_
    refine reg_end [(0, Value.bool ok), (1, Value.int .i64 got), (2, Value.int .i64 x), (3, Value.bool want)] (by kernel_rfl) (by kernel_rfl) ?_
    change WpE _ _ c_towpathlaw01_fits_3 _ _ _
    refine wpE_seq (x := c_towpathlaw01_fits_4) (y := c_towpathlaw01_fits_13) (by kernel_rfl) ?_
    refine wpE_seq (x := c_towpathlaw01_fits_5) (y := c_towpathlaw01_fits_7) (by kernel_rfl) ?_
    refine wpE_region (id := 1) (ops := r_towpathlaw01_fits_5) (by kernel_rfl) ?_
    refine reg_run [.plain, .plain] 2 [(0, [], Value.bool ok), (1, [], Value.int .i64 got), (2, [], Value.int .i64 x), (10, [], Value.bool (!want))] (by kernel_rfl) (by kernel_rfl) ?_
    refine reg_end [(0, Value.bool ok), (1, Value.int .i64 got), (2, Value.int .i64 x), (10, Value.bool (!want))] (by kernel_rfl) (by kernel_rfl) ?_
    change WpE _ _ c_towpathlaw01_fits_7 _ _ _
    refine wpE_cond (o := (Operand.tmp 10)) (b := (!want)) (x := c_towpathlaw01_fits_8) (y := c_towpathlaw01_fits_12) (by kernel_rfl) (by kernel_rfl) (fun hb => ?_) (fun hb => ?_)
    · replace h := h.1 hb
      refine wpE_seq (x := c_towpathlaw01_fits_9) (y := c_towpathlaw01_fits_11) (by kernel_rfl) ?_
      refine wpE_region (id := 2) (ops := r_towpathlaw01_fits_9) (by kernel_rfl) ?_
      refine reg_run [.plain, .plain, .plain, .plain, .plain, .pick, .plain] 7 [(8, [], Value.bool ((!ok) && (got == 0)))] (by kernel_rfl) (by kernel_rfl) ?_
      refine reg_end [(8, Value.bool ((!ok) && (got == 0)))] (by kernel_rfl) (by kernel_rfl) ?_
      change WpE _ _ c_towpathlaw01_fits_11 _ _ _
      refine wpE_ret (by kernel_rfl) ?_
      repeat (first | refine seqQ_ret ?_ | refine blockQ_ret ?_ | refine loopQ_ret ?_ | refine cutQ_ret ?_)
      exact retS (rs := [(Go.ResultVar.tmp 8)]) (v := Value.bool ((!ok) && (got == 0))) (by kernel_rfl) (⟨by kernel_rfl, trivial⟩) ⟨((!ok) && (got == 0)), rfl, h⟩
    · replace h := h.2 hb
      refine wpE_skip (by kernel_rfl) ?_
      change WpE _ _ c_towpathlaw01_fits_13 _ _ _
      refine wpE_seq (x := c_towpathlaw01_fits_14) (y := c_towpathlaw01_fits_16) (by kernel_rfl) ?_
      refine wpE_region (id := 3) (ops := r_towpathlaw01_fits_14) (by kernel_rfl) ?_
      refine reg_run [.plain, .plain, .plain, .plain, .plain, .pick, .plain] 7 [(8, [], Value.bool (ok && (got == x)))] (by kernel_rfl) (by kernel_rfl) ?_
      refine reg_end [(8, Value.bool (ok && (got == x)))] (by kernel_rfl) (by kernel_rfl) ?_
      change WpE _ _ c_towpathlaw01_fits_16 _ _ _
      refine wpE_ret (by kernel_rfl) ?_
      repeat (first | refine seqQ_ret ?_ | refine blockQ_ret ?_ | refine loopQ_ret ?_ | refine cutQ_ret ?_)
      exact retS (rs := [(Go.ResultVar.tmp 8)]) (v := Value.bool (ok && (got == x))) (by kernel_rfl) (⟨by kernel_rfl, trivial⟩) ⟨(ok && (got == x)), rfl, h⟩
  · rintro e w' ⟨v, rfl, r0, rfl, h⟩; exact ⟨r0, rfl, h⟩

/-! ### towpath/towpathref01.In (function 25) -/
noncomputable def c_towpathref01_In_0 : Code := (Try.f25.body).getD Code.skip
noncomputable def c_towpathref01_In_1 : Code := Code.l c_towpathref01_In_0
noncomputable def r_towpathref01_In_1 : Array Oper := Code.ops c_towpathref01_In_1
noncomputable def c_towpathref01_In_3 : Code := Code.r c_towpathref01_In_0
noncomputable def c_towpathref01_In_4 : Code := Code.l c_towpathref01_In_3
noncomputable def c_towpathref01_In_5 : Code := Code.l c_towpathref01_In_4
noncomputable def r_towpathref01_In_5 : Array Oper := Code.ops c_towpathref01_In_5
noncomputable def c_towpathref01_In_7 : Code := Code.r c_towpathref01_In_4
noncomputable def c_towpathref01_In_8 : Code := Code.l c_towpathref01_In_7
noncomputable def c_towpathref01_In_9 : Code := Code.l c_towpathref01_In_8
noncomputable def r_towpathref01_In_9 : Array Oper := Code.ops c_towpathref01_In_9
noncomputable def c_towpathref01_In_11 : Code := Code.r c_towpathref01_In_8
noncomputable def c_towpathref01_In_12 : Code := Code.r c_towpathref01_In_7
noncomputable def c_towpathref01_In_13 : Code := Code.r c_towpathref01_In_3
noncomputable def c_towpathref01_In_14 : Code := Code.l c_towpathref01_In_13
noncomputable def c_towpathref01_In_15 : Code := Code.l c_towpathref01_In_14
noncomputable def r_towpathref01_In_15 : Array Oper := Code.ops c_towpathref01_In_15
noncomputable def c_towpathref01_In_17 : Code := Code.r c_towpathref01_In_14
noncomputable def c_towpathref01_In_18 : Code := Code.l c_towpathref01_In_17
noncomputable def c_towpathref01_In_19 : Code := Code.l c_towpathref01_In_18
noncomputable def r_towpathref01_In_19 : Array Oper := Code.ops c_towpathref01_In_19
noncomputable def c_towpathref01_In_21 : Code := Code.r c_towpathref01_In_18
noncomputable def c_towpathref01_In_22 : Code := Code.r c_towpathref01_In_17
noncomputable def c_towpathref01_In_23 : Code := Code.r c_towpathref01_In_13
noncomputable def c_towpathref01_In_24 : Code := Code.l c_towpathref01_In_23
noncomputable def r_towpathref01_In_24 : Array Oper := Code.ops c_towpathref01_In_24
noncomputable def c_towpathref01_In_26 : Code := Code.r c_towpathref01_In_23
noncomputable def c_towpathref01_In_27 : Code := Code.l c_towpathref01_In_26
noncomputable def c_towpathref01_In_28 : Code := Code.l c_towpathref01_In_27
noncomputable def r_towpathref01_In_28 : Array Oper := Code.ops c_towpathref01_In_28
noncomputable def c_towpathref01_In_30 : Code := Code.r c_towpathref01_In_27
noncomputable def c_towpathref01_In_31 : Code := Code.l c_towpathref01_In_30
noncomputable def r_towpathref01_In_31 : Array Oper := Code.ops c_towpathref01_In_31
noncomputable def c_towpathref01_In_33 : Code := Code.r c_towpathref01_In_30
noncomputable def c_towpathref01_In_34 : Code := Code.r c_towpathref01_In_26
noncomputable def c_towpathref01_In_35 : Code := Code.l c_towpathref01_In_34
noncomputable def c_towpathref01_In_36 : Code := Code.l c_towpathref01_In_35
noncomputable def r_towpathref01_In_36 : Array Oper := Code.ops c_towpathref01_In_36
noncomputable def c_towpathref01_In_38 : Code := Code.r c_towpathref01_In_35
noncomputable def c_towpathref01_In_39 : Code := Code.l c_towpathref01_In_38
noncomputable def c_towpathref01_In_40 : Code := Code.l c_towpathref01_In_39
noncomputable def r_towpathref01_In_40 : Array Oper := Code.ops c_towpathref01_In_40
noncomputable def c_towpathref01_In_42 : Code := Code.r c_towpathref01_In_39
noncomputable def c_towpathref01_In_43 : Code := Code.r c_towpathref01_In_38
noncomputable def c_towpathref01_In_44 : Code := Code.r c_towpathref01_In_34
noncomputable def c_towpathref01_In_45 : Code := Code.l c_towpathref01_In_44
noncomputable def r_towpathref01_In_45 : Array Oper := Code.ops c_towpathref01_In_45
noncomputable def c_towpathref01_In_47 : Code := Code.r c_towpathref01_In_44
noncomputable def c_towpathref01_In_48 : Code := Code.l c_towpathref01_In_47
noncomputable def r_towpathref01_In_48 : Array Oper := Code.ops c_towpathref01_In_48
noncomputable def c_towpathref01_In_50 : Code := Code.r c_towpathref01_In_47

set_option maxRecDepth 100000 in
theorem S_towpathref01_In {neg : Bool} {size : Int} {bits : Int} {signed : Bool} {w : World} {R : Bool → World → Prop} (h : F_towpathref01_In neg size bits signed R w) : C_towpathref01_In neg size bits signed w R := by
  unfold F_towpathref01_In at h
  unfold C_towpathref01_In
  refine Calls.mono (calls_of_wpE (args := [Value.bool neg, Value.int .u64 size, Value.int .i64 bits, Value.bool signed]) (R := fun v w' => ∃ (r0 : Bool), v = Value.bool r0 ∧ R r0 w') Try.func25 (c := c_towpathref01_In_0) (by kernel_rfl) 37 (by kernel_rfl) (by kernel_rfl) [(0, Value.bool neg), (1, Value.int .u64 size), (2, Value.int .i64 bits), (3, Value.bool signed)] (by kernel_rfl) ?_) ?_
  · refine wpE_seq (x := c_towpathref01_In_1) (y := c_towpathref01_In_3) (by kernel_rfl) ?_
    refine wpE_region (id := 0) (ops := r_towpathref01_In_1) (by kernel_rfl) ?_
    refine reg_run [.plain] 1 [(0, [], Value.bool neg), (1, [], Value.int .u64 size), (2, [], Value.int .i64 bits), (3, [], Value.bool signed)] (by kernel_rfl) (by kernel_rfl) ?_
    refine reg_end [(0, Value.bool neg), (1, Value.int .u64 size), (2, Value.int .i64 bits), (3, Value.bool signed)] (by kernel_rfl) (by kernel_rfl) ?_
    change WpE _ _ c_towpathref01_In_3 _ _ _
    refine wpE_seq (x := c_towpathref01_In_4) (y := c_towpathref01_In_13) (by kernel_rfl) ?_
    refine wpE_seq (x := c_towpathref01_In_5) (y := c_towpathref01_In_7) (by kernel_rfl) ?_
    refine wpE_region (id := 1) (ops := r_towpathref01_In_5) (by kernel_rfl) ?_
    refine reg_run [.plain, .plain] 2 [(0, [], Value.bool neg), (1, [], Value.int .u64 size), (2, [], Value.int .i64 bits), (3, [], Value.bool signed), (12, [], Value.bool (size == 0))] (by kernel_rfl) (by kernel_rfl) ?_
    refine reg_end [(0, Value.bool neg), (1, Value.int .u64 size), (2, Value.int .i64 bits), (3, Value.bool signed), (12, Value.bool (size == 0))] (by kernel_rfl) (by kernel_rfl) ?_
    change WpE _ _ c_towpathref01_In_7 _ _ _
    refine wpE_cond (o := (Operand.tmp 12)) (b := (size == 0)) (x := c_towpathref01_In_8) (y := c_towpathref01_In_12) (by kernel_rfl) (by kernel_rfl) (fun hb => ?_) (fun hb => ?_)
    · replace h := h.1 hb
      refine wpE_seq (x := c_towpathref01_In_9) (y := c_towpathref01_In_11) (by kernel_rfl) ?_
      refine wpE_region (id := 2) (ops := r_towpathref01_In_9) (by kernel_rfl) ?_
      refine reg_run [.plain] 1 [(8, [], Value.bool true)] (by kernel_rfl) (by kernel_rfl) ?_
      refine reg_end [(8, Value.bool true)] (by kernel_rfl) (by kernel_rfl) ?_
      change WpE _ _ c_towpathref01_In_11 _ _ _
      refine wpE_ret (by kernel_rfl) ?_
      repeat (first | refine seqQ_ret ?_ | refine blockQ_ret ?_ | refine loopQ_ret ?_ | refine cutQ_ret ?_)
      exact retS (rs := [(Go.ResultVar.tmp 8)]) (v := Value.bool true) (by kernel_rfl) (⟨by kernel_rfl, trivial⟩) ⟨true, rfl, h⟩
    · replace h := h.2 hb
      refine wpE_skip (by kernel_rfl) ?_
      change WpE _ _ c_towpathref01_In_13 _ _ _
      refine wpE_seq (x := c_towpathref01_In_14) (y := c_towpathref01_In_23) (by kernel_rfl) ?_
      refine wpE_seq (x := c_towpathref01_In_15) (y := c_towpathref01_In_17) (by kernel_rfl) ?_
      refine wpE_region (id := 3) (ops := r_towpathref01_In_15) (by kernel_rfl) ?_
      refine reg_run [.plain, .plain, .plain, .plain, .pick] 5 [(0, [], Value.bool neg), (1, [], Value.int .u64 size), (2, [], Value.int .i64 bits), (3, [], Value.bool signed), (17, [], Value.bool (neg && (!signed)))] (by kernel_rfl) (by kernel_rfl) ?_
      refine reg_end [(0, Value.bool neg), (1, Value.int .u64 size), (2, Value.int .i64 bits), (3, Value.bool signed), (17, Value.bool (neg && (!signed)))] (by kernel_rfl) (by kernel_rfl) ?_
      change WpE _ _ c_towpathref01_In_17 _ _ _
      refine wpE_cond (o := (Operand.tmp 17)) (b := (neg && (!signed))) (x := c_towpathref01_In_18) (y := c_towpathref01_In_22) (by kernel_rfl) (by kernel_rfl) (fun hb => ?_) (fun hb => ?_)
      · replace h := h.1 hb
        refine wpE_seq (x := c_towpathref01_In_19) (y := c_towpathref01_In_21) (by kernel_rfl) ?_
        refine wpE_region (id := 4) (ops := r_towpathref01_In_19) (by kernel_rfl) ?_
        refine reg_run [.plain] 1 [(8, [], Value.bool false)] (by kernel_rfl) (by kernel_rfl) ?_
        refine reg_end [(8, Value.bool false)] (by kernel_rfl) (by kernel_rfl) ?_
        change WpE _ _ c_towpathref01_In_21 _ _ _
        refine wpE_ret (by kernel_rfl) ?_
        repeat (first | refine seqQ_ret ?_ | refine blockQ_ret ?_ | refine loopQ_ret ?_ | refine cutQ_ret ?_)
        exact retS (rs := [(Go.ResultVar.tmp 8)]) (v := Value.bool false) (by kernel_rfl) (⟨by kernel_rfl, trivial⟩) ⟨false, rfl, h⟩
      · replace h := h.2 hb
        refine wpE_skip (by kernel_rfl) ?_
        change WpE _ _ c_towpathref01_In_23 _ _ _
        refine wpE_seq (x := c_towpathref01_In_24) (y := c_towpathref01_In_26) (by kernel_rfl) ?_
        refine wpE_region (id := 5) (ops := r_towpathref01_In_24) (by kernel_rfl) ?_
        refine reg_run [.plain, .plain] 2 [(0, [], Value.bool neg), (1, [], Value.int .u64 size), (2, [], Value.int .i64 bits), (3, [], Value.bool signed), (9, [], Value.int .i64 bits)] (by kernel_rfl) (by kernel_rfl) ?_
        refine reg_end [(0, Value.bool neg), (1, Value.int .u64 size), (2, Value.int .i64 bits), (3, Value.bool signed), (9, Value.int .i64 bits)] (by kernel_rfl) (by kernel_rfl) ?_
        change WpE _ _ c_towpathref01_In_26 _ _ _
        refine wpE_seq_cut (x := c_towpathref01_In_27) (y := c_towpathref01_In_34) (by kernel_rfl) (fun l w => ∃ (room : Int), l = [(0, Value.bool neg), (1, Value.int .u64 size), (9, Value.int .i64 room)] ∧ F_towpathref01_In_k0 neg size R room w) ?_ ?_
        · refine wpE_seq (x := c_towpathref01_In_28) (y := c_towpathref01_In_30) (by kernel_rfl) ?_
          refine wpE_region (id := 6) (ops := r_towpathref01_In_28) (by kernel_rfl) ?_
          refine reg_run [.plain] 1 [(0, [], Value.bool neg), (1, [], Value.int .u64 size), (2, [], Value.int .i64 bits), (9, [], Value.int .i64 bits), (19, [], Value.bool signed)] (by kernel_rfl) (by kernel_rfl) ?_
          refine reg_end [(0, Value.bool neg), (1, Value.int .u64 size), (2, Value.int .i64 bits), (9, Value.int .i64 bits), (19, Value.bool signed)] (by kernel_rfl) (by kernel_rfl) ?_
          change WpE _ _ c_towpathref01_In_30 _ _ _
          refine wpE_cond (o := (Operand.tmp 19)) (b := signed) (x := c_towpathref01_In_31) (y := c_towpathref01_In_33) (by kernel_rfl) (by kernel_rfl) (fun hb => ?_) (fun hb => ?_)
          · replace h := h.1 hb
            refine wpE_region (id := 7) (ops := r_towpathref01_In_31) (by kernel_rfl) ?_
            refine reg_run [.plain, .plain, .plain] 3 [(0, [], Value.bool neg), (1, [], Value.int .u64 size), (9, [], Value.int .i64 (IntKind.i64.wrap (bits - 1)))] (by kernel_rfl) (by kernel_rfl) ?_
            refine reg_end [(0, Value.bool neg), (1, Value.int .u64 size), (9, Value.int .i64 (IntKind.i64.wrap (bits - 1)))] (by kernel_rfl) (by kernel_rfl) ?_
            exact ⟨[(0, Value.bool neg), (1, Value.int .u64 size), (9, Value.int .i64 (IntKind.i64.wrap (bits - 1)))], Sub.mk (by kernel_rfl), (IntKind.i64.wrap (bits - 1)), rfl, h⟩
          · replace h := h.2 hb
            refine wpE_skip (by kernel_rfl) ?_
            exact ⟨[(0, Value.bool neg), (1, Value.int .u64 size), (9, Value.int .i64 bits)], Sub.mk (by kernel_rfl), bits, rfl, h⟩
        · rintro _ w1 ⟨room, rfl, h⟩
          unfold F_towpathref01_In_k0 at h
          refine wpE_seq (x := c_towpathref01_In_35) (y := c_towpathref01_In_44) (by kernel_rfl) ?_
          refine wpE_seq (x := c_towpathref01_In_36) (y := c_towpathref01_In_38) (by kernel_rfl) ?_
          refine wpE_region (id := 8) (ops := r_towpathref01_In_36) (by kernel_rfl) ?_
          refine reg_run [.plain, .plain] 2 [(0, [], Value.bool neg), (1, [], Value.int .u64 size), (9, [], Value.int .i64 room), (23, [], Value.bool (decide (room ≥ 64)))] (by kernel_rfl) (by kernel_rfl) ?_
          refine reg_end [(0, Value.bool neg), (1, Value.int .u64 size), (9, Value.int .i64 room), (23, Value.bool (decide (room ≥ 64)))] (by kernel_rfl) (by kernel_rfl) ?_
          change WpE _ _ c_towpathref01_In_38 _ _ _
          refine wpE_cond (o := (Operand.tmp 23)) (b := (decide (room ≥ 64))) (x := c_towpathref01_In_39) (y := c_towpathref01_In_43) (by kernel_rfl) (by kernel_rfl) (fun hb => ?_) (fun hb => ?_)
          · replace h := h.1 hb
            refine wpE_seq (x := c_towpathref01_In_40) (y := c_towpathref01_In_42) (by kernel_rfl) ?_
            refine wpE_region (id := 9) (ops := r_towpathref01_In_40) (by kernel_rfl) ?_
            refine reg_run [.plain] 1 [(8, [], Value.bool true)] (by kernel_rfl) (by kernel_rfl) ?_
            refine reg_end [(8, Value.bool true)] (by kernel_rfl) (by kernel_rfl) ?_
            change WpE _ _ c_towpathref01_In_42 _ _ _
            refine wpE_ret (by kernel_rfl) ?_
            repeat (first | refine seqQ_ret ?_ | refine blockQ_ret ?_ | refine loopQ_ret ?_ | refine cutQ_ret ?_)
            exact retS (rs := [(Go.ResultVar.tmp 8)]) (v := Value.bool true) (by kernel_rfl) (⟨by kernel_rfl, trivial⟩) ⟨true, rfl, h⟩
          · replace h := h.2 hb
            refine wpE_skip (by kernel_rfl) ?_
            change WpE _ _ c_towpathref01_In_44 _ _ _
            refine wpE_seq (x := c_towpathref01_In_45) (y := c_towpathref01_In_47) (by kernel_rfl) ?_
            refine wpE_region (id := 10) (ops := r_towpathref01_In_45) (by kernel_rfl) ?_
            refine reg_run [.plain] 1 [(0, [], Value.bool neg), (1, [], Value.int .u64 size), (24, [], Value.int .i64 room)] (by kernel_rfl) (by kernel_rfl) ?_
            refine reg_enter (op := (Go.Op.call (Go.Call.mk (Go.Callee.value (Go.Operand.func 60)) #[(Go.Operand.tmp 24)] #[3]))) (ty := 42) (dst := some 25) 60 #[Value.int .i64 room] (by kernel_rfl) (fun ww => by kernel_rfl) (Calls.mono h ?_)
            rintro _ w2 ⟨v25, rfl, h⟩
            refine ⟨_, rfl, ?_⟩
            refine reg_run [.plain] 3 [(0, [], Value.bool neg), (1, [], Value.int .u64 size), (10, [], Value.int .u64 v25)] (by kernel_rfl) (by kernel_rfl) ?_
            refine reg_end [(0, Value.bool neg), (1, Value.int .u64 size), (10, Value.int .u64 v25)] (by kernel_rfl) (by kernel_rfl) ?_
            change WpE _ _ c_towpathref01_In_47 _ _ _
            refine wpE_seq (x := c_towpathref01_In_48) (y := c_towpathref01_In_50) (by kernel_rfl) ?_
            refine wpE_region (id := 11) (ops := r_towpathref01_In_48) (by kernel_rfl) ?_
            refine reg_run [.plain, .plain, .plain, .plain, .plain, .plain, .plain, .plain, .plain, .pick, .pick, .plain] 12 [(8, [], Value.bool ((decide (size < v25)) || (neg && (size == v25))))] (by kernel_rfl) (by kernel_rfl) ?_
            refine reg_end [(8, Value.bool ((decide (size < v25)) || (neg && (size == v25))))] (by kernel_rfl) (by kernel_rfl) ?_
            change WpE _ _ c_towpathref01_In_50 _ _ _
            refine wpE_ret (by kernel_rfl) ?_
            repeat (first | refine seqQ_ret ?_ | refine blockQ_ret ?_ | refine loopQ_ret ?_ | refine cutQ_ret ?_)
            exact retS (rs := [(Go.ResultVar.tmp 8)]) (v := Value.bool ((decide (size < v25)) || (neg && (size == v25)))) (by kernel_rfl) (⟨by kernel_rfl, trivial⟩) ⟨((decide (size < v25)) || (neg && (size == v25))), rfl, h⟩
  · rintro e w' ⟨v, rfl, r0, rfl, h⟩; exact ⟨r0, rfl, h⟩

/-! ### towpath/num.Fit[int8,uint64] (function 26) -/
noncomputable def c_num_Fit_int8_uint64_0 : Code := (Try.f26.body).getD Code.skip
noncomputable def c_num_Fit_int8_uint64_1 : Code := Code.l c_num_Fit_int8_uint64_0
noncomputable def r_num_Fit_int8_uint64_1 : Array Oper := Code.ops c_num_Fit_int8_uint64_1
noncomputable def c_num_Fit_int8_uint64_3 : Code := Code.r c_num_Fit_int8_uint64_0
noncomputable def c_num_Fit_int8_uint64_4 : Code := Code.l c_num_Fit_int8_uint64_3
noncomputable def r_num_Fit_int8_uint64_4 : Array Oper := Code.ops c_num_Fit_int8_uint64_4
noncomputable def c_num_Fit_int8_uint64_6 : Code := Code.r c_num_Fit_int8_uint64_3
noncomputable def c_num_Fit_int8_uint64_7 : Code := Code.l c_num_Fit_int8_uint64_6
noncomputable def c_num_Fit_int8_uint64_8 : Code := Code.l c_num_Fit_int8_uint64_7
noncomputable def r_num_Fit_int8_uint64_8 : Array Oper := Code.ops c_num_Fit_int8_uint64_8
noncomputable def c_num_Fit_int8_uint64_10 : Code := Code.r c_num_Fit_int8_uint64_7
noncomputable def c_num_Fit_int8_uint64_11 : Code := Code.l c_num_Fit_int8_uint64_10
noncomputable def c_num_Fit_int8_uint64_12 : Code := Code.l c_num_Fit_int8_uint64_11
noncomputable def r_num_Fit_int8_uint64_12 : Array Oper := Code.ops c_num_Fit_int8_uint64_12
noncomputable def c_num_Fit_int8_uint64_14 : Code := Code.r c_num_Fit_int8_uint64_11
noncomputable def c_num_Fit_int8_uint64_15 : Code := Code.r c_num_Fit_int8_uint64_10
noncomputable def c_num_Fit_int8_uint64_16 : Code := Code.r c_num_Fit_int8_uint64_6
noncomputable def c_num_Fit_int8_uint64_17 : Code := Code.l c_num_Fit_int8_uint64_16
noncomputable def r_num_Fit_int8_uint64_17 : Array Oper := Code.ops c_num_Fit_int8_uint64_17
noncomputable def c_num_Fit_int8_uint64_19 : Code := Code.r c_num_Fit_int8_uint64_16

set_option maxRecDepth 100000 in
theorem S_num_Fit_int8_uint64 {x : Int} {w : World} {R : Int → Bool → World → Prop} (h : F_num_Fit_int8_uint64 x R w) : C_num_Fit_int8_uint64 x w R := by
  unfold F_num_Fit_int8_uint64 at h
  unfold C_num_Fit_int8_uint64
  refine Calls.mono (calls_of_wpE (args := [Value.int .u64 x]) (R := fun v w' => ∃ (r0 : Int) (r1 : Bool), v = Value.tuple #[Value.int .i8 r0, Value.bool r1] ∧ R r0 r1 w') Try.func26 (c := c_num_Fit_int8_uint64_0) (by kernel_rfl) 19 (by kernel_rfl) (by kernel_rfl) [(0, Value.int .u64 x)] (by kernel_rfl) ?_) ?_
  · refine wpE_seq (x := c_num_Fit_int8_uint64_1) (y := c_num_Fit_int8_uint64_3) (by kernel_rfl) ?_
    refine wpE_region (id := 0) (ops := r_num_Fit_int8_uint64_1) (by kernel_rfl) ?_
    refine reg_run [.plain, .plain] 2 [(0, [], Value.int .u64 x)] (by kernel_rfl) (by kernel_rfl) ?_
    refine reg_end [(0, Value.int .u64 x)] (by kernel_rfl) (by kernel_rfl) ?_
    change WpE _ _ c_num_Fit_int8_uint64_3 _ _ _
    refine wpE_seq (x := c_num_Fit_int8_uint64_4) (y := c_num_Fit_int8_uint64_6) (by kernel_rfl) ?_
    refine wpE_region (id := 1) (ops := r_num_Fit_int8_uint64_4) (by kernel_rfl) ?_
    refine reg_run [.plain, .plain, .plain] 3 [(0, [], Value.int .u64 x), (4, [], Value.int .i8 (IntKind.i8.wrap x))] (by kernel_rfl) (by kernel_rfl) ?_
    refine reg_end [(0, Value.int .u64 x), (4, Value.int .i8 (IntKind.i8.wrap x))] (by kernel_rfl) (by kernel_rfl) ?_
    change WpE _ _ c_num_Fit_int8_uint64_6 _ _ _
    refine wpE_seq (x := c_num_Fit_int8_uint64_7) (y := c_num_Fit_int8_uint64_16) (by kernel_rfl) ?_
    refine wpE_seq (x := c_num_Fit_int8_uint64_8) (y := c_num_Fit_int8_uint64_10) (by kernel_rfl) ?_
    refine wpE_region (id := 2) (ops := r_num_Fit_int8_uint64_8) (by kernel_rfl) ?_
    refine reg_run [.plain, .plain, .plain, .plain, .plain, .plain, .plain, .plain, .plain, .plain, .pick] 11 [(4, [], Value.int .i8 (IntKind.i8.wrap x)), (17, [], Value.bool (((IntKind.u64.wrap (IntKind.i8.wrap x)) != x) || (!((decide (x < 0)) == (decide ((IntKind.i8.wrap x) < 0))))))] (by kernel_rfl) (by kernel_rfl) ?_
    refine reg_end [(4, Value.int .i8 (IntKind.i8.wrap x)), (17, Value.bool (((IntKind.u64.wrap (IntKind.i8.wrap x)) != x) || (!((decide (x < 0)) == (decide ((IntKind.i8.wrap x) < 0))))))] (by kernel_rfl) (by kernel_rfl) ?_
    change WpE _ _ c_num_Fit_int8_uint64_10 _ _ _
    refine wpE_cond (o := (Operand.tmp 17)) (b := (((IntKind.u64.wrap (IntKind.i8.wrap x)) != x) || (!((decide (x < 0)) == (decide ((IntKind.i8.wrap x) < 0)))))) (x := c_num_Fit_int8_uint64_11) (y := c_num_Fit_int8_uint64_15) (by kernel_rfl) (by kernel_rfl) (fun hb => ?_) (fun hb => ?_)
    · replace h := h.1 hb
      refine wpE_seq (x := c_num_Fit_int8_uint64_12) (y := c_num_Fit_int8_uint64_14) (by kernel_rfl) ?_
      refine wpE_region (id := 3) (ops := r_num_Fit_int8_uint64_12) (by kernel_rfl) ?_
      refine reg_run [.plain, .plain] 2 [(2, [], Value.int .i8 0), (3, [], Value.bool false)] (by kernel_rfl) (by kernel_rfl) ?_
      refine reg_end [(2, Value.int .i8 0), (3, Value.bool false)] (by kernel_rfl) (by kernel_rfl) ?_
      change WpE _ _ c_num_Fit_int8_uint64_14 _ _ _
      refine wpE_ret (by kernel_rfl) ?_
      repeat (first | refine seqQ_ret ?_ | refine blockQ_ret ?_ | refine loopQ_ret ?_ | refine cutQ_ret ?_)
      exact retT (rs := [(Go.ResultVar.tmp 2), (Go.ResultVar.tmp 3)]) (vs := [Value.int .i8 0, Value.bool false]) (by kernel_rfl) (⟨by kernel_rfl, ⟨by kernel_rfl, trivial⟩⟩) (by kernel_rfl) ⟨0, false, rfl, h⟩
    · replace h := h.2 hb
      refine wpE_skip (by kernel_rfl) ?_
      change WpE _ _ c_num_Fit_int8_uint64_16 _ _ _
      refine wpE_seq (x := c_num_Fit_int8_uint64_17) (y := c_num_Fit_int8_uint64_19) (by kernel_rfl) ?_
      refine wpE_region (id := 4) (ops := r_num_Fit_int8_uint64_17) (by kernel_rfl) ?_
      refine reg_run [.plain, .plain, .plain] 3 [(2, [], Value.int .i8 (IntKind.i8.wrap x)), (3, [], Value.bool true)] (by kernel_rfl) (by kernel_rfl) ?_
      refine reg_end [(2, Value.int .i8 (IntKind.i8.wrap x)), (3, Value.bool true)] (by kernel_rfl) (by kernel_rfl) ?_
      change WpE _ _ c_num_Fit_int8_uint64_19 _ _ _
      refine wpE_ret (by kernel_rfl) ?_
      repeat (first | refine seqQ_ret ?_ | refine blockQ_ret ?_ | refine loopQ_ret ?_ | refine cutQ_ret ?_)
      exact retT (rs := [(Go.ResultVar.tmp 2), (Go.ResultVar.tmp 3)]) (vs := [Value.int .i8 (IntKind.i8.wrap x), Value.bool true]) (by kernel_rfl) (⟨by kernel_rfl, ⟨by kernel_rfl, trivial⟩⟩) (by kernel_rfl) ⟨(IntKind.i8.wrap x), true, rfl, h⟩
  · rintro e w' ⟨v, rfl, r0, r1, rfl, h⟩; exact ⟨r0, r1, rfl, h⟩

/-! ### towpath/num.Fit[int16,uint64] (function 27) -/
noncomputable def c_num_Fit_int16_uint64_0 : Code := (Try.f27.body).getD Code.skip
noncomputable def c_num_Fit_int16_uint64_1 : Code := Code.l c_num_Fit_int16_uint64_0
noncomputable def r_num_Fit_int16_uint64_1 : Array Oper := Code.ops c_num_Fit_int16_uint64_1
noncomputable def c_num_Fit_int16_uint64_3 : Code := Code.r c_num_Fit_int16_uint64_0
noncomputable def c_num_Fit_int16_uint64_4 : Code := Code.l c_num_Fit_int16_uint64_3
noncomputable def r_num_Fit_int16_uint64_4 : Array Oper := Code.ops c_num_Fit_int16_uint64_4
noncomputable def c_num_Fit_int16_uint64_6 : Code := Code.r c_num_Fit_int16_uint64_3
noncomputable def c_num_Fit_int16_uint64_7 : Code := Code.l c_num_Fit_int16_uint64_6
noncomputable def c_num_Fit_int16_uint64_8 : Code := Code.l c_num_Fit_int16_uint64_7
noncomputable def r_num_Fit_int16_uint64_8 : Array Oper := Code.ops c_num_Fit_int16_uint64_8
noncomputable def c_num_Fit_int16_uint64_10 : Code := Code.r c_num_Fit_int16_uint64_7
noncomputable def c_num_Fit_int16_uint64_11 : Code := Code.l c_num_Fit_int16_uint64_10
noncomputable def c_num_Fit_int16_uint64_12 : Code := Code.l c_num_Fit_int16_uint64_11
noncomputable def r_num_Fit_int16_uint64_12 : Array Oper := Code.ops c_num_Fit_int16_uint64_12
noncomputable def c_num_Fit_int16_uint64_14 : Code := Code.r c_num_Fit_int16_uint64_11
noncomputable def c_num_Fit_int16_uint64_15 : Code := Code.r c_num_Fit_int16_uint64_10
noncomputable def c_num_Fit_int16_uint64_16 : Code := Code.r c_num_Fit_int16_uint64_6
noncomputable def c_num_Fit_int16_uint64_17 : Code := Code.l c_num_Fit_int16_uint64_16
noncomputable def r_num_Fit_int16_uint64_17 : Array Oper := Code.ops c_num_Fit_int16_uint64_17
noncomputable def c_num_Fit_int16_uint64_19 : Code := Code.r c_num_Fit_int16_uint64_16

set_option maxRecDepth 100000 in
theorem S_num_Fit_int16_uint64 {x : Int} {w : World} {R : Int → Bool → World → Prop} (h : F_num_Fit_int16_uint64 x R w) : C_num_Fit_int16_uint64 x w R := by
  unfold F_num_Fit_int16_uint64 at h
  unfold C_num_Fit_int16_uint64
  refine Calls.mono (calls_of_wpE (args := [Value.int .u64 x]) (R := fun v w' => ∃ (r0 : Int) (r1 : Bool), v = Value.tuple #[Value.int .i16 r0, Value.bool r1] ∧ R r0 r1 w') Try.func27 (c := c_num_Fit_int16_uint64_0) (by kernel_rfl) 19 (by kernel_rfl) (by kernel_rfl) [(0, Value.int .u64 x)] (by kernel_rfl) ?_) ?_
  · refine wpE_seq (x := c_num_Fit_int16_uint64_1) (y := c_num_Fit_int16_uint64_3) (by kernel_rfl) ?_
    refine wpE_region (id := 0) (ops := r_num_Fit_int16_uint64_1) (by kernel_rfl) ?_
    refine reg_run [.plain, .plain] 2 [(0, [], Value.int .u64 x)] (by kernel_rfl) (by kernel_rfl) ?_
    refine reg_end [(0, Value.int .u64 x)] (by kernel_rfl) (by kernel_rfl) ?_
    change WpE _ _ c_num_Fit_int16_uint64_3 _ _ _
    refine wpE_seq (x := c_num_Fit_int16_uint64_4) (y := c_num_Fit_int16_uint64_6) (by kernel_rfl) ?_
    refine wpE_region (id := 1) (ops := r_num_Fit_int16_uint64_4) (by kernel_rfl) ?_
    refine reg_run [.plain, .plain, .plain] 3 [(0, [], Value.int .u64 x), (4, [], Value.int .i16 (IntKind.i16.wrap x))] (by kernel_rfl) (by kernel_rfl) ?_
    refine reg_end [(0, Value.int .u64 x), (4, Value.int .i16 (IntKind.i16.wrap x))] (by kernel_rfl) (by kernel_rfl) ?_
    change WpE _ _ c_num_Fit_int16_uint64_6 _ _ _
    refine wpE_seq (x := c_num_Fit_int16_uint64_7) (y := c_num_Fit_int16_uint64_16) (by kernel_rfl) ?_
    refine wpE_seq (x := c_num_Fit_int16_uint64_8) (y := c_num_Fit_int16_uint64_10) (by kernel_rfl) ?_
    refine wpE_region (id := 2) (ops := r_num_Fit_int16_uint64_8) (by kernel_rfl) ?_
    refine reg_run [.plain, .plain, .plain, .plain, .plain, .plain, .plain, .plain, .plain, .plain, .pick] 11 [(4, [], Value.int .i16 (IntKind.i16.wrap x)), (17, [], Value.bool (((IntKind.u64.wrap (IntKind.i16.wrap x)) != x) || (!((decide (x < 0)) == (decide ((IntKind.i16.wrap x) < 0))))))] (by kernel_rfl) (by kernel_rfl) ?_
    refine reg_end [(4, Value.int .i16 (IntKind.i16.wrap x)), (17, Value.bool (((IntKind.u64.wrap (IntKind.i16.wrap x)) != x) || (!((decide (x < 0)) == (decide ((IntKind.i16.wrap x) < 0))))))] (by kernel_rfl) (by kernel_rfl) ?_
    change WpE _ _ c_num_Fit_int16_uint64_10 _ _ _
    refine wpE_cond (o := (Operand.tmp 17)) (b := (((IntKind.u64.wrap (IntKind.i16.wrap x)) != x) || (!((decide (x < 0)) == (decide ((IntKind.i16.wrap x) < 0)))))) (x := c_num_Fit_int16_uint64_11) (y := c_num_Fit_int16_uint64_15) (by kernel_rfl) (by kernel_rfl) (fun hb => ?_) (fun hb => ?_)
    · replace h := h.1 hb
      refine wpE_seq (x := c_num_Fit_int16_uint64_12) (y := c_num_Fit_int16_uint64_14) (by kernel_rfl) ?_
      refine wpE_region (id := 3) (ops := r_num_Fit_int16_uint64_12) (by kernel_rfl) ?_
      refine reg_run [.plain, .plain] 2 [(2, [], Value.int .i16 0), (3, [], Value.bool false)] (by kernel_rfl) (by kernel_rfl) ?_
      refine reg_end [(2, Value.int .i16 0), (3, Value.bool false)] (by kernel_rfl) (by kernel_rfl) ?_
      change WpE _ _ c_num_Fit_int16_uint64_14 _ _ _
      refine wpE_ret (by kernel_rfl) ?_
      repeat (first | refine seqQ_ret ?_ | refine blockQ_ret ?_ | refine loopQ_ret ?_ | refine cutQ_ret ?_)
      exact retT (rs := [(Go.ResultVar.tmp 2), (Go.ResultVar.tmp 3)]) (vs := [Value.int .i16 0, Value.bool false]) (by kernel_rfl) (⟨by kernel_rfl, ⟨by kernel_rfl, trivial⟩⟩) (by kernel_rfl) ⟨0, false, rfl, h⟩
    · replace h := h.2 hb
      refine wpE_skip (by kernel_rfl) ?_
      change WpE _ _ c_num_Fit_int16_uint64_16 _ _ _
      refine wpE_seq (x := c_num_Fit_int16_uint64_17) (y := c_num_Fit_int16_uint64_19) (by kernel_rfl) ?_
      refine wpE_region (id := 4) (ops := r_num_Fit_int16_uint64_17) (by kernel_rfl) ?_
      refine reg_run [.plain, .plain, .plain] 3 [(2, [], Value.int .i16 (IntKind.i16.wrap x)), (3, [], Value.bool true)] (by kernel_rfl) (by kernel_rfl) ?_
      refine reg_end [(2, Value.int .i16 (IntKind.i16.wrap x)), (3, Value.bool true)] (by kernel_rfl) (by kernel_rfl) ?_
      change WpE _ _ c_num_Fit_int16_uint64_19 _ _ _
      refine wpE_ret (by kernel_rfl) ?_
      repeat (first | refine seqQ_ret ?_ | refine blockQ_ret ?_ | refine loopQ_ret ?_ | refine cutQ_ret ?_)
      exact retT (rs := [(Go.ResultVar.tmp 2), (Go.ResultVar.tmp 3)]) (vs := [Value.int .i16 (IntKind.i16.wrap x), Value.bool true]) (by kernel_rfl) (⟨by kernel_rfl, ⟨by kernel_rfl, trivial⟩⟩) (by kernel_rfl) ⟨(IntKind.i16.wrap x), true, rfl, h⟩
  · rintro e w' ⟨v, rfl, r0, r1, rfl, h⟩; exact ⟨r0, r1, rfl, h⟩

/-! ### towpath/num.Fit[int32,uint64] (function 28) -/
noncomputable def c_num_Fit_int32_uint64_0 : Code := (Try.f28.body).getD Code.skip
noncomputable def c_num_Fit_int32_uint64_1 : Code := Code.l c_num_Fit_int32_uint64_0
noncomputable def r_num_Fit_int32_uint64_1 : Array Oper := Code.ops c_num_Fit_int32_uint64_1
noncomputable def c_num_Fit_int32_uint64_3 : Code := Code.r c_num_Fit_int32_uint64_0
noncomputable def c_num_Fit_int32_uint64_4 : Code := Code.l c_num_Fit_int32_uint64_3
noncomputable def r_num_Fit_int32_uint64_4 : Array Oper := Code.ops c_num_Fit_int32_uint64_4
noncomputable def c_num_Fit_int32_uint64_6 : Code := Code.r c_num_Fit_int32_uint64_3
noncomputable def c_num_Fit_int32_uint64_7 : Code := Code.l c_num_Fit_int32_uint64_6
noncomputable def c_num_Fit_int32_uint64_8 : Code := Code.l c_num_Fit_int32_uint64_7
noncomputable def r_num_Fit_int32_uint64_8 : Array Oper := Code.ops c_num_Fit_int32_uint64_8
noncomputable def c_num_Fit_int32_uint64_10 : Code := Code.r c_num_Fit_int32_uint64_7
noncomputable def c_num_Fit_int32_uint64_11 : Code := Code.l c_num_Fit_int32_uint64_10
noncomputable def c_num_Fit_int32_uint64_12 : Code := Code.l c_num_Fit_int32_uint64_11
noncomputable def r_num_Fit_int32_uint64_12 : Array Oper := Code.ops c_num_Fit_int32_uint64_12
noncomputable def c_num_Fit_int32_uint64_14 : Code := Code.r c_num_Fit_int32_uint64_11
noncomputable def c_num_Fit_int32_uint64_15 : Code := Code.r c_num_Fit_int32_uint64_10
noncomputable def c_num_Fit_int32_uint64_16 : Code := Code.r c_num_Fit_int32_uint64_6
noncomputable def c_num_Fit_int32_uint64_17 : Code := Code.l c_num_Fit_int32_uint64_16
noncomputable def r_num_Fit_int32_uint64_17 : Array Oper := Code.ops c_num_Fit_int32_uint64_17
noncomputable def c_num_Fit_int32_uint64_19 : Code := Code.r c_num_Fit_int32_uint64_16

set_option maxRecDepth 100000 in
theorem S_num_Fit_int32_uint64 {x : Int} {w : World} {R : Int → Bool → World → Prop} (h : F_num_Fit_int32_uint64 x R w) : C_num_Fit_int32_uint64 x w R := by
  unfold F_num_Fit_int32_uint64 at h
  unfold C_num_Fit_int32_uint64
  refine Calls.mono (calls_of_wpE (args := [Value.int .u64 x]) (R := fun v w' => ∃ (r0 : Int) (r1 : Bool), v = Value.tuple #[Value.int .i32 r0, Value.bool r1] ∧ R r0 r1 w') Try.func28 (c := c_num_Fit_int32_uint64_0) (by kernel_rfl) 19 (by kernel_rfl) (by kernel_rfl) [(0, Value.int .u64 x)] (by kernel_rfl) ?_) ?_
  · refine wpE_seq (x := c_num_Fit_int32_uint64_1) (y := c_num_Fit_int32_uint64_3) (by kernel_rfl) ?_
    refine wpE_region (id := 0) (ops := r_num_Fit_int32_uint64_1) (by kernel_rfl) ?_
    refine reg_run [.plain, .plain] 2 [(0, [], Value.int .u64 x)] (by kernel_rfl) (by kernel_rfl) ?_
    refine reg_end [(0, Value.int .u64 x)] (by kernel_rfl) (by kernel_rfl) ?_
    change WpE _ _ c_num_Fit_int32_uint64_3 _ _ _
    refine wpE_seq (x := c_num_Fit_int32_uint64_4) (y := c_num_Fit_int32_uint64_6) (by kernel_rfl) ?_
    refine wpE_region (id := 1) (ops := r_num_Fit_int32_uint64_4) (by kernel_rfl) ?_
    refine reg_run [.plain, .plain, .plain] 3 [(0, [], Value.int .u64 x), (4, [], Value.int .i32 (IntKind.i32.wrap x))] (by kernel_rfl) (by kernel_rfl) ?_
    refine reg_end [(0, Value.int .u64 x), (4, Value.int .i32 (IntKind.i32.wrap x))] (by kernel_rfl) (by kernel_rfl) ?_
    change WpE _ _ c_num_Fit_int32_uint64_6 _ _ _
    refine wpE_seq (x := c_num_Fit_int32_uint64_7) (y := c_num_Fit_int32_uint64_16) (by kernel_rfl) ?_
    refine wpE_seq (x := c_num_Fit_int32_uint64_8) (y := c_num_Fit_int32_uint64_10) (by kernel_rfl) ?_
    refine wpE_region (id := 2) (ops := r_num_Fit_int32_uint64_8) (by kernel_rfl) ?_
    refine reg_run [.plain, .plain, .plain, .plain, .plain, .plain, .plain, .plain, .plain, .plain, .pick] 11 [(4, [], Value.int .i32 (IntKind.i32.wrap x)), (17, [], Value.bool (((IntKind.u64.wrap (IntKind.i32.wrap x)) != x) || (!((decide (x < 0)) == (decide ((IntKind.i32.wrap x) < 0))))))] (by kernel_rfl) (by kernel_rfl) ?_
    refine reg_end [(4, Value.int .i32 (IntKind.i32.wrap x)), (17, Value.bool (((IntKind.u64.wrap (IntKind.i32.wrap x)) != x) || (!((decide (x < 0)) == (decide ((IntKind.i32.wrap x) < 0))))))] (by kernel_rfl) (by kernel_rfl) ?_
    change WpE _ _ c_num_Fit_int32_uint64_10 _ _ _
    refine wpE_cond (o := (Operand.tmp 17)) (b := (((IntKind.u64.wrap (IntKind.i32.wrap x)) != x) || (!((decide (x < 0)) == (decide ((IntKind.i32.wrap x) < 0)))))) (x := c_num_Fit_int32_uint64_11) (y := c_num_Fit_int32_uint64_15) (by kernel_rfl) (by kernel_rfl) (fun hb => ?_) (fun hb => ?_)
    · replace h := h.1 hb
      refine wpE_seq (x := c_num_Fit_int32_uint64_12) (y := c_num_Fit_int32_uint64_14) (by kernel_rfl) ?_
      refine wpE_region (id := 3) (ops := r_num_Fit_int32_uint64_12) (by kernel_rfl) ?_
      refine reg_run [.plain, .plain] 2 [(2, [], Value.int .i32 0), (3, [], Value.bool false)] (by kernel_rfl) (by kernel_rfl) ?_
      refine reg_end [(2, Value.int .i32 0), (3, Value.bool false)] (by kernel_rfl) (by kernel_rfl) ?_
      change WpE _ _ c_num_Fit_int32_uint64_14 _ _ _
      refine wpE_ret (by kernel_rfl) ?_
      repeat (first | refine seqQ_ret ?_ | refine blockQ_ret ?_ | refine loopQ_ret ?_ | refine cutQ_ret ?_)
      exact retT (rs := [(Go.ResultVar.tmp 2), (Go.ResultVar.tmp 3)]) (vs := [Value.int .i32 0, Value.bool false]) (by kernel_rfl) (⟨by kernel_rfl, ⟨by kernel_rfl, trivial⟩⟩) (by kernel_rfl) ⟨0, false, rfl, h⟩
    · replace h := h.2 hb
      refine wpE_skip (by kernel_rfl) ?_
      change WpE _ _ c_num_Fit_int32_uint64_16 _ _ _
      refine wpE_seq (x := c_num_Fit_int32_uint64_17) (y := c_num_Fit_int32_uint64_19) (by kernel_rfl) ?_
      refine wpE_region (id := 4) (ops := r_num_Fit_int32_uint64_17) (by kernel_rfl) ?_
      refine reg_run [.plain, .plain, .plain] 3 [(2, [], Value.int .i32 (IntKind.i32.wrap x)), (3, [], Value.bool true)] (by kernel_rfl) (by kernel_rfl) ?_
      refine reg_end [(2, Value.int .i32 (IntKind.i32.wrap x)), (3, Value.bool true)] (by kernel_rfl) (by kernel_rfl) ?_
      change WpE _ _ c_num_Fit_int32_uint64_19 _ _ _
      refine wpE_ret (by kernel_rfl) ?_
      repeat (first | refine seqQ_ret ?_ | refine blockQ_ret ?_ | refine loopQ_ret ?_ | refine cutQ_ret ?_)
      exact retT (rs := [(Go.ResultVar.tmp 2), (Go.ResultVar.tmp 3)]) (vs := [Value.int .i32 (IntKind.i32.wrap x), Value.bool true]) (by kernel_rfl) (⟨by kernel_rfl, ⟨by kernel_rfl, trivial⟩⟩) (by kernel_rfl) ⟨(IntKind.i32.wrap x), true, rfl, h⟩
  · rintro e w' ⟨v, rfl, r0, r1, rfl, h⟩; exact ⟨r0, r1, rfl, h⟩

/-! ### towpath/num.Fit[int64,uint64] (function 29) -/
noncomputable def c_num_Fit_int64_uint64_0 : Code := (Try.f29.body).getD Code.skip
noncomputable def c_num_Fit_int64_uint64_1 : Code := Code.l c_num_Fit_int64_uint64_0
noncomputable def r_num_Fit_int64_uint64_1 : Array Oper := Code.ops c_num_Fit_int64_uint64_1
noncomputable def c_num_Fit_int64_uint64_3 : Code := Code.r c_num_Fit_int64_uint64_0
noncomputable def c_num_Fit_int64_uint64_4 : Code := Code.l c_num_Fit_int64_uint64_3
noncomputable def r_num_Fit_int64_uint64_4 : Array Oper := Code.ops c_num_Fit_int64_uint64_4
noncomputable def c_num_Fit_int64_uint64_6 : Code := Code.r c_num_Fit_int64_uint64_3
noncomputable def c_num_Fit_int64_uint64_7 : Code := Code.l c_num_Fit_int64_uint64_6
noncomputable def c_num_Fit_int64_uint64_8 : Code := Code.l c_num_Fit_int64_uint64_7
noncomputable def r_num_Fit_int64_uint64_8 : Array Oper := Code.ops c_num_Fit_int64_uint64_8
noncomputable def c_num_Fit_int64_uint64_10 : Code := Code.r c_num_Fit_int64_uint64_7
noncomputable def c_num_Fit_int64_uint64_11 : Code := Code.l c_num_Fit_int64_uint64_10
noncomputable def c_num_Fit_int64_uint64_12 : Code := Code.l c_num_Fit_int64_uint64_11
noncomputable def r_num_Fit_int64_uint64_12 : Array Oper := Code.ops c_num_Fit_int64_uint64_12
noncomputable def c_num_Fit_int64_uint64_14 : Code := Code.r c_num_Fit_int64_uint64_11
noncomputable def c_num_Fit_int64_uint64_15 : Code := Code.r c_num_Fit_int64_uint64_10
noncomputable def c_num_Fit_int64_uint64_16 : Code := Code.r c_num_Fit_int64_uint64_6
noncomputable def c_num_Fit_int64_uint64_17 : Code := Code.l c_num_Fit_int64_uint64_16
noncomputable def r_num_Fit_int64_uint64_17 : Array Oper := Code.ops c_num_Fit_int64_uint64_17
noncomputable def c_num_Fit_int64_uint64_19 : Code := Code.r c_num_Fit_int64_uint64_16

set_option maxRecDepth 100000 in
theorem S_num_Fit_int64_uint64 {x : Int} {w : World} {R : Int → Bool → World → Prop} (h : F_num_Fit_int64_uint64 x R w) : C_num_Fit_int64_uint64 x w R := by
  unfold F_num_Fit_int64_uint64 at h
  unfold C_num_Fit_int64_uint64
  refine Calls.mono (calls_of_wpE (args := [Value.int .u64 x]) (R := fun v w' => ∃ (r0 : Int) (r1 : Bool), v = Value.tuple #[Value.int .i64 r0, Value.bool r1] ∧ R r0 r1 w') Try.func29 (c := c_num_Fit_int64_uint64_0) (by kernel_rfl) 19 (by kernel_rfl) (by kernel_rfl) [(0, Value.int .u64 x)] (by kernel_rfl) ?_) ?_
  · refine wpE_seq (x := c_num_Fit_int64_uint64_1) (y := c_num_Fit_int64_uint64_3) (by kernel_rfl) ?_
    refine wpE_region (id := 0) (ops := r_num_Fit_int64_uint64_1) (by kernel_rfl) ?_
    refine reg_run [.plain, .plain] 2 [(0, [], Value.int .u64 x)] (by kernel_rfl) (by kernel_rfl) ?_
    refine reg_end [(0, Value.int .u64 x)] (by kernel_rfl) (by kernel_rfl) ?_
    change WpE _ _ c_num_Fit_int64_uint64_3 _ _ _
    refine wpE_seq (x := c_num_Fit_int64_uint64_4) (y := c_num_Fit_int64_uint64_6) (by kernel_rfl) ?_
    refine wpE_region (id := 1) (ops := r_num_Fit_int64_uint64_4) (by kernel_rfl) ?_
    refine reg_run [.plain, .plain, .plain] 3 [(0, [], Value.int .u64 x), (4, [], Value.int .i64 (IntKind.i64.wrap x))] (by kernel_rfl) (by kernel_rfl) ?_
    refine reg_end [(0, Value.int .u64 x), (4, Value.int .i64 (IntKind.i64.wrap x))] (by kernel_rfl) (by kernel_rfl) ?_
    change WpE _ _ c_num_Fit_int64_uint64_6 _ _ _
    refine wpE_seq (x := c_num_Fit_int64_uint64_7) (y := c_num_Fit_int64_uint64_16) (by kernel_rfl) ?_
    refine wpE_seq (x := c_num_Fit_int64_uint64_8) (y := c_num_Fit_int64_uint64_10) (by kernel_rfl) ?_
    refine wpE_region (id := 2) (ops := r_num_Fit_int64_uint64_8) (by kernel_rfl) ?_
    refine reg_run [.plain, .plain, .plain, .plain, .plain, .plain, .plain, .plain, .plain, .plain, .pick] 11 [(4, [], Value.int .i64 (IntKind.i64.wrap x)), (17, [], Value.bool (((IntKind.u64.wrap (IntKind.i64.wrap x)) != x) || (!((decide (x < 0)) == (decide ((IntKind.i64.wrap x) < 0))))))] (by kernel_rfl) (by kernel_rfl) ?_
    refine reg_end [(4, Value.int .i64 (IntKind.i64.wrap x)), (17, Value.bool (((IntKind.u64.wrap (IntKind.i64.wrap x)) != x) || (!((decide (x < 0)) == (decide ((IntKind.i64.wrap x) < 0))))))] (by kernel_rfl) (by kernel_rfl) ?_
    change WpE _ _ c_num_Fit_int64_uint64_10 _ _ _
    refine wpE_cond (o := (Operand.tmp 17)) (b := (((IntKind.u64.wrap (IntKind.i64.wrap x)) != x) || (!((decide (x < 0)) == (decide ((IntKind.i64.wrap x) < 0)))))) (x := c_num_Fit_int64_uint64_11) (y := c_num_Fit_int64_uint64_15) (by kernel_rfl) (by kernel_rfl) (fun hb => ?_) (fun hb => ?_)
    · replace h := h.1 hb
      refine wpE_seq (x := c_num_Fit_int64_uint64_12) (y := c_num_Fit_int64_uint64_14) (by kernel_rfl) ?_
      refine wpE_region (id := 3) (ops := r_num_Fit_int64_uint64_12) (by kernel_rfl) ?_
      refine reg_run [.plain, .plain] 2 [(2, [], Value.int .i64 0), (3, [], Value.bool false)] (by kernel_rfl) (by kernel_rfl) ?_
      refine reg_end [(2, Value.int .i64 0), (3, Value.bool false)] (by kernel_rfl) (by kernel_rfl) ?_
      change WpE _ _ c_num_Fit_int64_uint64_14 _ _ _
      refine wpE_ret (by kernel_rfl) ?_
      repeat (first | refine seqQ_ret ?_ | refine blockQ_ret ?_ | refine loopQ_ret ?_ | refine cutQ_ret ?_)
      exact retT (rs := [(Go.ResultVar.tmp 2), (Go.ResultVar.tmp 3)]) (vs := [Value.int .i64 0, Value.bool false]) (by kernel_rfl) (⟨by kernel_rfl, ⟨by kernel_rfl, trivial⟩⟩) (by kernel_rfl) ⟨0, false, rfl, h⟩
    · replace h := h.2 hb
      refine wpE_skip (by kernel_rfl) ?_
      change WpE _ _ c_num_Fit_int64_uint64_16 _ _ _
      refine wpE_seq (x := c_num_Fit_int64_uint64_17) (y := c_num_Fit_int64_uint64_19) (by kernel_rfl) ?_
      refine wpE_region (id := 4) (ops := r_num_Fit_int64_uint64_17) (by kernel_rfl) ?_
      refine reg_run [.plain, .plain, .plain] 3 [(2, [], Value.int .i64 (IntKind.i64.wrap x)), (3, [], Value.bool true)] (by kernel_rfl) (by kernel_rfl) ?_
      refine reg_end [(2, Value.int .i64 (IntKind.i64.wrap x)), (3, Value.bool true)] (by kernel_rfl) (by kernel_rfl) ?_
      change WpE _ _ c_num_Fit_int64_uint64_19 _ _ _
      refine wpE_ret (by kernel_rfl) ?_
      repeat (first | refine seqQ_ret ?_ | refine blockQ_ret ?_ | refine loopQ_ret ?_ | refine cutQ_ret ?_)
      exact retT (rs := [(Go.ResultVar.tmp 2), (Go.ResultVar.tmp 3)]) (vs := [Value.int .i64 (IntKind.i64.wrap x), Value.bool true]) (by kernel_rfl) (⟨by kernel_rfl, ⟨by kernel_rfl, trivial⟩⟩) (by kernel_rfl) ⟨(IntKind.i64.wrap x), true, rfl, h⟩
  · rintro e w' ⟨v, rfl, r0, r1, rfl, h⟩; exact ⟨r0, r1, rfl, h⟩

/-! ### towpath/num.Fit[int,uint64] (function 30) -/
noncomputable def c_num_Fit_int_uint64_0 : Code := (Try.f30.body).getD Code.skip
noncomputable def c_num_Fit_int_uint64_1 : Code := Code.l c_num_Fit_int_uint64_0
noncomputable def r_num_Fit_int_uint64_1 : Array Oper := Code.ops c_num_Fit_int_uint64_1
noncomputable def c_num_Fit_int_uint64_3 : Code := Code.r c_num_Fit_int_uint64_0
noncomputable def c_num_Fit_int_uint64_4 : Code := Code.l c_num_Fit_int_uint64_3
noncomputable def r_num_Fit_int_uint64_4 : Array Oper := Code.ops c_num_Fit_int_uint64_4
noncomputable def c_num_Fit_int_uint64_6 : Code := Code.r c_num_Fit_int_uint64_3
noncomputable def c_num_Fit_int_uint64_7 : Code := Code.l c_num_Fit_int_uint64_6
noncomputable def c_num_Fit_int_uint64_8 : Code := Code.l c_num_Fit_int_uint64_7
noncomputable def r_num_Fit_int_uint64_8 : Array Oper := Code.ops c_num_Fit_int_uint64_8
noncomputable def c_num_Fit_int_uint64_10 : Code := Code.r c_num_Fit_int_uint64_7
noncomputable def c_num_Fit_int_uint64_11 : Code := Code.l c_num_Fit_int_uint64_10
noncomputable def c_num_Fit_int_uint64_12 : Code := Code.l c_num_Fit_int_uint64_11
noncomputable def r_num_Fit_int_uint64_12 : Array Oper := Code.ops c_num_Fit_int_uint64_12
noncomputable def c_num_Fit_int_uint64_14 : Code := Code.r c_num_Fit_int_uint64_11
noncomputable def c_num_Fit_int_uint64_15 : Code := Code.r c_num_Fit_int_uint64_10
noncomputable def c_num_Fit_int_uint64_16 : Code := Code.r c_num_Fit_int_uint64_6
noncomputable def c_num_Fit_int_uint64_17 : Code := Code.l c_num_Fit_int_uint64_16
noncomputable def r_num_Fit_int_uint64_17 : Array Oper := Code.ops c_num_Fit_int_uint64_17
noncomputable def c_num_Fit_int_uint64_19 : Code := Code.r c_num_Fit_int_uint64_16

set_option maxRecDepth 100000 in
theorem S_num_Fit_int_uint64 {x : Int} {w : World} {R : Int → Bool → World → Prop} (h : F_num_Fit_int_uint64 x R w) : C_num_Fit_int_uint64 x w R := by
  unfold F_num_Fit_int_uint64 at h
  unfold C_num_Fit_int_uint64
  refine Calls.mono (calls_of_wpE (args := [Value.int .u64 x]) (R := fun v w' => ∃ (r0 : Int) (r1 : Bool), v = Value.tuple #[Value.int .i64 r0, Value.bool r1] ∧ R r0 r1 w') Try.func30 (c := c_num_Fit_int_uint64_0) (by kernel_rfl) 19 (by kernel_rfl) (by kernel_rfl) [(0, Value.int .u64 x)] (by kernel_rfl) ?_) ?_
  · refine wpE_seq (x := c_num_Fit_int_uint64_1) (y := c_num_Fit_int_uint64_3) (by kernel_rfl) ?_
    refine wpE_region (id := 0) (ops := r_num_Fit_int_uint64_1) (by kernel_rfl) ?_
    refine reg_run [.plain, .plain] 2 [(0, [], Value.int .u64 x)] (by kernel_rfl) (by kernel_rfl) ?_
    refine reg_end [(0, Value.int .u64 x)] (by kernel_rfl) (by kernel_rfl) ?_
    change WpE _ _ c_num_Fit_int_uint64_3 _ _ _
    refine wpE_seq (x := c_num_Fit_int_uint64_4) (y := c_num_Fit_int_uint64_6) (by kernel_rfl) ?_
    refine wpE_region (id := 1) (ops := r_num_Fit_int_uint64_4) (by kernel_rfl) ?_
    refine reg_run [.plain, .plain, .plain] 3 [(0, [], Value.int .u64 x), (4, [], Value.int .i64 (IntKind.i64.wrap x))] (by kernel_rfl) (by kernel_rfl) ?_
    refine reg_end [(0, Value.int .u64 x), (4, Value.int .i64 (IntKind.i64.wrap x))] (by kernel_rfl) (by kernel_rfl) ?_
    change WpE _ _ c_num_Fit_int_uint64_6 _ _ _
    refine wpE_seq (x := c_num_Fit_int_uint64_7) (y := c_num_Fit_int_uint64_16) (by kernel_rfl) ?_
    refine wpE_seq (x := c_num_Fit_int_uint64_8) (y := c_num_Fit_int_uint64_10) (by kernel_rfl) ?_
    refine wpE_region (id := 2) (ops := r_num_Fit_int_uint64_8) (by kernel_rfl) ?_
    refine reg_run [.plain, .plain, .plain, .plain, .plain, .plain, .plain, .plain, .plain, .plain, .pick] 11 [(4, [], Value.int .i64 (IntKind.i64.wrap x)), (17, [], Value.bool (((IntKind.u64.wrap (IntKind.i64.wrap x)) != x) || (!((decide (x < 0)) == (decide ((IntKind.i64.wrap x) < 0))))))] (by kernel_rfl) (by kernel_rfl) ?_
    refine reg_end [(4, Value.int .i64 (IntKind.i64.wrap x)), (17, Value.bool (((IntKind.u64.wrap (IntKind.i64.wrap x)) != x) || (!((decide (x < 0)) == (decide ((IntKind.i64.wrap x) < 0))))))] (by kernel_rfl) (by kernel_rfl) ?_
    change WpE _ _ c_num_Fit_int_uint64_10 _ _ _
    refine wpE_cond (o := (Operand.tmp 17)) (b := (((IntKind.u64.wrap (IntKind.i64.wrap x)) != x) || (!((decide (x < 0)) == (decide ((IntKind.i64.wrap x) < 0)))))) (x := c_num_Fit_int_uint64_11) (y := c_num_Fit_int_uint64_15) (by kernel_rfl) (by kernel_rfl) (fun hb => ?_) (fun hb => ?_)
    · replace h := h.1 hb
      refine wpE_seq (x := c_num_Fit_int_uint64_12) (y := c_num_Fit_int_uint64_14) (by kernel_rfl) ?_
      refine wpE_region (id := 3) (ops := r_num_Fit_int_uint64_12) (by kernel_rfl) ?_
      refine reg_run [.plain, .plain] 2 [(2, [], Value.int .i64 0), (3, [], Value.bool false)] (by kernel_rfl) (by kernel_rfl) ?_
      refine reg_end [(2, Value.int .i64 0), (3, Value.bool false)] (by kernel_rfl) (by kernel_rfl) ?_
      change WpE _ _ c_num_Fit_int_uint64_14 _ _ _
      refine wpE_ret (by kernel_rfl) ?_
      repeat (first | refine seqQ_ret ?_ | refine blockQ_ret ?_ | refine loopQ_ret ?_ | refine cutQ_ret ?_)
      exact retT (rs := [(Go.ResultVar.tmp 2), (Go.ResultVar.tmp 3)]) (vs := [Value.int .i64 0, Value.bool false]) (by kernel_rfl) (⟨by kernel_rfl, ⟨by kernel_rfl, trivial⟩⟩) (by kernel_rfl) ⟨0, false, rfl, h⟩
    · replace h := h.2 hb
      refine wpE_skip (by kernel_rfl) ?_
      change WpE _ _ c_num_Fit_int_uint64_16 _ _ _
      refine wpE_seq (x := c_num_Fit_int_uint64_17) (y := c_num_Fit_int_uint64_19) (by kernel_rfl) ?_
      refine wpE_region (id := 4) (ops := r_num_Fit_int_uint64_17) (by kernel_rfl) ?_
      refine reg_run [.plain, .plain, .plain] 3 [(2, [], Value.int .i64 (IntKind.i64.wrap x)), (3, [], Value.bool true)] (by kernel_rfl) (by kernel_rfl) ?_
      refine reg_end [(2, Value.int .i64 (IntKind.i64.wrap x)), (3, Value.bool true)] (by kernel_rfl) (by kernel_rfl) ?_
      change WpE _ _ c_num_Fit_int_uint64_19 _ _ _
      refine wpE_ret (by kernel_rfl) ?_
      repeat (first | refine seqQ_ret ?_ | refine blockQ_ret ?_ | refine loopQ_ret ?_ | refine cutQ_ret ?_)
      exact retT (rs := [(Go.ResultVar.tmp 2), (Go.ResultVar.tmp 3)]) (vs := [Value.int .i64 (IntKind.i64.wrap x), Value.bool true]) (by kernel_rfl) (⟨by kernel_rfl, ⟨by kernel_rfl, trivial⟩⟩) (by kernel_rfl) ⟨(IntKind.i64.wrap x), true, rfl, h⟩
  · rintro e w' ⟨v, rfl, r0, r1, rfl, h⟩; exact ⟨r0, r1, rfl, h⟩

/-! ### towpath/num.Fit[uint8,uint64] (function 31) -/
noncomputable def c_num_Fit_uint8_uint64_0 : Code := (Try.f31.body).getD Code.skip
noncomputable def c_num_Fit_uint8_uint64_1 : Code := Code.l c_num_Fit_uint8_uint64_0
noncomputable def r_num_Fit_uint8_uint64_1 : Array Oper := Code.ops c_num_Fit_uint8_uint64_1
noncomputable def c_num_Fit_uint8_uint64_3 : Code := Code.r c_num_Fit_uint8_uint64_0
noncomputable def c_num_Fit_uint8_uint64_4 : Code := Code.l c_num_Fit_uint8_uint64_3
noncomputable def r_num_Fit_uint8_uint64_4 : Array Oper := Code.ops c_num_Fit_uint8_uint64_4
noncomputable def c_num_Fit_uint8_uint64_6 : Code := Code.r c_num_Fit_uint8_uint64_3
noncomputable def c_num_Fit_uint8_uint64_7 : Code := Code.l c_num_Fit_uint8_uint64_6
noncomputable def c_num_Fit_uint8_uint64_8 : Code := Code.l c_num_Fit_uint8_uint64_7
noncomputable def r_num_Fit_uint8_uint64_8 : Array Oper := Code.ops c_num_Fit_uint8_uint64_8
noncomputable def c_num_Fit_uint8_uint64_10 : Code := Code.r c_num_Fit_uint8_uint64_7
noncomputable def c_num_Fit_uint8_uint64_11 : Code := Code.l c_num_Fit_uint8_uint64_10
noncomputable def c_num_Fit_uint8_uint64_12 : Code := Code.l c_num_Fit_uint8_uint64_11
noncomputable def r_num_Fit_uint8_uint64_12 : Array Oper := Code.ops c_num_Fit_uint8_uint64_12
noncomputable def c_num_Fit_uint8_uint64_14 : Code := Code.r c_num_Fit_uint8_uint64_11
noncomputable def c_num_Fit_uint8_uint64_15 : Code := Code.r c_num_Fit_uint8_uint64_10
noncomputable def c_num_Fit_uint8_uint64_16 : Code := Code.r c_num_Fit_uint8_uint64_6
noncomputable def c_num_Fit_uint8_uint64_17 : Code := Code.l c_num_Fit_uint8_uint64_16
noncomputable def r_num_Fit_uint8_uint64_17 : Array Oper := Code.ops c_num_Fit_uint8_uint64_17
noncomputable def c_num_Fit_uint8_uint64_19 : Code := Code.r c_num_Fit_uint8_uint64_16

set_option maxRecDepth 100000 in
theorem S_num_Fit_uint8_uint64 {x : Int} {w : World} {R : Int → Bool → World → Prop} (h : F_num_Fit_uint8_uint64 x R w) : C_num_Fit_uint8_uint64 x w R := by
  unfold F_num_Fit_uint8_uint64 at h
  unfold C_num_Fit_uint8_uint64
  refine Calls.mono (calls_of_wpE (args := [Value.int .u64 x]) (R := fun v w' => ∃ (r0 : Int) (r1 : Bool), v = Value.tuple #[Value.int .u8 r0, Value.bool r1] ∧ R r0 r1 w') Try.func31 (c := c_num_Fit_uint8_uint64_0) (by kernel_rfl) 19 (by kernel_rfl) (by kernel_rfl) [(0, Value.int .u64 x)] (by kernel_rfl) ?_) ?_
  · refine wpE_seq (x := c_num_Fit_uint8_uint64_1) (y := c_num_Fit_uint8_uint64_3) (by kernel_rfl) ?_
    refine wpE_region (id := 0) (ops := r_num_Fit_uint8_uint64_1) (by kernel_rfl) ?_
    refine reg_run [.plain, .plain] 2 [(0, [], Value.int .u64 x)] (by kernel_rfl) (by kernel_rfl) ?_
    refine reg_end [(0, Value.int .u64 x)] (by kernel_rfl) (by kernel_rfl) ?_
    change WpE _ _ c_num_Fit_uint8_uint64_3 _ _ _
    refine wpE_seq (x := c_num_Fit_uint8_uint64_4) (y := c_num_Fit_uint8_uint64_6) (by kernel_rfl) ?_
    refine wpE_region (id := 1) (ops := r_num_Fit_uint8_uint64_4) (by kernel_rfl) ?_
    refine reg_run [.plain, .plain, .plain] 3 [(0, [], Value.int .u64 x), (4, [], Value.int .u8 (IntKind.u8.wrap x))] (by kernel_rfl) (by kernel_rfl) ?_
    refine reg_end [(0, Value.int .u64 x), (4, Value.int .u8 (IntKind.u8.wrap x))] (by kernel_rfl) (by kernel_rfl) ?_
    change WpE _ _ c_num_Fit_uint8_uint64_6 _ _ _
    refine wpE_seq (x := c_num_Fit_uint8_uint64_7) (y := c_num_Fit_uint8_uint64_16) (by kernel_rfl) ?_
    refine wpE_seq (x := c_num_Fit_uint8_uint64_8) (y := c_num_Fit_uint8_uint64_10) (by kernel_rfl) ?_
    refine wpE_region (id := 2) (ops := r_num_Fit_uint8_uint64_8) (by kernel_rfl) ?_
    refine reg_run [.plain, .plain, .plain, .plain, .plain, .plain, .plain, .plain, .plain, .plain, .pick] 11 [(4, [], Value.int .u8 (IntKind.u8.wrap x)), (17, [], Value.bool (((IntKind.u64.wrap (IntKind.u8.wrap x)) != x) || (!((decide (x < 0)) == (decide ((IntKind.u8.wrap x) < 0))))))] (by kernel_rfl) (by kernel_rfl) ?_
    refine reg_end [(4, Value.int .u8 (IntKind.u8.wrap x)), (17, Value.bool (((IntKind.u64.wrap (IntKind.u8.wrap x)) != x) || (!((decide (x < 0)) == (decide ((IntKind.u8.wrap x) < 0))))))] (by kernel_rfl) (by kernel_rfl) ?_
    change WpE _ _ c_num_Fit_uint8_uint64_10 _ _ _
    refine wpE_cond (o := (Operand.tmp 17)) (b := (((IntKind.u64.wrap (IntKind.u8.wrap x)) != x) || (!((decide (x < 0)) == (decide ((IntKind.u8.wrap x) < 0)))))) (x := c_num_Fit_uint8_uint64_11) (y := c_num_Fit_uint8_uint64_15) (by kernel_rfl) (by kernel_rfl) (fun hb => ?_) (fun hb => ?_)
    · replace h := h.1 hb
      refine wpE_seq (x := c_num_Fit_uint8_uint64_12) (y := c_num_Fit_uint8_uint64_14) (by kernel_rfl) ?_
      refine wpE_region (id := 3) (ops := r_num_Fit_uint8_uint64_12) (by kernel_rfl) ?_
      refine reg_run [.plain, .plain] 2 [(2, [], Value.int .u8 0), (3, [], Value.bool false)] (by kernel_rfl) (by kernel_rfl) ?_
      refine reg_end [(2, Value.int .u8 0), (3, Value.bool false)] (by kernel_rfl) (by kernel_rfl) ?_
      change WpE _ _ c_num_Fit_uint8_uint64_14 _ _ _
      refine wpE_ret (by kernel_rfl) ?_
      repeat (first | refine seqQ_ret ?_ | refine blockQ_ret ?_ | refine loopQ_ret ?_ | refine cutQ_ret ?_)
      exact retT (rs := [(Go.ResultVar.tmp 2), (Go.ResultVar.tmp 3)]) (vs := [Value.int .u8 0, Value.bool false]) (by kernel_rfl) (⟨by kernel_rfl, ⟨by kernel_rfl, trivial⟩⟩) (by kernel_rfl) ⟨0, false, rfl, h⟩
    · replace h := h.2 hb
      refine wpE_skip (by kernel_rfl) ?_
      change WpE _ _ c_num_Fit_uint8_uint64_16 _ _ _
      refine wpE_seq (x := c_num_Fit_uint8_uint64_17) (y := c_num_Fit_uint8_uint64_19) (by kernel_rfl) ?_
      refine wpE_region (id := 4) (ops := r_num_Fit_uint8_uint64_17) (by kernel_rfl) ?_
      refine reg_run [.plain, .plain, .plain] 3 [(2, [], Value.int .u8 (IntKind.u8.wrap x)), (3, [], Value.bool true)] (by kernel_rfl) (by kernel_rfl) ?_
      refine reg_end [(2, Value.int .u8 (IntKind.u8.wrap x)), (3, Value.bool true)] (by kernel_rfl) (by kernel_rfl) ?_
      change WpE _ _ c_num_Fit_uint8_uint64_19 _ _ _
      refine wpE_ret (by kernel_rfl) ?_
      repeat (first | refine seqQ_ret ?_ | refine blockQ_ret ?_ | refine loopQ_ret ?_ | refine cutQ_ret ?_)
      exact retT (rs := [(Go.ResultVar.tmp 2), (Go.ResultVar.tmp 3)]) (vs := [Value.int .u8 (IntKind.u8.wrap x), Value.bool true]) (by kernel_rfl) (⟨by kernel_rfl, ⟨by kernel_rfl, trivial⟩⟩) (by kernel_rfl) ⟨(IntKind.u8.wrap x), true, rfl, h⟩
  · rintro e w' ⟨v, rfl, r0, r1, rfl, h⟩; exact ⟨r0, r1, rfl, h⟩

/-! ### towpath/num.Fit[towpath/towpathlaw01.Named,uint64] (function 32) -/
noncomputable def c_num_Fit_towpathlaw01_Named_uint64_0 : Code := (Try.f32.body).getD Code.skip
noncomputable def c_num_Fit_towpathlaw01_Named_uint64_1 : Code := Code.l c_num_Fit_towpathlaw01_Named_uint64_0
noncomputable def r_num_Fit_towpathlaw01_Named_uint64_1 : Array Oper := Code.ops c_num_Fit_towpathlaw01_Named_uint64_1
noncomputable def c_num_Fit_towpathlaw01_Named_uint64_3 : Code := Code.r c_num_Fit_towpathlaw01_Named_uint64_0
noncomputable def c_num_Fit_towpathlaw01_Named_uint64_4 : Code := Code.l c_num_Fit_towpathlaw01_Named_uint64_3
noncomputable def r_num_Fit_towpathlaw01_Named_uint64_4 : Array Oper := Code.ops c_num_Fit_towpathlaw01_Named_uint64_4
noncomputable def c_num_Fit_towpathlaw01_Named_uint64_6 : Code := Code.r c_num_Fit_towpathlaw01_Named_uint64_3
noncomputable def c_num_Fit_towpathlaw01_Named_uint64_7 : Code := Code.l c_num_Fit_towpathlaw01_Named_uint64_6
noncomputable def c_num_Fit_towpathlaw01_Named_uint64_8 : Code := Code.l c_num_Fit_towpathlaw01_Named_uint64_7
noncomputable def r_num_Fit_towpathlaw01_Named_uint64_8 : Array Oper := Code.ops c_num_Fit_towpathlaw01_Named_uint64_8
noncomputable def c_num_Fit_towpathlaw01_Named_uint64_10 : Code := Code.r c_num_Fit_towpathlaw01_Named_uint64_7
noncomputable def c_num_Fit_towpathlaw01_Named_uint64_11 : Code := Code.l c_num_Fit_towpathlaw01_Named_uint64_10
noncomputable def c_num_Fit_towpathlaw01_Named_uint64_12 : Code := Code.l c_num_Fit_towpathlaw01_Named_uint64_11
noncomputable def r_num_Fit_towpathlaw01_Named_uint64_12 : Array Oper := Code.ops c_num_Fit_towpathlaw01_Named_uint64_12
noncomputable def c_num_Fit_towpathlaw01_Named_uint64_14 : Code := Code.r c_num_Fit_towpathlaw01_Named_uint64_11
noncomputable def c_num_Fit_towpathlaw01_Named_uint64_15 : Code := Code.r c_num_Fit_towpathlaw01_Named_uint64_10
noncomputable def c_num_Fit_towpathlaw01_Named_uint64_16 : Code := Code.r c_num_Fit_towpathlaw01_Named_uint64_6
noncomputable def c_num_Fit_towpathlaw01_Named_uint64_17 : Code := Code.l c_num_Fit_towpathlaw01_Named_uint64_16
noncomputable def r_num_Fit_towpathlaw01_Named_uint64_17 : Array Oper := Code.ops c_num_Fit_towpathlaw01_Named_uint64_17
noncomputable def c_num_Fit_towpathlaw01_Named_uint64_19 : Code := Code.r c_num_Fit_towpathlaw01_Named_uint64_16

set_option maxRecDepth 100000 in
theorem S_num_Fit_towpathlaw01_Named_uint64 {x : Int} {w : World} {R : Int → Bool → World → Prop} (h : F_num_Fit_towpathlaw01_Named_uint64 x R w) : C_num_Fit_towpathlaw01_Named_uint64 x w R := by
  unfold F_num_Fit_towpathlaw01_Named_uint64 at h
  unfold C_num_Fit_towpathlaw01_Named_uint64
  refine Calls.mono (calls_of_wpE (args := [Value.int .u64 x]) (R := fun v w' => ∃ (r0 : Int) (r1 : Bool), v = Value.tuple #[Value.int .u16 r0, Value.bool r1] ∧ R r0 r1 w') Try.func32 (c := c_num_Fit_towpathlaw01_Named_uint64_0) (by kernel_rfl) 19 (by kernel_rfl) (by kernel_rfl) [(0, Value.int .u64 x)] (by kernel_rfl) ?_) ?_
  · refine wpE_seq (x := c_num_Fit_towpathlaw01_Named_uint64_1) (y := c_num_Fit_towpathlaw01_Named_uint64_3) (by kernel_rfl) ?_
    refine wpE_region (id := 0) (ops := r_num_Fit_towpathlaw01_Named_uint64_1) (by kernel_rfl) ?_
    refine reg_run [.plain, .plain] 2 [(0, [], Value.int .u64 x)] (by kernel_rfl) (by kernel_rfl) ?_
    refine reg_end [(0, Value.int .u64 x)] (by kernel_rfl) (by kernel_rfl) ?_
    change WpE _ _ c_num_Fit_towpathlaw01_Named_uint64_3 _ _ _
    refine wpE_seq (x := c_num_Fit_towpathlaw01_Named_uint64_4) (y := c_num_Fit_towpathlaw01_Named_uint64_6) (by kernel_rfl) ?_
    refine wpE_region (id := 1) (ops := r_num_Fit_towpathlaw01_Named_uint64_4) (by kernel_rfl) ?_
    refine reg_run [.plain, .plain, .plain] 3 [(0, [], Value.int .u64 x), (4, [], Value.int .u16 (IntKind.u16.wrap x))] (by kernel_rfl) (by kernel_rfl) ?_
    refine reg_end [(0, Value.int .u64 x), (4, Value.int .u16 (IntKind.u16.wrap x))] (by kernel_rfl) (by kernel_rfl) ?_
    change WpE _ _ c_num_Fit_towpathlaw01_Named_uint64_6 _ _ _
    refine wpE_seq (x := c_num_Fit_towpathlaw01_Named_uint64_7) (y := c_num_Fit_towpathlaw01_Named_uint64_16) (by kernel_rfl) ?_
    refine wpE_seq (x := c_num_Fit_towpathlaw01_Named_uint64_8) (y := c_num_Fit_towpathlaw01_Named_uint64_10) (by kernel_rfl) ?_
    refine wpE_region (id := 2) (ops := r_num_Fit_towpathlaw01_Named_uint64_8) (by kernel_rfl) ?_
    refine reg_run [.plain, .plain, .plain, .plain, .plain, .plain, .plain, .plain, .plain, .plain, .pick] 11 [(4, [], Value.int .u16 (IntKind.u16.wrap x)), (17, [], Value.bool (((IntKind.u64.wrap (IntKind.u16.wrap x)) != x) || (!((decide (x < 0)) == (decide ((IntKind.u16.wrap x) < 0))))))] (by kernel_rfl) (by kernel_rfl) ?_
    refine reg_end [(4, Value.int .u16 (IntKind.u16.wrap x)), (17, Value.bool (((IntKind.u64.wrap (IntKind.u16.wrap x)) != x) || (!((decide (x < 0)) == (decide ((IntKind.u16.wrap x) < 0))))))] (by kernel_rfl) (by kernel_rfl) ?_
    change WpE _ _ c_num_Fit_towpathlaw01_Named_uint64_10 _ _ _
    refine wpE_cond (o := (Operand.tmp 17)) (b := (((IntKind.u64.wrap (IntKind.u16.wrap x)) != x) || (!((decide (x < 0)) == (decide ((IntKind.u16.wrap x) < 0)))))) (x := c_num_Fit_towpathlaw01_Named_uint64_11) (y := c_num_Fit_towpathlaw01_Named_uint64_15) (by kernel_rfl) (by kernel_rfl) (fun hb => ?_) (fun hb => ?_)
    · replace h := h.1 hb
      refine wpE_seq (x := c_num_Fit_towpathlaw01_Named_uint64_12) (y := c_num_Fit_towpathlaw01_Named_uint64_14) (by kernel_rfl) ?_
      refine wpE_region (id := 3) (ops := r_num_Fit_towpathlaw01_Named_uint64_12) (by kernel_rfl) ?_
      refine reg_run [.plain, .plain] 2 [(2, [], Value.int .u16 0), (3, [], Value.bool false)] (by kernel_rfl) (by kernel_rfl) ?_
      refine reg_end [(2, Value.int .u16 0), (3, Value.bool false)] (by kernel_rfl) (by kernel_rfl) ?_
      change WpE _ _ c_num_Fit_towpathlaw01_Named_uint64_14 _ _ _
      refine wpE_ret (by kernel_rfl) ?_
      repeat (first | refine seqQ_ret ?_ | refine blockQ_ret ?_ | refine loopQ_ret ?_ | refine cutQ_ret ?_)
      exact retT (rs := [(Go.ResultVar.tmp 2), (Go.ResultVar.tmp 3)]) (vs := [Value.int .u16 0, Value.bool false]) (by kernel_rfl) (⟨by kernel_rfl, ⟨by kernel_rfl, trivial⟩⟩) (by kernel_rfl) ⟨0, false, rfl, h⟩
    · replace h := h.2 hb
      refine wpE_skip (by kernel_rfl) ?_
      change WpE _ _ c_num_Fit_towpathlaw01_Named_uint64_16 _ _ _
      refine wpE_seq (x := c_num_Fit_towpathlaw01_Named_uint64_17) (y := c_num_Fit_towpathlaw01_Named_uint64_19) (by kernel_rfl) ?_
      refine wpE_region (id := 4) (ops := r_num_Fit_towpathlaw01_Named_uint64_17) (by kernel_rfl) ?_
      refine reg_run [.plain, .plain, .plain] 3 [(2, [], Value.int .u16 (IntKind.u16.wrap x)), (3, [], Value.bool true)] (by kernel_rfl) (by kernel_rfl) ?_
      refine reg_end [(2, Value.int .u16 (IntKind.u16.wrap x)), (3, Value.bool true)] (by kernel_rfl) (by kernel_rfl) ?_
      change WpE _ _ c_num_Fit_towpathlaw01_Named_uint64_19 _ _ _
      refine wpE_ret (by kernel_rfl) ?_
      repeat (first | refine seqQ_ret ?_ | refine blockQ_ret ?_ | refine loopQ_ret ?_ | refine cutQ_ret ?_)
      exact retT (rs := [(Go.ResultVar.tmp 2), (Go.ResultVar.tmp 3)]) (vs := [Value.int .u16 (IntKind.u16.wrap x), Value.bool true]) (by kernel_rfl) (⟨by kernel_rfl, ⟨by kernel_rfl, trivial⟩⟩) (by kernel_rfl) ⟨(IntKind.u16.wrap x), true, rfl, h⟩
  · rintro e w' ⟨v, rfl, r0, r1, rfl, h⟩; exact ⟨r0, r1, rfl, h⟩

/-! ### towpath/num.Fit[uint32,uint64] (function 33) -/
noncomputable def c_num_Fit_uint32_uint64_0 : Code := (Try.f33.body).getD Code.skip
noncomputable def c_num_Fit_uint32_uint64_1 : Code := Code.l c_num_Fit_uint32_uint64_0
noncomputable def r_num_Fit_uint32_uint64_1 : Array Oper := Code.ops c_num_Fit_uint32_uint64_1
noncomputable def c_num_Fit_uint32_uint64_3 : Code := Code.r c_num_Fit_uint32_uint64_0
noncomputable def c_num_Fit_uint32_uint64_4 : Code := Code.l c_num_Fit_uint32_uint64_3
noncomputable def r_num_Fit_uint32_uint64_4 : Array Oper := Code.ops c_num_Fit_uint32_uint64_4
noncomputable def c_num_Fit_uint32_uint64_6 : Code := Code.r c_num_Fit_uint32_uint64_3
noncomputable def c_num_Fit_uint32_uint64_7 : Code := Code.l c_num_Fit_uint32_uint64_6
noncomputable def c_num_Fit_uint32_uint64_8 : Code := Code.l c_num_Fit_uint32_uint64_7
noncomputable def r_num_Fit_uint32_uint64_8 : Array Oper := Code.ops c_num_Fit_uint32_uint64_8
noncomputable def c_num_Fit_uint32_uint64_10 : Code := Code.r c_num_Fit_uint32_uint64_7
noncomputable def c_num_Fit_uint32_uint64_11 : Code := Code.l c_num_Fit_uint32_uint64_10
noncomputable def c_num_Fit_uint32_uint64_12 : Code := Code.l c_num_Fit_uint32_uint64_11
noncomputable def r_num_Fit_uint32_uint64_12 : Array Oper := Code.ops c_num_Fit_uint32_uint64_12
noncomputable def c_num_Fit_uint32_uint64_14 : Code := Code.r c_num_Fit_uint32_uint64_11
noncomputable def c_num_Fit_uint32_uint64_15 : Code := Code.r c_num_Fit_uint32_uint64_10
noncomputable def c_num_Fit_uint32_uint64_16 : Code := Code.r c_num_Fit_uint32_uint64_6
noncomputable def c_num_Fit_uint32_uint64_17 : Code := Code.l c_num_Fit_uint32_uint64_16
noncomputable def r_num_Fit_uint32_uint64_17 : Array Oper := Code.ops c_num_Fit_uint32_uint64_17
noncomputable def c_num_Fit_uint32_uint64_19 : Code := Code.r c_num_Fit_uint32_uint64_16

set_option maxRecDepth 100000 in
theorem S_num_Fit_uint32_uint64 {x : Int} {w : World} {R : Int → Bool → World → Prop} (h : F_num_Fit_uint32_uint64 x R w) : C_num_Fit_uint32_uint64 x w R := by
  unfold F_num_Fit_uint32_uint64 at h
  unfold C_num_Fit_uint32_uint64
  refine Calls.mono (calls_of_wpE (args := [Value.int .u64 x]) (R := fun v w' => ∃ (r0 : Int) (r1 : Bool), v = Value.tuple #[Value.int .u32 r0, Value.bool r1] ∧ R r0 r1 w') Try.func33 (c := c_num_Fit_uint32_uint64_0) (by kernel_rfl) 19 (by kernel_rfl) (by kernel_rfl) [(0, Value.int .u64 x)] (by kernel_rfl) ?_) ?_
  · refine wpE_seq (x := c_num_Fit_uint32_uint64_1) (y := c_num_Fit_uint32_uint64_3) (by kernel_rfl) ?_
    refine wpE_region (id := 0) (ops := r_num_Fit_uint32_uint64_1) (by kernel_rfl) ?_
    refine reg_run [.plain, .plain] 2 [(0, [], Value.int .u64 x)] (by kernel_rfl) (by kernel_rfl) ?_
    refine reg_end [(0, Value.int .u64 x)] (by kernel_rfl) (by kernel_rfl) ?_
    change WpE _ _ c_num_Fit_uint32_uint64_3 _ _ _
    refine wpE_seq (x := c_num_Fit_uint32_uint64_4) (y := c_num_Fit_uint32_uint64_6) (by kernel_rfl) ?_
    refine wpE_region (id := 1) (ops := r_num_Fit_uint32_uint64_4) (by kernel_rfl) ?_
    refine reg_run [.plain, .plain, .plain] 3 [(0, [], Value.int .u64 x), (4, [], Value.int .u32 (IntKind.u32.wrap x))] (by kernel_rfl) (by kernel_rfl) ?_
    refine reg_end [(0, Value.int .u64 x), (4, Value.int .u32 (IntKind.u32.wrap x))] (by kernel_rfl) (by kernel_rfl) ?_
    change WpE _ _ c_num_Fit_uint32_uint64_6 _ _ _
    refine wpE_seq (x := c_num_Fit_uint32_uint64_7) (y := c_num_Fit_uint32_uint64_16) (by kernel_rfl) ?_
    refine wpE_seq (x := c_num_Fit_uint32_uint64_8) (y := c_num_Fit_uint32_uint64_10) (by kernel_rfl) ?_
    refine wpE_region (id := 2) (ops := r_num_Fit_uint32_uint64_8) (by kernel_rfl) ?_
    refine reg_run [.plain, .plain, .plain, .plain, .plain, .plain, .plain, .plain, .plain, .plain, .pick] 11 [(4, [], Value.int .u32 (IntKind.u32.wrap x)), (17, [], Value.bool (((IntKind.u64.wrap (IntKind.u32.wrap x)) != x) || (!((decide (x < 0)) == (decide ((IntKind.u32.wrap x) < 0))))))] (by kernel_rfl) (by kernel_rfl) ?_
    refine reg_end [(4, Value.int .u32 (IntKind.u32.wrap x)), (17, Value.bool (((IntKind.u64.wrap (IntKind.u32.wrap x)) != x) || (!((decide (x < 0)) == (decide ((IntKind.u32.wrap x) < 0))))))] (by kernel_rfl) (by kernel_rfl) ?_
    change WpE _ _ c_num_Fit_uint32_uint64_10 _ _ _
    refine wpE_cond (o := (Operand.tmp 17)) (b := (((IntKind.u64.wrap (IntKind.u32.wrap x)) != x) || (!((decide (x < 0)) == (decide ((IntKind.u32.wrap x) < 0)))))) (x := c_num_Fit_uint32_uint64_11) (y := c_num_Fit_uint32_uint64_15) (by kernel_rfl) (by kernel_rfl) (fun hb => ?_) (fun hb => ?_)
    · replace h := h.1 hb
      refine wpE_seq (x := c_num_Fit_uint32_uint64_12) (y := c_num_Fit_uint32_uint64_14) (by kernel_rfl) ?_
      refine wpE_region (id := 3) (ops := r_num_Fit_uint32_uint64_12) (by kernel_rfl) ?_
      refine reg_run [.plain, .plain] 2 [(2, [], Value.int .u32 0), (3, [], Value.bool false)] (by kernel_rfl) (by kernel_rfl) ?_
      refine reg_end [(2, Value.int .u32 0), (3, Value.bool false)] (by kernel_rfl) (by kernel_rfl) ?_
      change WpE _ _ c_num_Fit_uint32_uint64_14 _ _ _
      refine wpE_ret (by kernel_rfl) ?_
      repeat (first | refine seqQ_ret ?_ | refine blockQ_ret ?_ | refine loopQ_ret ?_ | refine cutQ_ret ?_)
      exact retT (rs := [(Go.ResultVar.tmp 2), (Go.ResultVar.tmp 3)]) (vs := [Value.int .u32 0, Value.bool false]) (by kernel_rfl) (⟨by kernel_rfl, ⟨by kernel_rfl, trivial⟩⟩) (by kernel_rfl) ⟨0, false, rfl, h⟩
    · replace h := h.2 hb
      refine wpE_skip (by kernel_rfl) ?_
      change WpE _ _ c_num_Fit_uint32_uint64_16 _ _ _
      refine wpE_seq (x := c_num_Fit_uint32_uint64_17) (y := c_num_Fit_uint32_uint64_19) (by kernel_rfl) ?_
      refine wpE_region (id := 4) (ops := r_num_Fit_uint32_uint64_17) (by kernel_rfl) ?_
      refine reg_run [.plain, .plain, .plain] 3 [(2, [], Value.int .u32 (IntKind.u32.wrap x)), (3, [], Value.bool true)] (by kernel_rfl) (by kernel_rfl) ?_
      refine reg_end [(2, Value.int .u32 (IntKind.u32.wrap x)), (3, Value.bool true)] (by kernel_rfl) (by kernel_rfl) ?_
      change WpE _ _ c_num_Fit_uint32_uint64_19 _ _ _
      refine wpE_ret (by kernel_rfl) ?_
      repeat (first | refine seqQ_ret ?_ | refine blockQ_ret ?_ | refine loopQ_ret ?_ | refine cutQ_ret ?_)
      exact retT (rs := [(Go.ResultVar.tmp 2), (Go.ResultVar.tmp 3)]) (vs := [Value.int .u32 (IntKind.u32.wrap x), Value.bool true]) (by kernel_rfl) (⟨by kernel_rfl, ⟨by kernel_rfl, trivial⟩⟩) (by kernel_rfl) ⟨(IntKind.u32.wrap x), true, rfl, h⟩
  · rintro e w' ⟨v, rfl, r0, r1, rfl, h⟩; exact ⟨r0, r1, rfl, h⟩

/-! ### towpath/num.Fit[uint64,uint64] (function 34) -/
noncomputable def c_num_Fit_uint64_uint64_0 : Code := (Try.f34.body).getD Code.skip
noncomputable def c_num_Fit_uint64_uint64_1 : Code := Code.l c_num_Fit_uint64_uint64_0
noncomputable def r_num_Fit_uint64_uint64_1 : Array Oper := Code.ops c_num_Fit_uint64_uint64_1
noncomputable def c_num_Fit_uint64_uint64_3 : Code := Code.r c_num_Fit_uint64_uint64_0
noncomputable def c_num_Fit_uint64_uint64_4 : Code := Code.l c_num_Fit_uint64_uint64_3
noncomputable def r_num_Fit_uint64_uint64_4 : Array Oper := Code.ops c_num_Fit_uint64_uint64_4
noncomputable def c_num_Fit_uint64_uint64_6 : Code := Code.r c_num_Fit_uint64_uint64_3
noncomputable def c_num_Fit_uint64_uint64_7 : Code := Code.l c_num_Fit_uint64_uint64_6
noncomputable def c_num_Fit_uint64_uint64_8 : Code := Code.l c_num_Fit_uint64_uint64_7
noncomputable def r_num_Fit_uint64_uint64_8 : Array Oper := Code.ops c_num_Fit_uint64_uint64_8
noncomputable def c_num_Fit_uint64_uint64_10 : Code := Code.r c_num_Fit_uint64_uint64_7
noncomputable def c_num_Fit_uint64_uint64_11 : Code := Code.l c_num_Fit_uint64_uint64_10
noncomputable def c_num_Fit_uint64_uint64_12 : Code := Code.l c_num_Fit_uint64_uint64_11
noncomputable def r_num_Fit_uint64_uint64_12 : Array Oper := Code.ops c_num_Fit_uint64_uint64_12
noncomputable def c_num_Fit_uint64_uint64_14 : Code := Code.r c_num_Fit_uint64_uint64_11
noncomputable def c_num_Fit_uint64_uint64_15 : Code := Code.r c_num_Fit_uint64_uint64_10
noncomputable def c_num_Fit_uint64_uint64_16 : Code := Code.r c_num_Fit_uint64_uint64_6
noncomputable def c_num_Fit_uint64_uint64_17 : Code := Code.l c_num_Fit_uint64_uint64_16
noncomputable def r_num_Fit_uint64_uint64_17 : Array Oper := Code.ops c_num_Fit_uint64_uint64_17
noncomputable def c_num_Fit_uint64_uint64_19 : Code := Code.r c_num_Fit_uint64_uint64_16

set_option maxRecDepth 100000 in
theorem S_num_Fit_uint64_uint64 {x : Int} {w : World} {R : Int → Bool → World → Prop} (h : F_num_Fit_uint64_uint64 x R w) : C_num_Fit_uint64_uint64 x w R := by
  unfold F_num_Fit_uint64_uint64 at h
  unfold C_num_Fit_uint64_uint64
  refine Calls.mono (calls_of_wpE (args := [Value.int .u64 x]) (R := fun v w' => ∃ (r0 : Int) (r1 : Bool), v = Value.tuple #[Value.int .u64 r0, Value.bool r1] ∧ R r0 r1 w') Try.func34 (c := c_num_Fit_uint64_uint64_0) (by kernel_rfl) 17 (by kernel_rfl) (by kernel_rfl) [(0, Value.int .u64 x)] (by kernel_rfl) ?_) ?_
  · refine wpE_seq (x := c_num_Fit_uint64_uint64_1) (y := c_num_Fit_uint64_uint64_3) (by kernel_rfl) ?_
    refine wpE_region (id := 0) (ops := r_num_Fit_uint64_uint64_1) (by kernel_rfl) ?_
    refine reg_run [.plain, .plain] 2 [(0, [], Value.int .u64 x)] (by kernel_rfl) (by kernel_rfl) ?_
    refine reg_end [(0, Value.int .u64 x)] (by kernel_rfl) (by kernel_rfl) ?_
    change WpE _ _ c_num_Fit_uint64_uint64_3 _ _ _
    refine wpE_seq (x := c_num_Fit_uint64_uint64_4) (y := c_num_Fit_uint64_uint64_6) (by kernel_rfl) ?_
    refine wpE_region (id := 1) (ops := r_num_Fit_uint64_uint64_4) (by kernel_rfl) ?_
    refine reg_run [.plain, .plain] 2 [(0, [], Value.int .u64 x), (4, [], Value.int .u64 x)] (by kernel_rfl) (by kernel_rfl) ?_
    refine reg_end [(0, Value.int .u64 x), (4, Value.int .u64 x)] (by kernel_rfl) (by kernel_rfl) ?_
    change WpE _ _ c_num_Fit_uint64_uint64_6 _ _ _
    refine wpE_seq (x := c_num_Fit_uint64_uint64_7) (y := c_num_Fit_uint64_uint64_16) (by kernel_rfl) ?_
    refine wpE_seq (x := c_num_Fit_uint64_uint64_8) (y := c_num_Fit_uint64_uint64_10) (by kernel_rfl) ?_
    refine wpE_region (id := 2) (ops := r_num_Fit_uint64_uint64_8) (by kernel_rfl) ?_
    refine reg_run [.plain, .plain, .plain, .plain, .plain, .plain, .plain, .plain, .plain, .pick] 10 [(4, [], Value.int .u64 x), (15, [], Value.bool ((x != x) || (!((decide (x < 0)) == (decide (x < 0))))))] (by kernel_rfl) (by kernel_rfl) ?_
    refine reg_end [(4, Value.int .u64 x), (15, Value.bool ((x != x) || (!((decide (x < 0)) == (decide (x < 0))))))] (by kernel_rfl) (by kernel_rfl) ?_
    change WpE _ _ c_num_Fit_uint64_uint64_10 _ _ _
    refine wpE_cond (o := (Operand.tmp 15)) (b := ((x != x) || (!((decide (x < 0)) == (decide (x < 0)))))) (x := c_num_Fit_uint64_uint64_11) (y := c_num_Fit_uint64_uint64_15) (by kernel_rfl) (by kernel_rfl) (fun hb => ?_) (fun hb => ?_)
    · replace h := h.1 hb
      refine wpE_seq (x := c_num_Fit_uint64_uint64_12) (y := c_num_Fit_uint64_uint64_14) (by kernel_rfl) ?_
      refine wpE_region (id := 3) (ops := r_num_Fit_uint64_uint64_12) (by kernel_rfl) ?_
      refine reg_run [.plain, .plain] 2 [(2, [], Value.int .u64 0), (3, [], Value.bool false)] (by kernel_rfl) (by kernel_rfl) ?_
      refine reg_end [(2, Value.int .u64 0), (3, Value.bool false)] (by kernel_rfl) (by kernel_rfl) ?_
      change WpE _ _ c_num_Fit_uint64_uint64_14 _ _ _
      refine wpE_ret (by kernel_rfl) ?_
      repeat (first | refine seqQ_ret ?_ | refine blockQ_ret ?_ | refine loopQ_ret ?_ | refine cutQ_ret ?_)
      exact retT (rs := [(Go.ResultVar.tmp 2), (Go.ResultVar.tmp 3)]) (vs := [Value.int .u64 0, Value.bool false]) (by kernel_rfl) (⟨by kernel_rfl, ⟨by kernel_rfl, trivial⟩⟩) (by kernel_rfl) ⟨0, false, rfl, h⟩
    · replace h := h.2 hb
      refine wpE_skip (by kernel_rfl) ?_
      change WpE _ _ c_num_Fit_uint64_uint64_16 _ _ _
      refine wpE_seq (x := c_num_Fit_uint64_uint64_17) (y := c_num_Fit_uint64_uint64_19) (by kernel_rfl) ?_
      refine wpE_region (id := 4) (ops := r_num_Fit_uint64_uint64_17) (by kernel_rfl) ?_
      refine reg_run [.plain, .plain, .plain] 3 [(2, [], Value.int .u64 x), (3, [], Value.bool true)] (by kernel_rfl) (by kernel_rfl) ?_
      refine reg_end [(2, Value.int .u64 x), (3, Value.bool true)] (by kernel_rfl) (by kernel_rfl) ?_
      change WpE _ _ c_num_Fit_uint64_uint64_19 _ _ _
      refine wpE_ret (by kernel_rfl) ?_
      repeat (first | refine seqQ_ret ?_ | refine blockQ_ret ?_ | refine loopQ_ret ?_ | refine cutQ_ret ?_)
      exact retT (rs := [(Go.ResultVar.tmp 2), (Go.ResultVar.tmp 3)]) (vs := [Value.int .u64 x, Value.bool true]) (by kernel_rfl) (⟨by kernel_rfl, ⟨by kernel_rfl, trivial⟩⟩) (by kernel_rfl) ⟨x, true, rfl, h⟩
  · rintro e w' ⟨v, rfl, r0, r1, rfl, h⟩; exact ⟨r0, r1, rfl, h⟩

/-! ### towpath/num.Fit[int8,towpath/towpathlaw01.Named] (function 35) -/
noncomputable def c_num_Fit_int8_towpathlaw01_Named_0 : Code := (Try.f35.body).getD Code.skip
noncomputable def c_num_Fit_int8_towpathlaw01_Named_1 : Code := Code.l c_num_Fit_int8_towpathlaw01_Named_0
noncomputable def r_num_Fit_int8_towpathlaw01_Named_1 : Array Oper := Code.ops c_num_Fit_int8_towpathlaw01_Named_1
noncomputable def c_num_Fit_int8_towpathlaw01_Named_3 : Code := Code.r c_num_Fit_int8_towpathlaw01_Named_0
noncomputable def c_num_Fit_int8_towpathlaw01_Named_4 : Code := Code.l c_num_Fit_int8_towpathlaw01_Named_3
noncomputable def r_num_Fit_int8_towpathlaw01_Named_4 : Array Oper := Code.ops c_num_Fit_int8_towpathlaw01_Named_4
noncomputable def c_num_Fit_int8_towpathlaw01_Named_6 : Code := Code.r c_num_Fit_int8_towpathlaw01_Named_3
noncomputable def c_num_Fit_int8_towpathlaw01_Named_7 : Code := Code.l c_num_Fit_int8_towpathlaw01_Named_6
noncomputable def c_num_Fit_int8_towpathlaw01_Named_8 : Code := Code.l c_num_Fit_int8_towpathlaw01_Named_7
noncomputable def r_num_Fit_int8_towpathlaw01_Named_8 : Array Oper := Code.ops c_num_Fit_int8_towpathlaw01_Named_8
noncomputable def c_num_Fit_int8_towpathlaw01_Named_10 : Code := Code.r c_num_Fit_int8_towpathlaw01_Named_7
noncomputable def c_num_Fit_int8_towpathlaw01_Named_11 : Code := Code.l c_num_Fit_int8_towpathlaw01_Named_10
noncomputable def c_num_Fit_int8_towpathlaw01_Named_12 : Code := Code.l c_num_Fit_int8_towpathlaw01_Named_11
noncomputable def r_num_Fit_int8_towpathlaw01_Named_12 : Array Oper := Code.ops c_num_Fit_int8_towpathlaw01_Named_12
noncomputable def c_num_Fit_int8_towpathlaw01_Named_14 : Code := Code.r c_num_Fit_int8_towpathlaw01_Named_11
noncomputable def c_num_Fit_int8_towpathlaw01_Named_15 : Code := Code.r c_num_Fit_int8_towpathlaw01_Named_10
noncomputable def c_num_Fit_int8_towpathlaw01_Named_16 : Code := Code.r c_num_Fit_int8_towpathlaw01_Named_6
noncomputable def c_num_Fit_int8_towpathlaw01_Named_17 : Code := Code.l c_num_Fit_int8_towpathlaw01_Named_16
noncomputable def r_num_Fit_int8_towpathlaw01_Named_17 : Array Oper := Code.ops c_num_Fit_int8_towpathlaw01_Named_17
noncomputable def c_num_Fit_int8_towpathlaw01_Named_19 : Code := Code.r c_num_Fit_int8_towpathlaw01_Named_16

set_option maxRecDepth 100000 in
theorem S_num_Fit_int8_towpathlaw01_Named {x : Int} {w : World} {R : Int → Bool → World → Prop} (h : F_num_Fit_int8_towpathlaw01_Named x R w) : C_num_Fit_int8_towpathlaw01_Named x w R := by
  unfold F_num_Fit_int8_towpathlaw01_Named at h
  unfold C_num_Fit_int8_towpathlaw01_Named
  refine Calls.mono (calls_of_wpE (args := [Value.int .u16 x]) (R := fun v w' => ∃ (r0 : Int) (r1 : Bool), v = Value.tuple #[Value.int .i8 r0, Value.bool r1] ∧ R r0 r1 w') Try.func35 (c := c_num_Fit_int8_towpathlaw01_Named_0) (by kernel_rfl) 19 (by kernel_rfl) (by kernel_rfl) [(0, Value.int .u16 x)] (by kernel_rfl) ?_) ?_
  · refine wpE_seq (x := c_num_Fit_int8_towpathlaw01_Named_1) (y := c_num_Fit_int8_towpathlaw01_Named_3) (by kernel_rfl) ?_
    refine wpE_region (id := 0) (ops := r_num_Fit_int8_towpathlaw01_Named_1) (by kernel_rfl) ?_
    refine reg_run [.plain, .plain] 2 [(0, [], Value.int .u16 x)] (by kernel_rfl) (by kernel_rfl) ?_
    refine reg_end [(0, Value.int .u16 x)] (by kernel_rfl) (by kernel_rfl) ?_
    change WpE _ _ c_num_Fit_int8_towpathlaw01_Named_3 _ _ _
    refine wpE_seq (x := c_num_Fit_int8_towpathlaw01_Named_4) (y := c_num_Fit_int8_towpathlaw01_Named_6) (by kernel_rfl) ?_
    refine wpE_region (id := 1) (ops := r_num_Fit_int8_towpathlaw01_Named_4) (by kernel_rfl) ?_
    refine reg_run [.plain, .plain, .plain] 3 [(0, [], Value.int .u16 x), (4, [], Value.int .i8 (IntKind.i8.wrap x))] (by kernel_rfl) (by kernel_rfl) ?_
    refine reg_end [(0, Value.int .u16 x), (4, Value.int .i8 (IntKind.i8.wrap x))] (by kernel_rfl) (by kernel_rfl) ?_
    change WpE _ _ c_num_Fit_int8_towpathlaw01_Named_6 _ _ _
    refine wpE_seq (x := c_num_Fit_int8_towpathlaw01_Named_7) (y := c_num_Fit_int8_towpathlaw01_Named_16) (by kernel_rfl) ?_
    refine wpE_seq (x := c_num_Fit_int8_towpathlaw01_Named_8) (y := c_num_Fit_int8_towpathlaw01_Named_10) (by kernel_rfl) ?_
    refine wpE_region (id := 2) (ops := r_num_Fit_int8_towpathlaw01_Named_8) (by kernel_rfl) ?_
    refine reg_run [.plain, .plain, .plain, .plain, .plain, .plain, .plain, .plain, .plain, .plain, .pick] 11 [(4, [], Value.int .i8 (IntKind.i8.wrap x)), (17, [], Value.bool (((IntKind.u16.wrap (IntKind.i8.wrap x)) != x) || (!((decide (x < 0)) == (decide ((IntKind.i8.wrap x) < 0))))))] (by kernel_rfl) (by kernel_rfl) ?_
    refine reg_end [(4, Value.int .i8 (IntKind.i8.wrap x)), (17, Value.bool (((IntKind.u16.wrap (IntKind.i8.wrap x)) != x) || (!((decide (x < 0)) == (decide ((IntKind.i8.wrap x) < 0))))))] (by kernel_rfl) (by kernel_rfl) ?_
    change WpE _ _ c_num_Fit_int8_towpathlaw01_Named_10 _ _ _
    refine wpE_cond (o := (Operand.tmp 17)) (b := (((IntKind.u16.wrap (IntKind.i8.wrap x)) != x) || (!((decide (x < 0)) == (decide ((IntKind.i8.wrap x) < 0)))))) (x := c_num_Fit_int8_towpathlaw01_Named_11) (y := c_num_Fit_int8_towpathlaw01_Named_15) (by kernel_rfl) (by kernel_rfl) (fun hb => ?_) (fun hb => ?_)
    · replace h := h.1 hb
      refine wpE_seq (x := c_num_Fit_int8_towpathlaw01_Named_12) (y := c_num_Fit_int8_towpathlaw01_Named_14) (by kernel_rfl) ?_
      refine wpE_region (id := 3) (ops := r_num_Fit_int8_towpathlaw01_Named_12) (by kernel_rfl) ?_
      refine reg_run [.plain, .plain] 2 [(2, [], Value.int .i8 0), (3, [], Value.bool false)] (by kernel_rfl) (by kernel_rfl) ?_
      refine reg_end [(2, Value.int .i8 0), (3, Value.bool false)] (by kernel_rfl) (by kernel_rfl) ?_
      change WpE _ _ c_num_Fit_int8_towpathlaw01_Named_14 _ _ _
      refine wpE_ret (by kernel_rfl) ?_
      repeat (first | refine seqQ_ret ?_ | refine blockQ_ret ?_ | refine loopQ_ret ?_ | refine cutQ_ret ?_)
      exact retT (rs := [(Go.ResultVar.tmp 2), (Go.ResultVar.tmp 3)]) (vs := [Value.int .i8 0, Value.bool false]) (by kernel_rfl) (⟨by kernel_rfl, ⟨by kernel_rfl, trivial⟩⟩) (by kernel_rfl) ⟨0, false, rfl, h⟩
    · replace h := h.2 hb
      refine wpE_skip (by kernel_rfl) ?_
      change WpE _ _ c_num_Fit_int8_towpathlaw01_Named_16 _ _ _
      refine wpE_seq (x := c_num_Fit_int8_towpathlaw01_Named_17) (y := c_num_Fit_int8_towpathlaw01_Named_19) (by kernel_rfl) ?_
      refine wpE_region (id := 4) (ops := r_num_Fit_int8_towpathlaw01_Named_17) (by kernel_rfl) ?_
      refine reg_run [.plain, .plain, .plain] 3 [(2, [], Value.int .i8 (IntKind.i8.wrap x)), (3, [], Value.bool true)] (by kernel_rfl) (by kernel_rfl) ?_
      refine reg_end [(2, Value.int .i8 (IntKind.i8.wrap x)), (3, Value.bool true)] (by kernel_rfl) (by kernel_rfl) ?_
      change WpE _ _ c_num_Fit_int8_towpathlaw01_Named_19 _ _ _
      refine wpE_ret (by kernel_rfl) ?_
      repeat (first | refine seqQ_ret ?_ | refine blockQ_ret ?_ | refine loopQ_ret ?_ | refine cutQ_ret ?_)
      exact retT (rs := [(Go.ResultVar.tmp 2), (Go.ResultVar.tmp 3)]) (vs := [Value.int .i8 (IntKind.i8.wrap x), Value.bool true]) (by kernel_rfl) (⟨by kernel_rfl, ⟨by kernel_rfl, trivial⟩⟩) (by kernel_rfl) ⟨(IntKind.i8.wrap x), true, rfl, h⟩
  · rintro e w' ⟨v, rfl, r0, r1, rfl, h⟩; exact ⟨r0, r1, rfl, h⟩

/-! ### towpath/towpathlaw01.bare (function 36) -/
noncomputable def c_towpathlaw01_bare_0 : Code := (Try.f36.body).getD Code.skip
noncomputable def c_towpathlaw01_bare_1 : Code := Code.l c_towpathlaw01_bare_0
noncomputable def r_towpathlaw01_bare_1 : Array Oper := Code.ops c_towpathlaw01_bare_1
noncomputable def c_towpathlaw01_bare_3 : Code := Code.r c_towpathlaw01_bare_0
noncomputable def c_towpathlaw01_bare_4 : Code := Code.l c_towpathlaw01_bare_3
noncomputable def c_towpathlaw01_bare_5 : Code := Code.l c_towpathlaw01_bare_4
noncomputable def r_towpathlaw01_bare_5 : Array Oper := Code.ops c_towpathlaw01_bare_5
noncomputable def c_towpathlaw01_bare_7 : Code := Code.r c_towpathlaw01_bare_4
noncomputable def c_towpathlaw01_bare_8 : Code := Code.l c_towpathlaw01_bare_7
noncomputable def c_towpathlaw01_bare_9 : Code := Code.l c_towpathlaw01_bare_8
noncomputable def r_towpathlaw01_bare_9 : Array Oper := Code.ops c_towpathlaw01_bare_9
noncomputable def c_towpathlaw01_bare_11 : Code := Code.r c_towpathlaw01_bare_8
noncomputable def c_towpathlaw01_bare_12 : Code := Code.r c_towpathlaw01_bare_7
noncomputable def c_towpathlaw01_bare_13 : Code := Code.r c_towpathlaw01_bare_3
noncomputable def c_towpathlaw01_bare_14 : Code := Code.l c_towpathlaw01_bare_13
noncomputable def r_towpathlaw01_bare_14 : Array Oper := Code.ops c_towpathlaw01_bare_14
noncomputable def c_towpathlaw01_bare_16 : Code := Code.r c_towpathlaw01_bare_13

set_option maxRecDepth 100000 in
theorem S_towpathlaw01_bare {ok : Bool} {got : Int} {x : Int} {want : Bool} {w : World} {R : Bool → World → Prop} (h : F_towpathlaw01_bare ok got x want R w) : C_towpathlaw01_bare ok got x want w R := by
  unfold F_towpathlaw01_bare at h
  unfold C_towpathlaw01_bare
  refine Calls.mono (calls_of_wpE (args := [Value.bool ok, Value.int .u64 got, Value.int .u64 x, Value.bool want]) (R := fun v w' => ∃ (r0 : Bool), v = Value.bool r0 ∧ R r0 w') Try.func36 (c := c_towpathlaw01_bare_0) (by kernel_rfl) 23 (by kernel_rfl) (by kernel_rfl) [(0, Value.bool ok), (1, Value.int .u64 got), (2, Value.int .u64 x), (3, Value.bool want)] (by kernel_rfl) ?_) ?_
  · refine wpE_seq (x := c_towpathlaw01_bare_1) (y := c_towpathlaw01_bare_3) (by kernel_rfl) ?_
    refine wpE_region (id := 0) (ops := r_towpathlaw01_bare_1) (by kernel_rfl) ?_
    refine reg_run [.plain] 1 [(0, [], Value.bool ok), (1, [], Value.int .u64 got), (2, [], Value.int .u64 x), (3, [], Value.bool want)] (by kernel_rfl) (by kernel_rfl) ?_
    refine reg_end [(0, Value.bool ok), (1, Value.int .u64 got), (2, Value.int .u64 x), (3, Value.bool want)] (by kernel_rfl) (by kernel_rfl) ?_
    change WpE _ _ c_towpathlaw01_bare_3 _ _ _
    refine wpE_seq (x := c_towpathlaw01_bare_4) (y := c_towpathlaw01_bare_13) (by kernel_rfl) ?_
    refine wpE_seq (x := c_towpathlaw01_bare_5) (y := c_towpathlaw01_bare_7) (by kernel_rfl) ?_
    refine wpE_region (id := 1) (ops := r_towpathlaw01_bare_5) (by kernel_rfl) ?_
    refine reg_run [.plain, .plain] 2 [(0, [], Value.bool ok), (1, [], Value.int .u64 got), (2, [], Value.int .u64 x), (10, [], Value.bool (!want))] (by kernel_rfl) (by kernel_rfl) ?_
    refine reg_end [(0, Value.bool ok), (1, Value.int .u64 got), (2, Value.int .u64 x), (10, Value.bool (!want))] (by kernel_rfl) (by kernel_rfl) ?_
    change WpE _ _ c_towpathlaw01_bare_7 _ _ _
    refine wpE_cond (o := (Operand.tmp 10)) (b := (!want)) (x := c_towpathlaw01_bare_8) (y := c_towpathlaw01_bare_12) (by kernel_rfl) (by kernel_rfl) (fun hb => ?_) (fun hb => ?_)
    · replace h := h.1 hb
      refine wpE_seq (x := c_towpathlaw01_bare_9) (y := c_towpathlaw01_bare_11) (by kernel_rfl) ?_
      refine wpE_region (id := 2) (ops := r_towpathlaw01_bare_9) (by kernel_rfl) ?_
      refine reg_run [.plain, .plain, .plain, .plain, .plain, .pick, .plain] 7 [(8, [], Value.bool ((!ok) && (got == 0)))] (by kernel_rfl) (by kernel_rfl) ?_
      refine reg_end [(8, Value.bool ((!ok) && (got == 0)))] (by kernel_rfl) (by kernel_rfl) ?_
      change WpE _ _ c_towpathlaw01_bare_11 _ _ _
      refine wpE_ret (by kernel_rfl) ?_
      repeat (first | refine seqQ_ret ?_ | refine blockQ_ret ?_ | refine loopQ_ret ?_ | refine cutQ_ret ?_)
      exact retS (rs := [(Go.ResultVar.tmp 8)]) (v := Value.bool ((!ok) && (got == 0))) (by kernel_rfl) (⟨by kernel_rfl, trivial⟩) ⟨((!ok) && (got == 0)), rfl, h⟩
    · replace h := h.2 hb
      refine wpE_skip (by kernel_rfl) ?_
      change WpE _ _ c_towpathlaw01_bare_13 _ _ _
      refine wpE_seq (x := c_towpathlaw01_bare_14) (y := c_towpathlaw01_bare_16) (by kernel_rfl) ?_
      refine wpE_region (id := 3) (ops := r_towpathlaw01_bare_14) (by kernel_rfl) ?_
      refine reg_run [.plain, .plain, .plain, .plain, .plain, .pick, .plain] 7 [(8, [], Value.bool (ok && (got == x)))] (by kernel_rfl) (by kernel_rfl) ?_
      refine reg_end [(8, Value.bool (ok && (got == x)))] (by kernel_rfl) (by kernel_rfl) ?_
      change WpE _ _ c_towpathlaw01_bare_16 _ _ _
      refine wpE_ret (by kernel_rfl) ?_
      repeat (first | refine seqQ_ret ?_ | refine blockQ_ret ?_ | refine loopQ_ret ?_ | refine cutQ_ret ?_)
      exact retS (rs := [(Go.ResultVar.tmp 8)]) (v := Value.bool (ok && (got == x))) (by kernel_rfl) (⟨by kernel_rfl, trivial⟩) ⟨(ok && (got == x)), rfl, h⟩
  · rintro e w' ⟨v, rfl, r0, rfl, h⟩; exact ⟨r0, rfl, h⟩

/-! ### towpath/towpathlaw01.Beyond (function 37) -/
noncomputable def c_towpathlaw01_Beyond_0 : Code := (Try.f37.body).getD Code.skip
noncomputable def c_towpathlaw01_Beyond_1 : Code := Code.l c_towpathlaw01_Beyond_0
noncomputable def r_towpathlaw01_Beyond_1 : Array Oper := Code.ops c_towpathlaw01_Beyond_1
noncomputable def c_towpathlaw01_Beyond_3 : Code := Code.r c_towpathlaw01_Beyond_0
noncomputable def c_towpathlaw01_Beyond_4 : Code := Code.l c_towpathlaw01_Beyond_3
noncomputable def r_towpathlaw01_Beyond_4 : Array Oper := Code.ops c_towpathlaw01_Beyond_4
noncomputable def c_towpathlaw01_Beyond_6 : Code := Code.r c_towpathlaw01_Beyond_3
noncomputable def c_towpathlaw01_Beyond_7 : Code := Code.l c_towpathlaw01_Beyond_6
noncomputable def c_towpathlaw01_Beyond_8 : Code := Code.l c_towpathlaw01_Beyond_7
noncomputable def r_towpathlaw01_Beyond_8 : Array Oper := Code.ops c_towpathlaw01_Beyond_8
noncomputable def c_towpathlaw01_Beyond_10 : Code := Code.r c_towpathlaw01_Beyond_7
noncomputable def c_towpathlaw01_Beyond_11 : Code := Code.l c_towpathlaw01_Beyond_10
noncomputable def c_towpathlaw01_Beyond_12 : Code := Code.l c_towpathlaw01_Beyond_11
noncomputable def c_towpathlaw01_Beyond_13 : Code := Code.l c_towpathlaw01_Beyond_12
noncomputable def c_towpathlaw01_Beyond_14 : Code := Code.l c_towpathlaw01_Beyond_13
noncomputable def r_towpathlaw01_Beyond_14 : Array Oper := Code.ops c_towpathlaw01_Beyond_14
noncomputable def c_towpathlaw01_Beyond_16 : Code := Code.r c_towpathlaw01_Beyond_13
noncomputable def c_towpathlaw01_Beyond_17 : Code := Code.l c_towpathlaw01_Beyond_16
noncomputable def c_towpathlaw01_Beyond_18 : Code := Code.r c_towpathlaw01_Beyond_16
noncomputable def c_towpathlaw01_Beyond_19 : Code := Code.r c_towpathlaw01_Beyond_12
noncomputable def c_towpathlaw01_Beyond_20 : Code := Code.l c_towpathlaw01_Beyond_19
noncomputable def c_towpathlaw01_Beyond_21 : Code := Code.l c_towpathlaw01_Beyond_20
noncomputable def c_towpathlaw01_Beyond_22 : Code := Code.l c_towpathlaw01_Beyond_21
noncomputable def r_towpathlaw01_Beyond_22 : Array Oper := Code.ops c_towpathlaw01_Beyond_22
noncomputable def c_towpathlaw01_Beyond_24 : Code := Code.r c_towpathlaw01_Beyond_21
noncomputable def c_towpathlaw01_Beyond_25 : Code := Code.l c_towpathlaw01_Beyond_24
noncomputable def r_towpathlaw01_Beyond_25 : Array Oper := Code.ops c_towpathlaw01_Beyond_25
noncomputable def c_towpathlaw01_Beyond_27 : Code := Code.r c_towpathlaw01_Beyond_24
noncomputable def c_towpathlaw01_Beyond_28 : Code := Code.l c_towpathlaw01_Beyond_27
noncomputable def c_towpathlaw01_Beyond_29 : Code := Code.l c_towpathlaw01_Beyond_28
noncomputable def r_towpathlaw01_Beyond_29 : Array Oper := Code.ops c_towpathlaw01_Beyond_29
noncomputable def c_towpathlaw01_Beyond_31 : Code := Code.r c_towpathlaw01_Beyond_28
noncomputable def c_towpathlaw01_Beyond_32 : Code := Code.r c_towpathlaw01_Beyond_27
noncomputable def c_towpathlaw01_Beyond_33 : Code := Code.r c_towpathlaw01_Beyond_19
noncomputable def r_towpathlaw01_Beyond_33 : Array Oper := Code.ops c_towpathlaw01_Beyond_33
noncomputable def c_towpathlaw01_Beyond_35 : Code := Code.r c_towpathlaw01_Beyond_6
noncomputable def c_towpathlaw01_Beyond_36 : Code := Code.l c_towpathlaw01_Beyond_35
noncomputable def r_towpathlaw01_Beyond_36 : Array Oper := Code.ops c_towpathlaw01_Beyond_36
noncomputable def c_towpathlaw01_Beyond_38 : Code := Code.r c_towpathlaw01_Beyond_35

set_option maxRecDepth 100000 in
theorem S_towpathlaw01_Beyond {l_ : Slc} {w : World} {R : Bool → World → Prop} (h : F_towpathlaw01_Beyond l_ R w) : C_towpathlaw01_Beyond l_ w R := by
  unfold F_towpathlaw01_Beyond at h
  unfold C_towpathlaw01_Beyond
  refine Calls.mono (calls_of_wpE (args := [Value.slice l_.ptr l_.len l_.cap]) (R := fun v w' => ∃ (r0 : Bool), v = Value.bool r0 ∧ R r0 w') Try.func37 (c := c_towpathlaw01_Beyond_0) (by kernel_rfl) 19 (by kernel_rfl) (by kernel_rfl) [(0, Value.slice l_.ptr l_.len l_.cap)] (by kernel_rfl) ?_) ?_
  · refine wpE_seq (x := c_towpathlaw01_Beyond_1) (y := c_towpathlaw01_Beyond_3) (by kernel_rfl) ?_
    refine wpE_region (id := 0) (ops := r_towpathlaw01_Beyond_1) (by kernel_rfl) ?_
    refine reg_run [.plain] 1 [(0, [], Value.slice l_.ptr l_.len l_.cap)] (by kernel_rfl) (by kernel_rfl) ?_
    refine reg_end [(0, Value.slice l_.ptr l_.len l_.cap)] (by kernel_rfl) (by kernel_rfl) ?_
    change WpE _ _ c_towpathlaw01_Beyond_3 _ _ _
    refine wpE_seq (x := c_towpathlaw01_Beyond_4) (y := c_towpathlaw01_Beyond_6) (by kernel_rfl) ?_
    refine wpE_region (id := 1) (ops := r_towpathlaw01_Beyond_4) (by kernel_rfl) ?_
    refine reg_run [.plain] 1 [(0, [], Value.slice l_.ptr l_.len l_.cap), (3, [], Value.int .i64 0)] (by kernel_rfl) (by kernel_rfl) ?_
    refine reg_end [(0, Value.slice l_.ptr l_.len l_.cap), (3, Value.int .i64 0)] (by kernel_rfl) (by kernel_rfl) ?_
    change WpE _ _ c_towpathlaw01_Beyond_6 _ _ _
    refine wpE_seq (x := c_towpathlaw01_Beyond_7) (y := c_towpathlaw01_Beyond_35) (by kernel_rfl) ?_
    refine wpE_seq (x := c_towpathlaw01_Beyond_8) (y := c_towpathlaw01_Beyond_10) (by kernel_rfl) ?_
    refine wpE_region (id := 2) (ops := r_towpathlaw01_Beyond_8) (by kernel_rfl) ?_
    refine reg_run [.plain] 1 [(0, [], Value.slice l_.ptr l_.len l_.cap), (3, [], Value.int .i64 0), (4, [], Value.int .i64 0)] (by kernel_rfl) (by kernel_rfl) ?_
    refine reg_end [(0, Value.slice l_.ptr l_.len l_.cap), (3, Value.int .i64 0), (4, Value.int .i64 0)] (by kernel_rfl) (by kernel_rfl) ?_
    change WpE _ _ c_towpathlaw01_Beyond_10 _ _ _
    refine wpE_block (id := 0) (x := c_towpathlaw01_Beyond_11) (by kernel_rfl) ?_
    obtain ⟨I, μ, h0, hr⟩ := h
    refine wpE_loop (x := c_towpathlaw01_Beyond_12) (by kernel_rfl) (fun m l w => ∃ (n_ : Int) (i : Int), l = [(0, Value.slice l_.ptr l_.len l_.cap), (3, Value.int .i64 n_), (4, Value.int .i64 i)] ∧ I n_ i w ∧ μ n_ i w = m) (l' := [(0, Value.slice l_.ptr l_.len l_.cap), (3, Value.int .i64 0), (4, Value.int .i64 0)]) (Sub.mk (by kernel_rfl)) ⟨0, 0, rfl, h0, rfl⟩ ?_
    rintro _ _ w1 ⟨n_, i, rfl, hI, rfl⟩
    obtain ⟨again_, again__h, h⟩ : ∃ again_ : Int → Int → World → Prop, (∀ n_' i' w', again_ n_' i' w' → I n_' i' w' ∧ μ n_' i' w' < μ n_ i w1) ∧ F_towpathlaw01_Beyond_L0 l_ R again_ n_ i w1 := ⟨_, fun _ _ _ h => h, hr n_ i w1 hI⟩
    clear h0 hI
    unfold F_towpathlaw01_Beyond_L0 at h
    refine wpE_seq (x := c_towpathlaw01_Beyond_13) (y := c_towpathlaw01_Beyond_19) (by kernel_rfl) ?_
    refine wpE_seq (x := c_towpathlaw01_Beyond_14) (y := c_towpathlaw01_Beyond_16) (by kernel_rfl) ?_
    refine wpE_region (id := 3) (ops := r_towpathlaw01_Beyond_14) (by kernel_rfl) ?_
    refine reg_run [.plain, .plain, .plain, .plain] 4 [(0, [], Value.slice l_.ptr l_.len l_.cap), (3, [], Value.int .i64 n_), (4, [], Value.int .i64 i), (8, [], Value.bool (decide (i < ((l_.len : Nat) : Int))))] (by kernel_rfl) (by kernel_rfl) ?_
    refine reg_end [(0, Value.slice l_.ptr l_.len l_.cap), (3, Value.int .i64 n_), (4, Value.int .i64 i), (8, Value.bool (decide (i < ((l_.len : Nat) : Int))))] (by kernel_rfl) (by kernel_rfl) ?_
    change WpE _ _ c_towpathlaw01_Beyond_16 _ _ _
    refine wpE_cond (o := (Operand.tmp 8)) (b := (decide (i < ((l_.len : Nat) : Int)))) (x := c_towpathlaw01_Beyond_17) (y := c_towpathlaw01_Beyond_18) (by kernel_rfl) (by kernel_rfl) (fun hb => ?_) (fun hb => ?_)
    · replace h := h.1 hb
      refine wpE_skip (by kernel_rfl) ?_
      change WpE _ _ c_towpathlaw01_Beyond_19 _ _ _
      refine wpE_seq (x := c_towpathlaw01_Beyond_20) (y := c_towpathlaw01_Beyond_33) (by kernel_rfl) ?_
      refine wpE_block (id := 1) (x := c_towpathlaw01_Beyond_21) (by kernel_rfl) ?_
      refine wpE_seq (x := c_towpathlaw01_Beyond_22) (y := c_towpathlaw01_Beyond_24) (by kernel_rfl) ?_
      refine wpE_region (id := 5) (ops := r_towpathlaw01_Beyond_22) (by kernel_rfl) ?_
      refine reg_run [.plain, .plain, .plain] 3 [(0, [], Value.slice l_.ptr l_.len l_.cap), (3, [], Value.int .i64 n_), (4, [], Value.int .i64 i), (11, [], Value.int .i64 n_), (12, [], Value.slice l_.ptr l_.len l_.cap), (13, [], Value.int .i64 i)] (by kernel_rfl) (by kernel_rfl) ?_
      obtain ⟨hp_7, h⟩ := h
      refine reg_conv [(0, [], Value.slice l_.ptr l_.len l_.cap), (3, [], Value.int .i64 n_), (4, [], Value.int .i64 i), (11, [], Value.int .i64 n_), (12, [], Value.slice (some ⟨(pblk l_.ptr), (poff l_.ptr), none⟩) l_.len l_.cap), (13, [], Value.int .i64 i)] (congrArg (fun pp => ([(0, [], Value.slice l_.ptr l_.len l_.cap), (3, [], Value.int .i64 n_), (4, [], Value.int .i64 i), (11, [], Value.int .i64 n_), (12, [], Value.slice pp l_.len l_.cap), (13, [], Value.int .i64 i)] : GEnv)) hp_7) ?_
      obtain ⟨h0, h1, h⟩ := h
      refine reg_indexS1 (t := 88) (e := 3) (x := (Go.Operand.tmp 12)) (ix := (Go.Operand.tmp 13)) (b := (pblk l_.ptr)) (o := (poff l_.ptr)) (l := l_.len) (c := l_.cap) (k := .i64) (j := i) (ty := 0) (dst := some 14) (by kernel_rfl) (by kernel_rfl) (by kernel_rfl) (by kernel_rfl) (by kernel_rfl) h0 h1 ?_
      refine reg_run [] 4 [(0, [], Value.slice l_.ptr l_.len l_.cap), (3, [], Value.int .i64 n_), (4, [], Value.int .i64 i), (11, [], Value.int .i64 n_), (14, [], Value.pointer (some ⟨(pblk l_.ptr), (poff l_.ptr) + i.toNat, none⟩))] (by kernel_rfl) (by kernel_rfl) ?_
      obtain ⟨v15, hc, h⟩ := h
      refine reg_load1 (t := 3) (a := (Go.Operand.tmp 14)) (b := (pblk l_.ptr)) (o := ((poff l_.ptr) + i.toNat)) (ty := 3) (dst := some 15) (by kernel_rfl) (by kernel_rfl) (by kernel_rfl) hc ?_
      refine reg_run [.plain, .plain] 7 [(0, [], Value.slice l_.ptr l_.len l_.cap), (3, [], Value.int .i64 (IntKind.i64.wrap (n_ + v15))), (4, [], Value.int .i64 i)] (by kernel_rfl) (by kernel_rfl) ?_
      refine reg_end [(0, Value.slice l_.ptr l_.len l_.cap), (3, Value.int .i64 (IntKind.i64.wrap (n_ + v15))), (4, Value.int .i64 i)] (by kernel_rfl) (by kernel_rfl) ?_
      change WpE _ _ c_towpathlaw01_Beyond_24 _ _ _
      refine wpE_seq (x := c_towpathlaw01_Beyond_25) (y := c_towpathlaw01_Beyond_27) (by kernel_rfl) ?_
      refine wpE_region (id := 6) (ops := r_towpathlaw01_Beyond_25) (by kernel_rfl) ?_
      refine reg_run [.plain, .plain] 2 [(0, [], Value.slice l_.ptr l_.len l_.cap), (3, [], Value.int .i64 (IntKind.i64.wrap (n_ + v15))), (4, [], Value.int .i64 i), (18, [], Value.bool (decide ((IntKind.i64.wrap (n_ + v15)) > 1048576)))] (by kernel_rfl) (by kernel_rfl) ?_
      refine reg_end [(0, Value.slice l_.ptr l_.len l_.cap), (3, Value.int .i64 (IntKind.i64.wrap (n_ + v15))), (4, Value.int .i64 i), (18, Value.bool (decide ((IntKind.i64.wrap (n_ + v15)) > 1048576)))] (by kernel_rfl) (by kernel_rfl) ?_
      change WpE _ _ c_towpathlaw01_Beyond_27 _ _ _
      refine wpE_cond (o := (Operand.tmp 18)) (b := (decide ((IntKind.i64.wrap (n_ + v15)) > 1048576))) (x := c_towpathlaw01_Beyond_28) (y := c_towpathlaw01_Beyond_32) (by kernel_rfl) (by kernel_rfl) (fun hb => ?_) (fun hb => ?_)
      · replace h := h.1 hb
        refine wpE_seq (x := c_towpathlaw01_Beyond_29) (y := c_towpathlaw01_Beyond_31) (by kernel_rfl) ?_
        refine wpE_region (id := 7) (ops := r_towpathlaw01_Beyond_29) (by kernel_rfl) ?_
        refine reg_run [.plain] 1 [(2, [], Value.bool true)] (by kernel_rfl) (by kernel_rfl) ?_
        refine reg_end [(2, Value.bool true)] (by kernel_rfl) (by kernel_rfl) ?_
        change WpE _ _ c_towpathlaw01_Beyond_31 _ _ _
        refine wpE_ret (by kernel_rfl) ?_
        repeat (first | refine seqQ_ret ?_ | refine blockQ_ret ?_ | refine loopQ_ret ?_ | refine cutQ_ret ?_)
        exact retS (rs := [(Go.ResultVar.tmp 2)]) (v := Value.bool true) (by kernel_rfl) (⟨by kernel_rfl, trivial⟩) ⟨true, rfl, h⟩
      · replace h := h.2 hb
        refine wpE_skip (by kernel_rfl) ?_
        change WpE _ _ c_towpathlaw01_Beyond_33 _ _ _
        refine wpE_region (id := 4) (ops := r_towpathlaw01_Beyond_33) (by kernel_rfl) ?_
        refine reg_run [.plain, .plain, .plain] 3 [(0, [], Value.slice l_.ptr l_.len l_.cap), (3, [], Value.int .i64 (IntKind.i64.wrap (n_ + v15))), (4, [], Value.int .i64 (IntKind.i64.wrap (i + 1)))] (by kernel_rfl) (by kernel_rfl) ?_
        refine reg_end [(0, Value.slice l_.ptr l_.len l_.cap), (3, Value.int .i64 (IntKind.i64.wrap (n_ + v15))), (4, Value.int .i64 (IntKind.i64.wrap (i + 1)))] (by kernel_rfl) (by kernel_rfl) ?_
        have hb_ := again__h _ _ _ h
        exact ⟨_, hb_.2, [(0, Value.slice l_.ptr l_.len l_.cap), (3, Value.int .i64 (IntKind.i64.wrap (n_ + v15))), (4, Value.int .i64 (IntKind.i64.wrap (i + 1)))], Sub.mk (by kernel_rfl), (IntKind.i64.wrap (n_ + v15)), (IntKind.i64.wrap (i + 1)), rfl, hb_.1, rfl⟩
    · replace h := h.2 hb
      refine wpE_exit (id := 0) (by kernel_rfl) ?_
      change WpE _ _ c_towpathlaw01_Beyond_35 _ _ _
      refine wpE_seq (x := c_towpathlaw01_Beyond_36) (y := c_towpathlaw01_Beyond_38) (by kernel_rfl) ?_
      refine wpE_region (id := 8) (ops := r_towpathlaw01_Beyond_36) (by kernel_rfl) ?_
      refine reg_run [.plain] 1 [(2, [], Value.bool false)] (by kernel_rfl) (by kernel_rfl) ?_
      refine reg_end [(2, Value.bool false)] (by kernel_rfl) (by kernel_rfl) ?_
      change WpE _ _ c_towpathlaw01_Beyond_38 _ _ _
      refine wpE_ret (by kernel_rfl) ?_
      repeat (first | refine seqQ_ret ?_ | refine blockQ_ret ?_ | refine loopQ_ret ?_ | refine cutQ_ret ?_)
      exact retS (rs := [(Go.ResultVar.tmp 2)]) (v := Value.bool false) (by kernel_rfl) (⟨by kernel_rfl, trivial⟩) ⟨false, rfl, h⟩
  · rintro e w' ⟨v, rfl, r0, rfl, h⟩; exact ⟨r0, rfl, h⟩

/-! ### towpath/sum.Hash (function 38) -/
noncomputable def c_sum_Hash_0 : Code := (Try.f38.body).getD Code.skip
noncomputable def c_sum_Hash_1 : Code := Code.l c_sum_Hash_0
noncomputable def r_sum_Hash_1 : Array Oper := Code.ops c_sum_Hash_1
noncomputable def c_sum_Hash_3 : Code := Code.r c_sum_Hash_0
noncomputable def c_sum_Hash_4 : Code := Code.l c_sum_Hash_3
noncomputable def r_sum_Hash_4 : Array Oper := Code.ops c_sum_Hash_4
noncomputable def c_sum_Hash_6 : Code := Code.r c_sum_Hash_3
noncomputable def c_sum_Hash_7 : Code := Code.l c_sum_Hash_6
noncomputable def c_sum_Hash_8 : Code := Code.l c_sum_Hash_7
noncomputable def r_sum_Hash_8 : Array Oper := Code.ops c_sum_Hash_8
noncomputable def c_sum_Hash_10 : Code := Code.r c_sum_Hash_7
noncomputable def c_sum_Hash_11 : Code := Code.l c_sum_Hash_10
noncomputable def c_sum_Hash_12 : Code := Code.l c_sum_Hash_11
noncomputable def c_sum_Hash_13 : Code := Code.l c_sum_Hash_12
noncomputable def r_sum_Hash_13 : Array Oper := Code.ops c_sum_Hash_13
noncomputable def c_sum_Hash_15 : Code := Code.r c_sum_Hash_12
noncomputable def c_sum_Hash_16 : Code := Code.l c_sum_Hash_15
noncomputable def c_sum_Hash_17 : Code := Code.l c_sum_Hash_16
noncomputable def c_sum_Hash_18 : Code := Code.r c_sum_Hash_16
noncomputable def c_sum_Hash_19 : Code := Code.r c_sum_Hash_15
noncomputable def c_sum_Hash_20 : Code := Code.l c_sum_Hash_19
noncomputable def c_sum_Hash_21 : Code := Code.l c_sum_Hash_20
noncomputable def c_sum_Hash_22 : Code := Code.l c_sum_Hash_21
noncomputable def r_sum_Hash_22 : Array Oper := Code.ops c_sum_Hash_22
noncomputable def c_sum_Hash_24 : Code := Code.r c_sum_Hash_21
noncomputable def c_sum_Hash_25 : Code := Code.l c_sum_Hash_24
noncomputable def r_sum_Hash_25 : Array Oper := Code.ops c_sum_Hash_25
noncomputable def c_sum_Hash_27 : Code := Code.r c_sum_Hash_24
noncomputable def r_sum_Hash_27 : Array Oper := Code.ops c_sum_Hash_27
noncomputable def c_sum_Hash_29 : Code := Code.r c_sum_Hash_19
noncomputable def r_sum_Hash_29 : Array Oper := Code.ops c_sum_Hash_29
noncomputable def c_sum_Hash_31 : Code := Code.r c_sum_Hash_6
noncomputable def c_sum_Hash_32 : Code := Code.l c_sum_Hash_31
noncomputable def r_sum_Hash_32 : Array Oper := Code.ops c_sum_Hash_32
noncomputable def c_sum_Hash_34 : Code := Code.r c_sum_Hash_31

set_option maxRecDepth 100000 in
theorem S_sum_Hash {key : ByteArray} {w : World} {R : Int → World → Prop} (h : F_sum_Hash key R w) : C_sum_Hash key w R := by
  unfold F_sum_Hash at h
  unfold C_sum_Hash
  refine Calls.mono (calls_of_wpE (args := [Value.string key]) (R := fun v w' => ∃ (r0 : Int), v = Value.int .u32 r0 ∧ R r0 w') Try.func38 (c := c_sum_Hash_0) (by kernel_rfl) 20 (by kernel_rfl) (by kernel_rfl) [(0, Value.string key)] (by kernel_rfl) ?_) ?_
  · refine wpE_seq (x := c_sum_Hash_1) (y := c_sum_Hash_3) (by kernel_rfl) ?_
    refine wpE_region (id := 0) (ops := r_sum_Hash_1) (by kernel_rfl) ?_
    refine reg_run [.plain] 1 [(0, [], Value.string key)] (by kernel_rfl) (by kernel_rfl) ?_
    refine reg_end [(0, Value.string key)] (by kernel_rfl) (by kernel_rfl) ?_
    change WpE _ _ c_sum_Hash_3 _ _ _
    refine wpE_seq (x := c_sum_Hash_4) (y := c_sum_Hash_6) (by kernel_rfl) ?_
    refine wpE_region (id := 1) (ops := r_sum_Hash_4) (by kernel_rfl) ?_
    refine reg_run [.plain] 1 [(0, [], Value.string key), (3, [], Value.int .u32 2166136261)] (by kernel_rfl) (by kernel_rfl) ?_
    refine reg_end [(0, Value.string key), (3, Value.int .u32 2166136261)] (by kernel_rfl) (by kernel_rfl) ?_
    change WpE _ _ c_sum_Hash_6 _ _ _
    refine wpE_seq (x := c_sum_Hash_7) (y := c_sum_Hash_31) (by kernel_rfl) ?_
    refine wpE_seq (x := c_sum_Hash_8) (y := c_sum_Hash_10) (by kernel_rfl) ?_
    refine wpE_region (id := 2) (ops := r_sum_Hash_8) (by kernel_rfl) ?_
    refine reg_run [.plain, .plain, .plain] 3 [(0, [], Value.string key), (3, [], Value.int .u32 2166136261), (6, [], Value.int .i64 ((key.size : Nat) : Int)), (7, [], Value.int .i64 0)] (by kernel_rfl) (by kernel_rfl) ?_
    refine reg_end [(0, Value.string key), (3, Value.int .u32 2166136261), (6, Value.int .i64 ((key.size : Nat) : Int)), (7, Value.int .i64 0)] (by kernel_rfl) (by kernel_rfl) ?_
    change WpE _ _ c_sum_Hash_10 _ _ _
    refine wpE_block (id := 0) (x := c_sum_Hash_11) (by kernel_rfl) ?_
    obtain ⟨I, μ, h0, hr⟩ := h
    refine wpE_loop (x := c_sum_Hash_12) (by kernel_rfl) (fun m l w => ∃ (h_ : Int) (t7 : Int), l = [(0, Value.string key), (3, Value.int .u32 h_), (6, Value.int .i64 ((key.size : Nat) : Int)), (7, Value.int .i64 t7)] ∧ I h_ t7 w ∧ μ h_ t7 w = m) (l' := [(0, Value.string key), (3, Value.int .u32 2166136261), (6, Value.int .i64 ((key.size : Nat) : Int)), (7, Value.int .i64 0)]) (Sub.mk (by kernel_rfl)) ⟨2166136261, 0, rfl, h0, rfl⟩ ?_
    rintro _ _ w1 ⟨h_, t7, rfl, hI, rfl⟩
    obtain ⟨again_, again__h, h⟩ : ∃ again_ : Int → Int → World → Prop, (∀ h_' t7' w', again_ h_' t7' w' → I h_' t7' w' ∧ μ h_' t7' w' < μ h_ t7 w1) ∧ F_sum_Hash_L0 key R again_ h_ t7 w1 := ⟨_, fun _ _ _ h => h, hr h_ t7 w1 hI⟩
    clear h0 hI
    unfold F_sum_Hash_L0 at h
    refine wpE_seq (x := c_sum_Hash_13) (y := c_sum_Hash_15) (by kernel_rfl) ?_
    refine wpE_region (id := 3) (ops := r_sum_Hash_13) (by kernel_rfl) ?_
    refine reg_run [.plain] 1 [(0, [], Value.string key), (3, [], Value.int .u32 h_), (6, [], Value.int .i64 ((key.size : Nat) : Int)), (7, [], Value.int .i64 t7), (8, [], Value.bool (decide (t7 < ((key.size : Nat) : Int))))] (by kernel_rfl) (by kernel_rfl) ?_
    refine reg_end [(0, Value.string key), (3, Value.int .u32 h_), (6, Value.int .i64 ((key.size : Nat) : Int)), (7, Value.int .i64 t7), (8, Value.bool (decide (t7 < ((key.size : Nat) : Int))))] (by kernel_rfl) (by kernel_rfl) ?_
    change WpE _ _ c_sum_Hash_15 _ _ _
    refine wpE_seq (x := c_sum_Hash_16) (y := c_sum_Hash_19) (by kernel_rfl) ?_
    refine wpE_cond (o := (Operand.tmp 8)) (b := (decide (t7 < ((key.size : Nat) : Int)))) (x := c_sum_Hash_17) (y := c_sum_Hash_18) (by kernel_rfl) (by kernel_rfl) (fun hb => ?_) (fun hb => ?_)
    · replace h := h.1 hb
      refine wpE_skip (by kernel_rfl) ?_
      change WpE _ _ c_sum_Hash_19 _ _ _
      refine wpE_seq (x := c_sum_Hash_20) (y := c_sum_Hash_29) (by kernel_rfl) ?_
      refine wpE_block (id := 1) (x := c_sum_Hash_21) (by kernel_rfl) ?_
      refine wpE_seq (x := c_sum_Hash_22) (y := c_sum_Hash_24) (by kernel_rfl) ?_
      refine wpE_region (id := 4) (ops := r_sum_Hash_22) (by kernel_rfl) ?_
      refine reg_run [.plain, .plain] 2 [(0, [], Value.string key), (3, [], Value.int .u32 h_), (4, [], Value.int .i64 t7), (6, [], Value.int .i64 ((key.size : Nat) : Int)), (7, [], Value.int .i64 t7)] (by kernel_rfl) (by kernel_rfl) ?_
      refine reg_end [(0, Value.string key), (3, Value.int .u32 h_), (4, Value.int .i64 t7), (6, Value.int .i64 ((key.size : Nat) : Int)), (7, Value.int .i64 t7)] (by kernel_rfl) (by kernel_rfl) ?_
      change WpE _ _ c_sum_Hash_24 _ _ _
      refine wpE_seq (x := c_sum_Hash_25) (y := c_sum_Hash_27) (by kernel_rfl) ?_
      refine wpE_region (id := 5) (ops := r_sum_Hash_25) (by kernel_rfl) ?_
      refine reg_run [.plain, .plain, .plain] 3 [(0, [], Value.string key), (3, [], Value.int .u32 h_), (6, [], Value.int .i64 ((key.size : Nat) : Int)), (7, [], Value.int .i64 t7), (10, [], Value.int .u32 h_), (11, [], Value.string key), (12, [], Value.int .i64 t7)] (by kernel_rfl) (by kernel_rfl) ?_
      obtain ⟨h0, h1, h⟩ := h
      refine reg_indexStr (t := 9) (x := (Go.Operand.tmp 11)) (ix := (Go.Operand.tmp 12)) (s := key) (k := .i64) (j := t7) (ty := 5) (dst := some 13) (by kernel_rfl) (by kernel_rfl) (by kernel_rfl) (by kernel_rfl) h0 h1 ?_
      refine reg_run [.plain, .plain, .plain] 7 [(0, [], Value.string key), (3, [], Value.int .u32 (bxor .u32 h_ (IntKind.u32.wrap (byteAt key t7)))), (6, [], Value.int .i64 ((key.size : Nat) : Int)), (7, [], Value.int .i64 t7)] (by kernel_rfl) (by kernel_rfl) ?_
      refine reg_end [(0, Value.string key), (3, Value.int .u32 (bxor .u32 h_ (IntKind.u32.wrap (byteAt key t7)))), (6, Value.int .i64 ((key.size : Nat) : Int)), (7, Value.int .i64 t7)] (by kernel_rfl) (by kernel_rfl) ?_
      change WpE _ _ c_sum_Hash_27 _ _ _
      refine wpE_region (id := 6) (ops := r_sum_Hash_27) (by kernel_rfl) ?_
      refine reg_run [.plain, .plain, .plain] 3 [(0, [], Value.string key), (3, [], Value.int .u32 (IntKind.u32.wrap ((bxor .u32 h_ (IntKind.u32.wrap (byteAt key t7))) * 16777619))), (6, [], Value.int .i64 ((key.size : Nat) : Int)), (7, [], Value.int .i64 t7)] (by kernel_rfl) (by kernel_rfl) ?_
      refine reg_end [(0, Value.string key), (3, Value.int .u32 (IntKind.u32.wrap ((bxor .u32 h_ (IntKind.u32.wrap (byteAt key t7))) * 16777619))), (6, Value.int .i64 ((key.size : Nat) : Int)), (7, Value.int .i64 t7)] (by kernel_rfl) (by kernel_rfl) ?_
      change WpE _ _ c_sum_Hash_29 _ _ _
      refine wpE_region (id := 7) (ops := r_sum_Hash_29) (by kernel_rfl) ?_
      refine reg_run [.plain, .plain] 2 [(0, [], Value.string key), (3, [], Value.int .u32 (IntKind.u32.wrap ((bxor .u32 h_ (IntKind.u32.wrap (byteAt key t7))) * 16777619))), (6, [], Value.int .i64 ((key.size : Nat) : Int)), (7, [], Value.int .i64 (IntKind.i64.wrap (t7 + 1)))] (by kernel_rfl) (by kernel_rfl) ?_
      refine reg_end [(0, Value.string key), (3, Value.int .u32 (IntKind.u32.wrap ((bxor .u32 h_ (IntKind.u32.wrap (byteAt key t7))) * 16777619))), (6, Value.int .i64 ((key.size : Nat) : Int)), (7, Value.int .i64 (IntKind.i64.wrap (t7 + 1)))] (by kernel_rfl) (by kernel_rfl) ?_
      have hb_ := again__h _ _ _ h
      exact ⟨_, hb_.2, [(0, Value.string key), (3, Value.int .u32 (IntKind.u32.wrap ((bxor .u32 h_ (IntKind.u32.wrap (byteAt key t7))) * 16777619))), (6, Value.int .i64 ((key.size : Nat) : Int)), (7, Value.int .i64 (IntKind.i64.wrap (t7 + 1)))], Sub.mk (by kernel_rfl), (IntKind.u32.wrap ((bxor .u32 h_ (IntKind.u32.wrap (byteAt key t7))) * 16777619)), (IntKind.i64.wrap (t7 + 1)), rfl, hb_.1, rfl⟩
    · replace h := h.2 hb
      refine wpE_exit (id := 0) (by kernel_rfl) ?_
      change WpE _ _ c_sum_Hash_31 _ _ _
      refine wpE_seq (x := c_sum_Hash_32) (y := c_sum_Hash_34) (by kernel_rfl) ?_
      refine wpE_region (id := 8) (ops := r_sum_Hash_32) (by kernel_rfl) ?_
      refine reg_run [.plain, .plain] 2 [(2, [], Value.int .u32 h_)] (by kernel_rfl) (by kernel_rfl) ?_
      refine reg_end [(2, Value.int .u32 h_)] (by kernel_rfl) (by kernel_rfl) ?_
      change WpE _ _ c_sum_Hash_34 _ _ _
      refine wpE_ret (by kernel_rfl) ?_
      repeat (first | refine seqQ_ret ?_ | refine blockQ_ret ?_ | refine loopQ_ret ?_ | refine cutQ_ret ?_)
      exact retS (rs := [(Go.ResultVar.tmp 2)]) (v := Value.int .u32 h_) (by kernel_rfl) (⟨by kernel_rfl, trivial⟩) ⟨h_, rfl, h⟩
  · rintro e w' ⟨v, rfl, r0, rfl, h⟩; exact ⟨r0, rfl, h⟩

/-! ### towpath/towpathref03.Hash (function 39) -/
noncomputable def c_towpathref03_Hash_0 : Code := (Try.f39.body).getD Code.skip
noncomputable def c_towpathref03_Hash_1 : Code := Code.l c_towpathref03_Hash_0
noncomputable def r_towpathref03_Hash_1 : Array Oper := Code.ops c_towpathref03_Hash_1
noncomputable def c_towpathref03_Hash_3 : Code := Code.r c_towpathref03_Hash_0
noncomputable def c_towpathref03_Hash_4 : Code := Code.l c_towpathref03_Hash_3
noncomputable def r_towpathref03_Hash_4 : Array Oper := Code.ops c_towpathref03_Hash_4
noncomputable def c_towpathref03_Hash_6 : Code := Code.r c_towpathref03_Hash_3
noncomputable def c_towpathref03_Hash_7 : Code := Code.l c_towpathref03_Hash_6
noncomputable def c_towpathref03_Hash_8 : Code := Code.l c_towpathref03_Hash_7
noncomputable def r_towpathref03_Hash_8 : Array Oper := Code.ops c_towpathref03_Hash_8
noncomputable def c_towpathref03_Hash_10 : Code := Code.r c_towpathref03_Hash_7
noncomputable def c_towpathref03_Hash_11 : Code := Code.l c_towpathref03_Hash_10
noncomputable def c_towpathref03_Hash_12 : Code := Code.l c_towpathref03_Hash_11
noncomputable def c_towpathref03_Hash_13 : Code := Code.l c_towpathref03_Hash_12
noncomputable def c_towpathref03_Hash_14 : Code := Code.l c_towpathref03_Hash_13
noncomputable def r_towpathref03_Hash_14 : Array Oper := Code.ops c_towpathref03_Hash_14
noncomputable def c_towpathref03_Hash_16 : Code := Code.r c_towpathref03_Hash_13
noncomputable def c_towpathref03_Hash_17 : Code := Code.l c_towpathref03_Hash_16
noncomputable def c_towpathref03_Hash_18 : Code := Code.r c_towpathref03_Hash_16
noncomputable def c_towpathref03_Hash_19 : Code := Code.r c_towpathref03_Hash_12
noncomputable def c_towpathref03_Hash_20 : Code := Code.l c_towpathref03_Hash_19
noncomputable def c_towpathref03_Hash_21 : Code := Code.l c_towpathref03_Hash_20
noncomputable def r_towpathref03_Hash_21 : Array Oper := Code.ops c_towpathref03_Hash_21
noncomputable def c_towpathref03_Hash_23 : Code := Code.r c_towpathref03_Hash_19
noncomputable def r_towpathref03_Hash_23 : Array Oper := Code.ops c_towpathref03_Hash_23
noncomputable def c_towpathref03_Hash_25 : Code := Code.r c_towpathref03_Hash_6
noncomputable def c_towpathref03_Hash_26 : Code := Code.l c_towpathref03_Hash_25
noncomputable def r_towpathref03_Hash_26 : Array Oper := Code.ops c_towpathref03_Hash_26
noncomputable def c_towpathref03_Hash_28 : Code := Code.r c_towpathref03_Hash_25

set_option maxRecDepth 100000 in
theorem S_towpathref03_Hash {key : ByteArray} {w : World} {R : Int → World → Prop} (h : F_towpathref03_Hash key R w) : C_towpathref03_Hash key w R := by
  unfold F_towpathref03_Hash at h
  unfold C_towpathref03_Hash
  refine Calls.mono (calls_of_wpE (args := [Value.string key]) (R := fun v w' => ∃ (r0 : Int), v = Value.int .u32 r0 ∧ R r0 w') Try.func39 (c := c_towpathref03_Hash_0) (by kernel_rfl) 19 (by kernel_rfl) (by kernel_rfl) [(0, Value.string key)] (by kernel_rfl) ?_) ?_
  · refine wpE_seq (x := c_towpathref03_Hash_1) (y := c_towpathref03_Hash_3) (by kernel_rfl) ?_
    refine wpE_region (id := 0) (ops := r_towpathref03_Hash_1) (by kernel_rfl) ?_
    refine reg_run [.plain] 1 [(0, [], Value.string key)] (by kernel_rfl) (by kernel_rfl) ?_
    refine reg_end [(0, Value.string key)] (by kernel_rfl) (by kernel_rfl) ?_
    change WpE _ _ c_towpathref03_Hash_3 _ _ _
    refine wpE_seq (x := c_towpathref03_Hash_4) (y := c_towpathref03_Hash_6) (by kernel_rfl) ?_
    refine wpE_region (id := 1) (ops := r_towpathref03_Hash_4) (by kernel_rfl) ?_
    refine reg_run [.plain] 1 [(0, [], Value.string key), (3, [], Value.int .u32 2166136261)] (by kernel_rfl) (by kernel_rfl) ?_
    refine reg_end [(0, Value.string key), (3, Value.int .u32 2166136261)] (by kernel_rfl) (by kernel_rfl) ?_
    change WpE _ _ c_towpathref03_Hash_6 _ _ _
    refine wpE_seq (x := c_towpathref03_Hash_7) (y := c_towpathref03_Hash_25) (by kernel_rfl) ?_
    refine wpE_seq (x := c_towpathref03_Hash_8) (y := c_towpathref03_Hash_10) (by kernel_rfl) ?_
    refine wpE_region (id := 2) (ops := r_towpathref03_Hash_8) (by kernel_rfl) ?_
    refine reg_run [.plain] 1 [(0, [], Value.string key), (3, [], Value.int .u32 2166136261), (4, [], Value.int .i64 0)] (by kernel_rfl) (by kernel_rfl) ?_
    refine reg_end [(0, Value.string key), (3, Value.int .u32 2166136261), (4, Value.int .i64 0)] (by kernel_rfl) (by kernel_rfl) ?_
    change WpE _ _ c_towpathref03_Hash_10 _ _ _
    refine wpE_block (id := 0) (x := c_towpathref03_Hash_11) (by kernel_rfl) ?_
    obtain ⟨I, μ, h0, hr⟩ := h
    refine wpE_loop (x := c_towpathref03_Hash_12) (by kernel_rfl) (fun m l w => ∃ (h_ : Int) (i : Int), l = [(0, Value.string key), (3, Value.int .u32 h_), (4, Value.int .i64 i)] ∧ I h_ i w ∧ μ h_ i w = m) (l' := [(0, Value.string key), (3, Value.int .u32 2166136261), (4, Value.int .i64 0)]) (Sub.mk (by kernel_rfl)) ⟨2166136261, 0, rfl, h0, rfl⟩ ?_
    rintro _ _ w1 ⟨h_, i, rfl, hI, rfl⟩
    obtain ⟨again_, again__h, h⟩ : ∃ again_ : Int → Int → World → Prop, (∀ h_' i' w', again_ h_' i' w' → I h_' i' w' ∧ μ h_' i' w' < μ h_ i w1) ∧ F_towpathref03_Hash_L0 key R again_ h_ i w1 := ⟨_, fun _ _ _ h => h, hr h_ i w1 hI⟩
    clear h0 hI
    unfold F_towpathref03_Hash_L0 at h
    refine wpE_seq (x := c_towpathref03_Hash_13) (y := c_towpathref03_Hash_19) (by kernel_rfl) ?_
    refine wpE_seq (x := c_towpathref03_Hash_14) (y := c_towpathref03_Hash_16) (by kernel_rfl) ?_
    refine wpE_region (id := 3) (ops := r_towpathref03_Hash_14) (by kernel_rfl) ?_
    refine reg_run [.plain, .plain, .plain, .plain] 4 [(0, [], Value.string key), (3, [], Value.int .u32 h_), (4, [], Value.int .i64 i), (8, [], Value.bool (decide (i < ((key.size : Nat) : Int))))] (by kernel_rfl) (by kernel_rfl) ?_
    refine reg_end [(0, Value.string key), (3, Value.int .u32 h_), (4, Value.int .i64 i), (8, Value.bool (decide (i < ((key.size : Nat) : Int))))] (by kernel_rfl) (by kernel_rfl) ?_
    change WpE _ _ c_towpathref03_Hash_16 _ _ _
    refine wpE_cond (o := (Operand.tmp 8)) (b := (decide (i < ((key.size : Nat) : Int)))) (x := c_towpathref03_Hash_17) (y := c_towpathref03_Hash_18) (by kernel_rfl) (by kernel_rfl) (fun hb => ?_) (fun hb => ?_)
    · replace h := h.1 hb
      refine wpE_skip (by kernel_rfl) ?_
      change WpE _ _ c_towpathref03_Hash_19 _ _ _
      refine wpE_seq (x := c_towpathref03_Hash_20) (y := c_towpathref03_Hash_23) (by kernel_rfl) ?_
      refine wpE_block (id := 1) (x := c_towpathref03_Hash_21) (by kernel_rfl) ?_
      refine wpE_region (id := 5) (ops := r_towpathref03_Hash_21) (by kernel_rfl) ?_
      refine reg_run [.plain, .plain, .plain] 3 [(0, [], Value.string key), (3, [], Value.int .u32 h_), (4, [], Value.int .i64 i), (11, [], Value.int .u32 h_), (12, [], Value.string key), (13, [], Value.int .i64 i)] (by kernel_rfl) (by kernel_rfl) ?_
      obtain ⟨h0, h1, h⟩ := h
      refine reg_indexStr (t := 9) (x := (Go.Operand.tmp 12)) (ix := (Go.Operand.tmp 13)) (s := key) (k := .i64) (j := i) (ty := 5) (dst := some 14) (by kernel_rfl) (by kernel_rfl) (by kernel_rfl) (by kernel_rfl) h0 h1 ?_
      refine reg_run [.plain, .plain, .plain, .plain] 8 [(0, [], Value.string key), (3, [], Value.int .u32 (IntKind.u32.wrap ((bxor .u32 h_ (IntKind.u32.wrap (byteAt key i))) * 16777619))), (4, [], Value.int .i64 i)] (by kernel_rfl) (by kernel_rfl) ?_
      refine reg_end [(0, Value.string key), (3, Value.int .u32 (IntKind.u32.wrap ((bxor .u32 h_ (IntKind.u32.wrap (byteAt key i))) * 16777619))), (4, Value.int .i64 i)] (by kernel_rfl) (by kernel_rfl) ?_
      change WpE _ _ c_towpathref03_Hash_23 _ _ _
      refine wpE_region (id := 4) (ops := r_towpathref03_Hash_23) (by kernel_rfl) ?_
      refine reg_run [.plain, .plain, .plain] 3 [(0, [], Value.string key), (3, [], Value.int .u32 (IntKind.u32.wrap ((bxor .u32 h_ (IntKind.u32.wrap (byteAt key i))) * 16777619))), (4, [], Value.int .i64 (IntKind.i64.wrap (i + 1)))] (by kernel_rfl) (by kernel_rfl) ?_
      refine reg_end [(0, Value.string key), (3, Value.int .u32 (IntKind.u32.wrap ((bxor .u32 h_ (IntKind.u32.wrap (byteAt key i))) * 16777619))), (4, Value.int .i64 (IntKind.i64.wrap (i + 1)))] (by kernel_rfl) (by kernel_rfl) ?_
      have hb_ := again__h _ _ _ h
      exact ⟨_, hb_.2, [(0, Value.string key), (3, Value.int .u32 (IntKind.u32.wrap ((bxor .u32 h_ (IntKind.u32.wrap (byteAt key i))) * 16777619))), (4, Value.int .i64 (IntKind.i64.wrap (i + 1)))], Sub.mk (by kernel_rfl), (IntKind.u32.wrap ((bxor .u32 h_ (IntKind.u32.wrap (byteAt key i))) * 16777619)), (IntKind.i64.wrap (i + 1)), rfl, hb_.1, rfl⟩
    · replace h := h.2 hb
      refine wpE_exit (id := 0) (by kernel_rfl) ?_
      change WpE _ _ c_towpathref03_Hash_25 _ _ _
      refine wpE_seq (x := c_towpathref03_Hash_26) (y := c_towpathref03_Hash_28) (by kernel_rfl) ?_
      refine wpE_region (id := 6) (ops := r_towpathref03_Hash_26) (by kernel_rfl) ?_
      refine reg_run [.plain, .plain] 2 [(2, [], Value.int .u32 h_)] (by kernel_rfl) (by kernel_rfl) ?_
      refine reg_end [(2, Value.int .u32 h_)] (by kernel_rfl) (by kernel_rfl) ?_
      change WpE _ _ c_towpathref03_Hash_28 _ _ _
      refine wpE_ret (by kernel_rfl) ?_
      repeat (first | refine seqQ_ret ?_ | refine blockQ_ret ?_ | refine loopQ_ret ?_ | refine cutQ_ret ?_)
      exact retS (rs := [(Go.ResultVar.tmp 2)]) (v := Value.int .u32 h_) (by kernel_rfl) (⟨by kernel_rfl, trivial⟩) ⟨h_, rfl, h⟩
  · rintro e w' ⟨v, rfl, r0, rfl, h⟩; exact ⟨r0, rfl, h⟩

/-! ### towpath/num.Turn (function 40) -/
noncomputable def c_num_Turn_0 : Code := (Try.f40.body).getD Code.skip
noncomputable def c_num_Turn_1 : Code := Code.l c_num_Turn_0
noncomputable def r_num_Turn_1 : Array Oper := Code.ops c_num_Turn_1
noncomputable def c_num_Turn_3 : Code := Code.r c_num_Turn_0
noncomputable def c_num_Turn_4 : Code := Code.l c_num_Turn_3
noncomputable def r_num_Turn_4 : Array Oper := Code.ops c_num_Turn_4
noncomputable def c_num_Turn_6 : Code := Code.r c_num_Turn_3

set_option maxRecDepth 100000 in
theorem S_num_Turn {x : Int} {n_ : Int} {w : World} {R : Int → World → Prop} (h : F_num_Turn x n_ R w) : C_num_Turn x n_ w R := by
  unfold F_num_Turn at h
  unfold C_num_Turn
  refine Calls.mono (calls_of_wpE (args := [Value.int .u32 x, Value.int .i64 n_]) (R := fun v w' => ∃ (r0 : Int), v = Value.int .u32 r0 ∧ R r0 w') Try.func40 (c := c_num_Turn_0) (by kernel_rfl) 9 (by kernel_rfl) (by kernel_rfl) [(0, Value.int .u32 x), (1, Value.int .i64 n_)] (by kernel_rfl) ?_) ?_
  · refine wpE_seq (x := c_num_Turn_1) (y := c_num_Turn_3) (by kernel_rfl) ?_
    refine wpE_region (id := 0) (ops := r_num_Turn_1) (by kernel_rfl) ?_
    refine reg_run [.plain] 1 [(0, [], Value.int .u32 x), (1, [], Value.int .i64 n_)] (by kernel_rfl) (by kernel_rfl) ?_
    refine reg_end [(0, Value.int .u32 x), (1, Value.int .i64 n_)] (by kernel_rfl) (by kernel_rfl) ?_
    change WpE _ _ c_num_Turn_3 _ _ _
    refine wpE_seq (x := c_num_Turn_4) (y := c_num_Turn_6) (by kernel_rfl) ?_
    refine wpE_region (id := 1) (ops := r_num_Turn_4) (by kernel_rfl) ?_
    refine reg_run [.plain, .plain, .plain] 3 [(5, [], Value.int .u32 x), (7, [], Value.int .i64 (band .i64 n_ 31))] (by kernel_rfl) (by kernel_rfl) ?_
    refine reg_enter (op := (Go.Op.call (Go.Call.mk (Go.Callee.value (Go.Operand.func 61)) #[(Go.Operand.tmp 5), (Go.Operand.tmp 7)] #[39, 3]))) (ty := 39) (dst := some 8) 61 #[Value.int .u32 x, Value.int .i64 (band .i64 n_ 31)] (by kernel_rfl) (fun ww => by kernel_rfl) (Calls.mono h ?_)
    rintro _ w1 ⟨v8, rfl, h⟩
    refine ⟨_, rfl, ?_⟩
    refine reg_run [.plain] 5 [(4, [], Value.int .u32 v8)] (by kernel_rfl) (by kernel_rfl) ?_
    refine reg_end [(4, Value.int .u32 v8)] (by kernel_rfl) (by kernel_rfl) ?_
    change WpE _ _ c_num_Turn_6 _ _ _
    refine wpE_ret (by kernel_rfl) ?_
    repeat (first | refine seqQ_ret ?_ | refine blockQ_ret ?_ | refine loopQ_ret ?_ | refine cutQ_ret ?_)
    exact retS (rs := [(Go.ResultVar.tmp 4)]) (v := Value.int .u32 v8) (by kernel_rfl) (⟨by kernel_rfl, trivial⟩) ⟨v8, rfl, h⟩
  · rintro e w' ⟨v, rfl, r0, rfl, h⟩; exact ⟨r0, rfl, h⟩

/-! ### towpath/towpathref01.Turn (function 41) -/
noncomputable def c_towpathref01_Turn_0 : Code := (Try.f41.body).getD Code.skip
noncomputable def c_towpathref01_Turn_1 : Code := Code.l c_towpathref01_Turn_0
noncomputable def r_towpathref01_Turn_1 : Array Oper := Code.ops c_towpathref01_Turn_1
noncomputable def c_towpathref01_Turn_3 : Code := Code.r c_towpathref01_Turn_0
noncomputable def c_towpathref01_Turn_4 : Code := Code.l c_towpathref01_Turn_3
noncomputable def r_towpathref01_Turn_4 : Array Oper := Code.ops c_towpathref01_Turn_4
noncomputable def c_towpathref01_Turn_6 : Code := Code.r c_towpathref01_Turn_3
noncomputable def c_towpathref01_Turn_7 : Code := Code.l c_towpathref01_Turn_6
noncomputable def c_towpathref01_Turn_8 : Code := Code.l c_towpathref01_Turn_7
noncomputable def r_towpathref01_Turn_8 : Array Oper := Code.ops c_towpathref01_Turn_8
noncomputable def c_towpathref01_Turn_10 : Code := Code.r c_towpathref01_Turn_7
noncomputable def c_towpathref01_Turn_11 : Code := Code.l c_towpathref01_Turn_10
noncomputable def r_towpathref01_Turn_11 : Array Oper := Code.ops c_towpathref01_Turn_11
noncomputable def c_towpathref01_Turn_13 : Code := Code.r c_towpathref01_Turn_10
noncomputable def c_towpathref01_Turn_14 : Code := Code.r c_towpathref01_Turn_6
noncomputable def c_towpathref01_Turn_15 : Code := Code.l c_towpathref01_Turn_14
noncomputable def c_towpathref01_Turn_16 : Code := Code.l c_towpathref01_Turn_15
noncomputable def r_towpathref01_Turn_16 : Array Oper := Code.ops c_towpathref01_Turn_16
noncomputable def c_towpathref01_Turn_18 : Code := Code.r c_towpathref01_Turn_15
noncomputable def c_towpathref01_Turn_19 : Code := Code.l c_towpathref01_Turn_18
noncomputable def c_towpathref01_Turn_20 : Code := Code.l c_towpathref01_Turn_19
noncomputable def c_towpathref01_Turn_21 : Code := Code.l c_towpathref01_Turn_20
noncomputable def c_towpathref01_Turn_22 : Code := Code.l c_towpathref01_Turn_21
noncomputable def r_towpathref01_Turn_22 : Array Oper := Code.ops c_towpathref01_Turn_22
noncomputable def c_towpathref01_Turn_24 : Code := Code.r c_towpathref01_Turn_21
noncomputable def c_towpathref01_Turn_25 : Code := Code.l c_towpathref01_Turn_24
noncomputable def c_towpathref01_Turn_26 : Code := Code.r c_towpathref01_Turn_24
noncomputable def c_towpathref01_Turn_27 : Code := Code.r c_towpathref01_Turn_20
noncomputable def c_towpathref01_Turn_28 : Code := Code.l c_towpathref01_Turn_27
noncomputable def c_towpathref01_Turn_29 : Code := Code.l c_towpathref01_Turn_28
noncomputable def c_towpathref01_Turn_30 : Code := Code.l c_towpathref01_Turn_29
noncomputable def r_towpathref01_Turn_30 : Array Oper := Code.ops c_towpathref01_Turn_30
noncomputable def c_towpathref01_Turn_32 : Code := Code.r c_towpathref01_Turn_29
noncomputable def r_towpathref01_Turn_32 : Array Oper := Code.ops c_towpathref01_Turn_32
noncomputable def c_towpathref01_Turn_34 : Code := Code.r c_towpathref01_Turn_27
noncomputable def r_towpathref01_Turn_34 : Array Oper := Code.ops c_towpathref01_Turn_34
noncomputable def c_towpathref01_Turn_36 : Code := Code.r c_towpathref01_Turn_14
noncomputable def c_towpathref01_Turn_37 : Code := Code.l c_towpathref01_Turn_36
noncomputable def r_towpathref01_Turn_37 : Array Oper := Code.ops c_towpathref01_Turn_37
noncomputable def c_towpathref01_Turn_39 : Code := Code.r c_towpathref01_Turn_36

set_option maxRecDepth 100000 in
theorem S_towpathref01_Turn {x : Int} {n_ : Int} {w : World} {R : Int → World → Prop} (h : F_towpathref01_Turn x n_ R w) : C_towpathref01_Turn x n_ w R := by
  unfold F_towpathref01_Turn at h
  unfold C_towpathref01_Turn
  refine Calls.mono (calls_of_wpE (args := [Value.int .u32 x, Value.int .i64 n_]) (R := fun v w' => ∃ (r0 : Int), v = Value.int .u32 r0 ∧ R r0 w') Try.func41 (c := c_towpathref01_Turn_0) (by kernel_rfl) 26 (by kernel_rfl) (by kernel_rfl) [(0, Value.int .u32 x), (1, Value.int .i64 n_)] (by kernel_rfl) ?_) ?_
  · refine wpE_seq (x := c_towpathref01_Turn_1) (y := c_towpathref01_Turn_3) (by kernel_rfl) ?_
    refine wpE_region (id := 0) (ops := r_towpathref01_Turn_1) (by kernel_rfl) ?_
    refine reg_run [.plain] 1 [(0, [], Value.int .u32 x), (1, [], Value.int .i64 n_)] (by kernel_rfl) (by kernel_rfl) ?_
    refine reg_end [(0, Value.int .u32 x), (1, Value.int .i64 n_)] (by kernel_rfl) (by kernel_rfl) ?_
    change WpE _ _ c_towpathref01_Turn_3 _ _ _
    refine wpE_seq (x := c_towpathref01_Turn_4) (y := c_towpathref01_Turn_6) (by kernel_rfl) ?_
    refine wpE_region (id := 1) (ops := r_towpathref01_Turn_4) (by kernel_rfl) ?_
    refine reg_run [.plain, .plain, .plain] 3 [(0, [], Value.int .u32 x), (5, [], Value.int .i64 (Int.tmod n_ 32))] (by kernel_rfl) (by kernel_rfl) ?_
    refine reg_end [(0, Value.int .u32 x), (5, Value.int .i64 (Int.tmod n_ 32))] (by kernel_rfl) (by kernel_rfl) ?_
    change WpE _ _ c_towpathref01_Turn_6 _ _ _
    refine wpE_seq_cut (x := c_towpathref01_Turn_7) (y := c_towpathref01_Turn_14) (by kernel_rfl) (fun l w => ∃ (k : Int), l = [(0, Value.int .u32 x), (5, Value.int .i64 k)] ∧ F_towpathref01_Turn_k0 x R k w) ?_ ?_
    · refine wpE_seq (x := c_towpathref01_Turn_8) (y := c_towpathref01_Turn_10) (by kernel_rfl) ?_
      refine wpE_region (id := 2) (ops := r_towpathref01_Turn_8) (by kernel_rfl) ?_
      refine reg_run [.plain, .plain] 2 [(0, [], Value.int .u32 x), (5, [], Value.int .i64 (Int.tmod n_ 32)), (11, [], Value.bool (decide ((Int.tmod n_ 32) < 0)))] (by kernel_rfl) (by kernel_rfl) ?_
      refine reg_end [(0, Value.int .u32 x), (5, Value.int .i64 (Int.tmod n_ 32)), (11, Value.bool (decide ((Int.tmod n_ 32) < 0)))] (by kernel_rfl) (by kernel_rfl) ?_
      change WpE _ _ c_towpathref01_Turn_10 _ _ _
      refine wpE_cond (o := (Operand.tmp 11)) (b := (decide ((Int.tmod n_ 32) < 0))) (x := c_towpathref01_Turn_11) (y := c_towpathref01_Turn_13) (by kernel_rfl) (by kernel_rfl) (fun hb => ?_) (fun hb => ?_)
      · replace h := h.1 hb
        refine wpE_region (id := 3) (ops := r_towpathref01_Turn_11) (by kernel_rfl) ?_
        refine reg_run [.plain, .plain, .plain] 3 [(0, [], Value.int .u32 x), (5, [], Value.int .i64 (IntKind.i64.wrap ((Int.tmod n_ 32) + 32)))] (by kernel_rfl) (by kernel_rfl) ?_
        refine reg_end [(0, Value.int .u32 x), (5, Value.int .i64 (IntKind.i64.wrap ((Int.tmod n_ 32) + 32)))] (by kernel_rfl) (by kernel_rfl) ?_
        exact ⟨[(0, Value.int .u32 x), (5, Value.int .i64 (IntKind.i64.wrap ((Int.tmod n_ 32) + 32)))], Sub.mk (by kernel_rfl), (IntKind.i64.wrap ((Int.tmod n_ 32) + 32)), rfl, h⟩
      · replace h := h.2 hb
        refine wpE_skip (by kernel_rfl) ?_
        exact ⟨[(0, Value.int .u32 x), (5, Value.int .i64 (Int.tmod n_ 32))], Sub.mk (by kernel_rfl), (Int.tmod n_ 32), rfl, h⟩
    · rintro _ w1 ⟨k, rfl, h⟩
      unfold F_towpathref01_Turn_k0 at h
      refine wpE_seq (x := c_towpathref01_Turn_15) (y := c_towpathref01_Turn_36) (by kernel_rfl) ?_
      refine wpE_seq (x := c_towpathref01_Turn_16) (y := c_towpathref01_Turn_18) (by kernel_rfl) ?_
      refine wpE_region (id := 4) (ops := r_towpathref01_Turn_16) (by kernel_rfl) ?_
      refine reg_run [.plain] 1 [(0, [], Value.int .u32 x), (5, [], Value.int .i64 k), (6, [], Value.int .i64 0)] (by kernel_rfl) (by kernel_rfl) ?_
      refine reg_end [(0, Value.int .u32 x), (5, Value.int .i64 k), (6, Value.int .i64 0)] (by kernel_rfl) (by kernel_rfl) ?_
      change WpE _ _ c_towpathref01_Turn_18 _ _ _
      refine wpE_block (id := 0) (x := c_towpathref01_Turn_19) (by kernel_rfl) ?_
      obtain ⟨I, μ, h0, hr⟩ := h
      refine wpE_loop (x := c_towpathref01_Turn_20) (by kernel_rfl) (fun m l w => ∃ (x1 : Int) (i : Int), l = [(0, Value.int .u32 x1), (5, Value.int .i64 k), (6, Value.int .i64 i)] ∧ I x1 i w ∧ μ x1 i w = m) (l' := [(0, Value.int .u32 x), (5, Value.int .i64 k), (6, Value.int .i64 0)]) (Sub.mk (by kernel_rfl)) ⟨x, 0, rfl, h0, rfl⟩ ?_
      rintro _ _ w2 ⟨x1, i, rfl, hI, rfl⟩
      obtain ⟨again_, again__h, h⟩ : ∃ again_ : Int → Int → World → Prop, (∀ x1' i' w', again_ x1' i' w' → I x1' i' w' ∧ μ x1' i' w' < μ x1 i w2) ∧ F_towpathref01_Turn_L1 R k again_ x1 i w2 := ⟨_, fun _ _ _ h => h, hr x1 i w2 hI⟩
      clear h0 hI
      unfold F_towpathref01_Turn_L1 at h
      refine wpE_seq (x := c_towpathref01_Turn_21) (y := c_towpathref01_Turn_27) (by kernel_rfl) ?_
      refine wpE_seq (x := c_towpathref01_Turn_22) (y := c_towpathref01_Turn_24) (by kernel_rfl) ?_
      refine wpE_region (id := 5) (ops := r_towpathref01_Turn_22) (by kernel_rfl) ?_
      refine reg_run [.plain, .plain, .plain] 3 [(0, [], Value.int .u32 x1), (5, [], Value.int .i64 k), (6, [], Value.int .i64 i), (16, [], Value.bool (decide (i < k)))] (by kernel_rfl) (by kernel_rfl) ?_
      refine reg_end [(0, Value.int .u32 x1), (5, Value.int .i64 k), (6, Value.int .i64 i), (16, Value.bool (decide (i < k)))] (by kernel_rfl) (by kernel_rfl) ?_
      change WpE _ _ c_towpathref01_Turn_24 _ _ _
      refine wpE_cond (o := (Operand.tmp 16)) (b := (decide (i < k))) (x := c_towpathref01_Turn_25) (y := c_towpathref01_Turn_26) (by kernel_rfl) (by kernel_rfl) (fun hb => ?_) (fun hb => ?_)
      · replace h := h.1 hb
        refine wpE_skip (by kernel_rfl) ?_
        change WpE _ _ c_towpathref01_Turn_27 _ _ _
        refine wpE_seq (x := c_towpathref01_Turn_28) (y := c_towpathref01_Turn_34) (by kernel_rfl) ?_
        refine wpE_block (id := 1) (x := c_towpathref01_Turn_29) (by kernel_rfl) ?_
        refine wpE_seq (x := c_towpathref01_Turn_30) (y := c_towpathref01_Turn_32) (by kernel_rfl) ?_
        refine wpE_region (id := 7) (ops := r_towpathref01_Turn_30) (by kernel_rfl) ?_
        refine reg_run [.plain, .plain, .plain] 3 [(0, [], Value.int .u32 x1), (5, [], Value.int .i64 k), (6, [], Value.int .i64 i), (7, [], Value.int .u32 (IntKind.u32.wrap (Int.tdiv x1 2147483648)))] (by kernel_rfl) (by kernel_rfl) ?_
        refine reg_end [(0, Value.int .u32 x1), (5, Value.int .i64 k), (6, Value.int .i64 i), (7, Value.int .u32 (IntKind.u32.wrap (Int.tdiv x1 2147483648)))] (by kernel_rfl) (by kernel_rfl) ?_
        change WpE _ _ c_towpathref01_Turn_32 _ _ _
        refine wpE_region (id := 8) (ops := r_towpathref01_Turn_32) (by kernel_rfl) ?_
        refine reg_run [.plain, .plain, .plain, .plain, .plain] 5 [(0, [], Value.int .u32 (IntKind.u32.wrap ((IntKind.u32.wrap (2 * x1)) + (IntKind.u32.wrap (Int.tdiv x1 2147483648))))), (5, [], Value.int .i64 k), (6, [], Value.int .i64 i)] (by kernel_rfl) (by kernel_rfl) ?_
        refine reg_end [(0, Value.int .u32 (IntKind.u32.wrap ((IntKind.u32.wrap (2 * x1)) + (IntKind.u32.wrap (Int.tdiv x1 2147483648))))), (5, Value.int .i64 k), (6, Value.int .i64 i)] (by kernel_rfl) (by kernel_rfl) ?_
        change WpE _ _ c_towpathref01_Turn_34 _ _ _
        refine wpE_region (id := 6) (ops := r_towpathref01_Turn_34) (by kernel_rfl) ?_
        refine reg_run [.plain, .plain, .plain] 3 [(0, [], Value.int .u32 (IntKind.u32.wrap ((IntKind.u32.wrap (2 * x1)) + (IntKind.u32.wrap (Int.tdiv x1 2147483648))))), (5, [], Value.int .i64 k), (6, [], Value.int .i64 (IntKind.i64.wrap (i + 1)))] (by kernel_rfl) (by kernel_rfl) ?_
        refine reg_end [(0, Value.int .u32 (IntKind.u32.wrap ((IntKind.u32.wrap (2 * x1)) + (IntKind.u32.wrap (Int.tdiv x1 2147483648))))), (5, Value.int .i64 k), (6, Value.int .i64 (IntKind.i64.wrap (i + 1)))] (by kernel_rfl) (by kernel_rfl) ?_
        have hb_ := again__h _ _ _ h
        exact ⟨_, hb_.2, [(0, Value.int .u32 (IntKind.u32.wrap ((IntKind.u32.wrap (2 * x1)) + (IntKind.u32.wrap (Int.tdiv x1 2147483648))))), (5, Value.int .i64 k), (6, Value.int .i64 (IntKind.i64.wrap (i + 1)))], Sub.mk (by kernel_rfl), (IntKind.u32.wrap ((IntKind.u32.wrap (2 * x1)) + (IntKind.u32.wrap (Int.tdiv x1 2147483648)))), (IntKind.i64.wrap (i + 1)), rfl, hb_.1, rfl⟩
      · replace h := h.2 hb
        refine wpE_exit (id := 0) (by kernel_rfl) ?_
        change WpE _ _ c_towpathref01_Turn_36 _ _ _
        refine wpE_seq (x := c_towpathref01_Turn_37) (y := c_towpathref01_Turn_39) (by kernel_rfl) ?_
        refine wpE_region (id := 9) (ops := r_towpathref01_Turn_37) (by kernel_rfl) ?_
        refine reg_run [.plain, .plain] 2 [(4, [], Value.int .u32 x1)] (by kernel_rfl) (by kernel_rfl) ?_
        refine reg_end [(4, Value.int .u32 x1)] (by kernel_rfl) (by kernel_rfl) ?_
        change WpE _ _ c_towpathref01_Turn_39 _ _ _
        refine wpE_ret (by kernel_rfl) ?_
        repeat (first | refine seqQ_ret ?_ | refine blockQ_ret ?_ | refine loopQ_ret ?_ | refine cutQ_ret ?_)
        exact retS (rs := [(Go.ResultVar.tmp 4)]) (v := Value.int .u32 x1) (by kernel_rfl) (⟨by kernel_rfl, trivial⟩) ⟨x1, rfl, h⟩
  · rintro e w' ⟨v, rfl, r0, rfl, h⟩; exact ⟨r0, rfl, h⟩

/-! ### towpath/num.Zigzag (function 42) -/
noncomputable def c_num_Zigzag_0 : Code := (Try.f42.body).getD Code.skip
noncomputable def c_num_Zigzag_1 : Code := Code.l c_num_Zigzag_0
noncomputable def r_num_Zigzag_1 : Array Oper := Code.ops c_num_Zigzag_1
noncomputable def c_num_Zigzag_3 : Code := Code.r c_num_Zigzag_0
noncomputable def c_num_Zigzag_4 : Code := Code.l c_num_Zigzag_3
noncomputable def r_num_Zigzag_4 : Array Oper := Code.ops c_num_Zigzag_4
noncomputable def c_num_Zigzag_6 : Code := Code.r c_num_Zigzag_3

set_option maxRecDepth 100000 in
theorem S_num_Zigzag {x : Int} {w : World} {R : Int → World → Prop} (h : F_num_Zigzag x R w) : C_num_Zigzag x w R := by
  unfold F_num_Zigzag at h
  unfold C_num_Zigzag
  refine Calls.mono (calls_of_wpE (args := [Value.int .i64 x]) (R := fun v w' => ∃ (r0 : Int), v = Value.int .u64 r0 ∧ R r0 w') Try.func42 (c := c_num_Zigzag_0) (by kernel_rfl) 10 (by kernel_rfl) (by kernel_rfl) [(0, Value.int .i64 x)] (by kernel_rfl) ?_) ?_
  · refine wpE_seq (x := c_num_Zigzag_1) (y := c_num_Zigzag_3) (by kernel_rfl) ?_
    refine wpE_region (id := 0) (ops := r_num_Zigzag_1) (by kernel_rfl) ?_
    refine reg_run [.plain] 1 [(0, [], Value.int .i64 x)] (by kernel_rfl) (by kernel_rfl) ?_
    refine reg_end [(0, Value.int .i64 x)] (by kernel_rfl) (by kernel_rfl) ?_
    change WpE _ _ c_num_Zigzag_3 _ _ _
    refine wpE_seq (x := c_num_Zigzag_4) (y := c_num_Zigzag_6) (by kernel_rfl) ?_
    refine wpE_region (id := 1) (ops := r_num_Zigzag_4) (by kernel_rfl) ?_
    refine reg_run [.plain, .plain, .plain, .plain, .plain, .plain, .plain, .plain] 8 [(2, [], Value.int .u64 (bxor .u64 (IntKind.u64.wrap ((IntKind.u64.wrap x) * 2 ^ 1)) (IntKind.u64.wrap (Int.fdiv x (2 ^ 63)))))] (by kernel_rfl) (by kernel_rfl) ?_
    refine reg_end [(2, Value.int .u64 (bxor .u64 (IntKind.u64.wrap ((IntKind.u64.wrap x) * 2 ^ 1)) (IntKind.u64.wrap (Int.fdiv x (2 ^ 63)))))] (by kernel_rfl) (by kernel_rfl) ?_
    change WpE _ _ c_num_Zigzag_6 _ _ _
    refine wpE_ret (by kernel_rfl) ?_
    repeat (first | refine seqQ_ret ?_ | refine blockQ_ret ?_ | refine loopQ_ret ?_ | refine cutQ_ret ?_)
    exact retS (rs := [(Go.ResultVar.tmp 2)]) (v := Value.int .u64 (bxor .u64 (IntKind.u64.wrap ((IntKind.u64.wrap x) * 2 ^ 1)) (IntKind.u64.wrap (Int.fdiv x (2 ^ 63))))) (by kernel_rfl) (⟨by kernel_rfl, trivial⟩) ⟨(bxor .u64 (IntKind.u64.wrap ((IntKind.u64.wrap x) * 2 ^ 1)) (IntKind.u64.wrap (Int.fdiv x (2 ^ 63)))), rfl, h⟩
  · rintro e w' ⟨v, rfl, r0, rfl, h⟩; exact ⟨r0, rfl, h⟩

/-! ### towpath/towpathref01.Zigzag (function 43) -/
noncomputable def c_towpathref01_Zigzag_0 : Code := (Try.f43.body).getD Code.skip
noncomputable def c_towpathref01_Zigzag_1 : Code := Code.l c_towpathref01_Zigzag_0
noncomputable def r_towpathref01_Zigzag_1 : Array Oper := Code.ops c_towpathref01_Zigzag_1
noncomputable def c_towpathref01_Zigzag_3 : Code := Code.r c_towpathref01_Zigzag_0
noncomputable def c_towpathref01_Zigzag_4 : Code := Code.l c_towpathref01_Zigzag_3
noncomputable def c_towpathref01_Zigzag_5 : Code := Code.l c_towpathref01_Zigzag_4
noncomputable def r_towpathref01_Zigzag_5 : Array Oper := Code.ops c_towpathref01_Zigzag_5
noncomputable def c_towpathref01_Zigzag_7 : Code := Code.r c_towpathref01_Zigzag_4
noncomputable def c_towpathref01_Zigzag_8 : Code := Code.l c_towpathref01_Zigzag_7
noncomputable def c_towpathref01_Zigzag_9 : Code := Code.l c_towpathref01_Zigzag_8
noncomputable def r_towpathref01_Zigzag_9 : Array Oper := Code.ops c_towpathref01_Zigzag_9
noncomputable def c_towpathref01_Zigzag_11 : Code := Code.r c_towpathref01_Zigzag_8
noncomputable def c_towpathref01_Zigzag_12 : Code := Code.r c_towpathref01_Zigzag_7
noncomputable def c_towpathref01_Zigzag_13 : Code := Code.r c_towpathref01_Zigzag_3
noncomputable def c_towpathref01_Zigzag_14 : Code := Code.l c_towpathref01_Zigzag_13
noncomputable def r_towpathref01_Zigzag_14 : Array Oper := Code.ops c_towpathref01_Zigzag_14
noncomputable def c_towpathref01_Zigzag_16 : Code := Code.r c_towpathref01_Zigzag_13

set_option maxRecDepth 100000 in
theorem S_towpathref01_Zigzag {x : Int} {w : World} {R : Int → World → Prop} (h : F_towpathref01_Zigzag x R w) : C_towpathref01_Zigzag x w R := by
  unfold F_towpathref01_Zigzag at h
  unfold C_towpathref01_Zigzag
  refine Calls.mono (calls_of_wpE (args := [Value.int .i64 x]) (R := fun v w' => ∃ (r0 : Int), v = Value.int .u64 r0 ∧ R r0 w') Try.func43 (c := c_towpathref01_Zigzag_0) (by kernel_rfl) 13 (by kernel_rfl) (by kernel_rfl) [(0, Value.int .i64 x)] (by kernel_rfl) ?_) ?_
  · refine wpE_seq (x := c_towpathref01_Zigzag_1) (y := c_towpathref01_Zigzag_3) (by kernel_rfl) ?_
    refine wpE_region (id := 0) (ops := r_towpathref01_Zigzag_1) (by kernel_rfl) ?_
    refine reg_run [.plain] 1 [(0, [], Value.int .i64 x)] (by kernel_rfl) (by kernel_rfl) ?_
    refine reg_end [(0, Value.int .i64 x)] (by kernel_rfl) (by kernel_rfl) ?_
    change WpE _ _ c_towpathref01_Zigzag_3 _ _ _
    refine wpE_seq (x := c_towpathref01_Zigzag_4) (y := c_towpathref01_Zigzag_13) (by kernel_rfl) ?_
    refine wpE_seq (x := c_towpathref01_Zigzag_5) (y := c_towpathref01_Zigzag_7) (by kernel_rfl) ?_
    refine wpE_region (id := 1) (ops := r_towpathref01_Zigzag_5) (by kernel_rfl) ?_
    refine reg_run [.plain, .plain] 2 [(0, [], Value.int .i64 x), (4, [], Value.bool (decide (x ≥ 0)))] (by kernel_rfl) (by kernel_rfl) ?_
    refine reg_end [(0, Value.int .i64 x), (4, Value.bool (decide (x ≥ 0)))] (by kernel_rfl) (by kernel_rfl) ?_
    change WpE _ _ c_towpathref01_Zigzag_7 _ _ _
    refine wpE_cond (o := (Operand.tmp 4)) (b := (decide (x ≥ 0))) (x := c_towpathref01_Zigzag_8) (y := c_towpathref01_Zigzag_12) (by kernel_rfl) (by kernel_rfl) (fun hb => ?_) (fun hb => ?_)
    · replace h := h.1 hb
      refine wpE_seq (x := c_towpathref01_Zigzag_9) (y := c_towpathref01_Zigzag_11) (by kernel_rfl) ?_
      refine wpE_region (id := 2) (ops := r_towpathref01_Zigzag_9) (by kernel_rfl) ?_
      refine reg_run [.plain, .plain, .plain, .plain] 4 [(2, [], Value.int .u64 (IntKind.u64.wrap (2 * (IntKind.u64.wrap x))))] (by kernel_rfl) (by kernel_rfl) ?_
      refine reg_end [(2, Value.int .u64 (IntKind.u64.wrap (2 * (IntKind.u64.wrap x))))] (by kernel_rfl) (by kernel_rfl) ?_
      change WpE _ _ c_towpathref01_Zigzag_11 _ _ _
      refine wpE_ret (by kernel_rfl) ?_
      repeat (first | refine seqQ_ret ?_ | refine blockQ_ret ?_ | refine loopQ_ret ?_ | refine cutQ_ret ?_)
      exact retS (rs := [(Go.ResultVar.tmp 2)]) (v := Value.int .u64 (IntKind.u64.wrap (2 * (IntKind.u64.wrap x)))) (by kernel_rfl) (⟨by kernel_rfl, trivial⟩) ⟨(IntKind.u64.wrap (2 * (IntKind.u64.wrap x))), rfl, h⟩
    · replace h := h.2 hb
      refine wpE_skip (by kernel_rfl) ?_
      change WpE _ _ c_towpathref01_Zigzag_13 _ _ _
      refine wpE_seq (x := c_towpathref01_Zigzag_14) (y := c_towpathref01_Zigzag_16) (by kernel_rfl) ?_
      refine wpE_region (id := 3) (ops := r_towpathref01_Zigzag_14) (by kernel_rfl) ?_
      refine reg_run [.plain, .plain, .plain, .plain, .plain, .plain] 6 [(2, [], Value.int .u64 (IntKind.u64.wrap ((IntKind.u64.wrap (2 * (IntKind.u64.wrap (IntKind.i64.wrap ((-1) - x))))) + 1)))] (by kernel_rfl) (by kernel_rfl) ?_
      refine reg_end [(2, Value.int .u64 (IntKind.u64.wrap ((IntKind.u64.wrap (2 * (IntKind.u64.wrap (IntKind.i64.wrap ((-1) - x))))) + 1)))] (by kernel_rfl) (by kernel_rfl) ?_
      change WpE _ _ c_towpathref01_Zigzag_16 _ _ _
      refine wpE_ret (by kernel_rfl) ?_
      repeat (first | refine seqQ_ret ?_ | refine blockQ_ret ?_ | refine loopQ_ret ?_ | refine cutQ_ret ?_)
      exact retS (rs := [(Go.ResultVar.tmp 2)]) (v := Value.int .u64 (IntKind.u64.wrap ((IntKind.u64.wrap (2 * (IntKind.u64.wrap (IntKind.i64.wrap ((-1) - x))))) + 1))) (by kernel_rfl) (⟨by kernel_rfl, trivial⟩) ⟨(IntKind.u64.wrap ((IntKind.u64.wrap (2 * (IntKind.u64.wrap (IntKind.i64.wrap ((-1) - x))))) + 1)), rfl, h⟩
  · rintro e w' ⟨v, rfl, r0, rfl, h⟩; exact ⟨r0, rfl, h⟩

/-! ### towpath/num.Zagzig (function 44) -/
noncomputable def c_num_Zagzig_0 : Code := (Try.f44.body).getD Code.skip
noncomputable def c_num_Zagzig_1 : Code := Code.l c_num_Zagzig_0
noncomputable def r_num_Zagzig_1 : Array Oper := Code.ops c_num_Zagzig_1
noncomputable def c_num_Zagzig_3 : Code := Code.r c_num_Zagzig_0
noncomputable def c_num_Zagzig_4 : Code := Code.l c_num_Zagzig_3
noncomputable def r_num_Zagzig_4 : Array Oper := Code.ops c_num_Zagzig_4
noncomputable def c_num_Zagzig_6 : Code := Code.r c_num_Zagzig_3

set_option maxRecDepth 100000 in
theorem S_num_Zagzig {x : Int} {w : World} {R : Int → World → Prop} (h : F_num_Zagzig x R w) : C_num_Zagzig x w R := by
  unfold F_num_Zagzig at h
  unfold C_num_Zagzig
  refine Calls.mono (calls_of_wpE (args := [Value.int .u64 x]) (R := fun v w' => ∃ (r0 : Int), v = Value.int .i64 r0 ∧ R r0 w') Try.func44 (c := c_num_Zagzig_0) (by kernel_rfl) 11 (by kernel_rfl) (by kernel_rfl) [(0, Value.int .u64 x)] (by kernel_rfl) ?_) ?_
  · refine wpE_seq (x := c_num_Zagzig_1) (y := c_num_Zagzig_3) (by kernel_rfl) ?_
    refine wpE_region (id := 0) (ops := r_num_Zagzig_1) (by kernel_rfl) ?_
    refine reg_run [.plain] 1 [(0, [], Value.int .u64 x)] (by kernel_rfl) (by kernel_rfl) ?_
    refine reg_end [(0, Value.int .u64 x)] (by kernel_rfl) (by kernel_rfl) ?_
    change WpE _ _ c_num_Zagzig_3 _ _ _
    refine wpE_seq (x := c_num_Zagzig_4) (y := c_num_Zagzig_6) (by kernel_rfl) ?_
    refine wpE_region (id := 1) (ops := r_num_Zagzig_4) (by kernel_rfl) ?_
    refine reg_run [.plain, .plain, .plain, .plain, .plain, .plain, .plain, .plain, .plain] 9 [(2, [], Value.int .i64 (bxor .i64 (IntKind.i64.wrap (Int.fdiv x (2 ^ 1))) (IntKind.i64.wrap (0 - (IntKind.i64.wrap (band .u64 x 1))))))] (by kernel_rfl) (by kernel_rfl) ?_
    refine reg_end [(2, Value.int .i64 (bxor .i64 (IntKind.i64.wrap (Int.fdiv x (2 ^ 1))) (IntKind.i64.wrap (0 - (IntKind.i64.wrap (band .u64 x 1))))))] (by kernel_rfl) (by kernel_rfl) ?_
    change WpE _ _ c_num_Zagzig_6 _ _ _
    refine wpE_ret (by kernel_rfl) ?_
    repeat (first | refine seqQ_ret ?_ | refine blockQ_ret ?_ | refine loopQ_ret ?_ | refine cutQ_ret ?_)
    exact retS (rs := [(Go.ResultVar.tmp 2)]) (v := Value.int .i64 (bxor .i64 (IntKind.i64.wrap (Int.fdiv x (2 ^ 1))) (IntKind.i64.wrap (0 - (IntKind.i64.wrap (band .u64 x 1)))))) (by kernel_rfl) (⟨by kernel_rfl, trivial⟩) ⟨(bxor .i64 (IntKind.i64.wrap (Int.fdiv x (2 ^ 1))) (IntKind.i64.wrap (0 - (IntKind.i64.wrap (band .u64 x 1))))), rfl, h⟩
  · rintro e w' ⟨v, rfl, r0, rfl, h⟩; exact ⟨r0, rfl, h⟩

/-! ### towpath/towpathref01.Zagzig (function 45) -/
noncomputable def c_towpathref01_Zagzig_0 : Code := (Try.f45.body).getD Code.skip
noncomputable def c_towpathref01_Zagzig_1 : Code := Code.l c_towpathref01_Zagzig_0
noncomputable def r_towpathref01_Zagzig_1 : Array Oper := Code.ops c_towpathref01_Zagzig_1
noncomputable def c_towpathref01_Zagzig_3 : Code := Code.r c_towpathref01_Zagzig_0
noncomputable def c_towpathref01_Zagzig_4 : Code := Code.l c_towpathref01_Zagzig_3
noncomputable def c_towpathref01_Zagzig_5 : Code := Code.l c_towpathref01_Zagzig_4
noncomputable def r_towpathref01_Zagzig_5 : Array Oper := Code.ops c_towpathref01_Zagzig_5
noncomputable def c_towpathref01_Zagzig_7 : Code := Code.r c_towpathref01_Zagzig_4
noncomputable def c_towpathref01_Zagzig_8 : Code := Code.l c_towpathref01_Zagzig_7
noncomputable def c_towpathref01_Zagzig_9 : Code := Code.l c_towpathref01_Zagzig_8
noncomputable def r_towpathref01_Zagzig_9 : Array Oper := Code.ops c_towpathref01_Zagzig_9
noncomputable def c_towpathref01_Zagzig_11 : Code := Code.r c_towpathref01_Zagzig_8
noncomputable def c_towpathref01_Zagzig_12 : Code := Code.r c_towpathref01_Zagzig_7
noncomputable def c_towpathref01_Zagzig_13 : Code := Code.r c_towpathref01_Zagzig_3
noncomputable def c_towpathref01_Zagzig_14 : Code := Code.l c_towpathref01_Zagzig_13
noncomputable def r_towpathref01_Zagzig_14 : Array Oper := Code.ops c_towpathref01_Zagzig_14
noncomputable def c_towpathref01_Zagzig_16 : Code := Code.r c_towpathref01_Zagzig_13

set_option maxRecDepth 100000 in
theorem S_towpathref01_Zagzig {x : Int} {w : World} {R : Int → World → Prop} (h : F_towpathref01_Zagzig x R w) : C_towpathref01_Zagzig x w R := by
  unfold F_towpathref01_Zagzig at h
  unfold C_towpathref01_Zagzig
  refine Calls.mono (calls_of_wpE (args := [Value.int .u64 x]) (R := fun v w' => ∃ (r0 : Int), v = Value.int .i64 r0 ∧ R r0 w') Try.func45 (c := c_towpathref01_Zagzig_0) (by kernel_rfl) 13 (by kernel_rfl) (by kernel_rfl) [(0, Value.int .u64 x)] (by kernel_rfl) ?_) ?_
  · refine wpE_seq (x := c_towpathref01_Zagzig_1) (y := c_towpathref01_Zagzig_3) (by kernel_rfl) ?_
    refine wpE_region (id := 0) (ops := r_towpathref01_Zagzig_1) (by kernel_rfl) ?_
    refine reg_run [.plain] 1 [(0, [], Value.int .u64 x)] (by kernel_rfl) (by kernel_rfl) ?_
    refine reg_end [(0, Value.int .u64 x)] (by kernel_rfl) (by kernel_rfl) ?_
    change WpE _ _ c_towpathref01_Zagzig_3 _ _ _
    refine wpE_seq (x := c_towpathref01_Zagzig_4) (y := c_towpathref01_Zagzig_13) (by kernel_rfl) ?_
    refine wpE_seq (x := c_towpathref01_Zagzig_5) (y := c_towpathref01_Zagzig_7) (by kernel_rfl) ?_
    refine wpE_region (id := 1) (ops := r_towpathref01_Zagzig_5) (by kernel_rfl) ?_
    refine reg_run [.plain, .plain, .plain] 3 [(0, [], Value.int .u64 x), (5, [], Value.bool ((Int.tmod x 2) == 0))] (by kernel_rfl) (by kernel_rfl) ?_
    refine reg_end [(0, Value.int .u64 x), (5, Value.bool ((Int.tmod x 2) == 0))] (by kernel_rfl) (by kernel_rfl) ?_
    change WpE _ _ c_towpathref01_Zagzig_7 _ _ _
    refine wpE_cond (o := (Operand.tmp 5)) (b := ((Int.tmod x 2) == 0)) (x := c_towpathref01_Zagzig_8) (y := c_towpathref01_Zagzig_12) (by kernel_rfl) (by kernel_rfl) (fun hb => ?_) (fun hb => ?_)
    · replace h := h.1 hb
      refine wpE_seq (x := c_towpathref01_Zagzig_9) (y := c_towpathref01_Zagzig_11) (by kernel_rfl) ?_
      refine wpE_region (id := 2) (ops := r_towpathref01_Zagzig_9) (by kernel_rfl) ?_
      refine reg_run [.plain, .plain, .plain, .plain] 4 [(2, [], Value.int .i64 (IntKind.i64.wrap (IntKind.u64.wrap (Int.tdiv x 2))))] (by kernel_rfl) (by kernel_rfl) ?_
      refine reg_end [(2, Value.int .i64 (IntKind.i64.wrap (IntKind.u64.wrap (Int.tdiv x 2))))] (by kernel_rfl) (by kernel_rfl) ?_
      change WpE _ _ c_towpathref01_Zagzig_11 _ _ _
      refine wpE_ret (by kernel_rfl) ?_
      repeat (first | refine seqQ_ret ?_ | refine blockQ_ret ?_ | refine loopQ_ret ?_ | refine cutQ_ret ?_)
      exact retS (rs := [(Go.ResultVar.tmp 2)]) (v := Value.int .i64 (IntKind.i64.wrap (IntKind.u64.wrap (Int.tdiv x 2)))) (by kernel_rfl) (⟨by kernel_rfl, trivial⟩) ⟨(IntKind.i64.wrap (IntKind.u64.wrap (Int.tdiv x 2))), rfl, h⟩
    · replace h := h.2 hb
      refine wpE_skip (by kernel_rfl) ?_
      change WpE _ _ c_towpathref01_Zagzig_13 _ _ _
      refine wpE_seq (x := c_towpathref01_Zagzig_14) (y := c_towpathref01_Zagzig_16) (by kernel_rfl) ?_
      refine wpE_region (id := 3) (ops := r_towpathref01_Zagzig_14) (by kernel_rfl) ?_
      refine reg_run [.plain, .plain, .plain, .plain, .plain] 5 [(2, [], Value.int .i64 (IntKind.i64.wrap ((-1) - (IntKind.i64.wrap (IntKind.u64.wrap (Int.tdiv x 2))))))] (by kernel_rfl) (by kernel_rfl) ?_
      refine reg_end [(2, Value.int .i64 (IntKind.i64.wrap ((-1) - (IntKind.i64.wrap (IntKind.u64.wrap (Int.tdiv x 2))))))] (by kernel_rfl) (by kernel_rfl) ?_
      change WpE _ _ c_towpathref01_Zagzig_16 _ _ _
      refine wpE_ret (by kernel_rfl) ?_
      repeat (first | refine seqQ_ret ?_ | refine blockQ_ret ?_ | refine loopQ_ret ?_ | refine cutQ_ret ?_)
      exact retS (rs := [(Go.ResultVar.tmp 2)]) (v := Value.int .i64 (IntKind.i64.wrap ((-1) - (IntKind.i64.wrap (IntKind.u64.wrap (Int.tdiv x 2)))))) (by kernel_rfl) (⟨by kernel_rfl, trivial⟩) ⟨(IntKind.i64.wrap ((-1) - (IntKind.i64.wrap (IntKind.u64.wrap (Int.tdiv x 2))))), rfl, h⟩
  · rintro e w' ⟨v, rfl, r0, rfl, h⟩; exact ⟨r0, rfl, h⟩

/-! ### towpath/num.Bits (function 46) -/
noncomputable def c_num_Bits_0 : Code := (Try.f46.body).getD Code.skip
noncomputable def c_num_Bits_1 : Code := Code.l c_num_Bits_0
noncomputable def r_num_Bits_1 : Array Oper := Code.ops c_num_Bits_1
noncomputable def c_num_Bits_3 : Code := Code.r c_num_Bits_0
noncomputable def c_num_Bits_4 : Code := Code.l c_num_Bits_3
noncomputable def c_num_Bits_5 : Code := Code.l c_num_Bits_4
noncomputable def r_num_Bits_5 : Array Oper := Code.ops c_num_Bits_5
noncomputable def c_num_Bits_7 : Code := Code.r c_num_Bits_4
noncomputable def c_num_Bits_8 : Code := Code.l c_num_Bits_7
noncomputable def c_num_Bits_9 : Code := Code.l c_num_Bits_8
noncomputable def r_num_Bits_9 : Array Oper := Code.ops c_num_Bits_9
noncomputable def c_num_Bits_11 : Code := Code.r c_num_Bits_8
noncomputable def c_num_Bits_12 : Code := Code.r c_num_Bits_7
noncomputable def c_num_Bits_13 : Code := Code.r c_num_Bits_3
noncomputable def c_num_Bits_14 : Code := Code.l c_num_Bits_13
noncomputable def r_num_Bits_14 : Array Oper := Code.ops c_num_Bits_14
noncomputable def c_num_Bits_16 : Code := Code.r c_num_Bits_13

set_option maxRecDepth 100000 in
theorem S_num_Bits {x : Int} {from_ : Int} {n_ : Int} {w : World} {R : Int → Bool → World → Prop} (h : F_num_Bits x from_ n_ R w) : C_num_Bits x from_ n_ w R := by
  unfold F_num_Bits at h
  unfold C_num_Bits
  refine Calls.mono (calls_of_wpE (args := [Value.int .u64 x, Value.int .i64 from_, Value.int .i64 n_]) (R := fun v w' => ∃ (r0 : Int) (r1 : Bool), v = Value.tuple #[Value.int .u64 r0, Value.bool r1] ∧ R r0 r1 w') Try.func46 (c := c_num_Bits_0) (by kernel_rfl) 19 (by kernel_rfl) (by kernel_rfl) [(0, Value.int .u64 x), (1, Value.int .i64 from_), (2, Value.int .i64 n_)] (by kernel_rfl) ?_) ?_
  · refine wpE_seq (x := c_num_Bits_1) (y := c_num_Bits_3) (by kernel_rfl) ?_
    refine wpE_region (id := 0) (ops := r_num_Bits_1) (by kernel_rfl) ?_
    refine reg_run [.plain, .plain] 2 [(0, [], Value.int .u64 x), (1, [], Value.int .i64 from_), (2, [], Value.int .i64 n_)] (by kernel_rfl) (by kernel_rfl) ?_
    refine reg_end [(0, Value.int .u64 x), (1, Value.int .i64 from_), (2, Value.int .i64 n_)] (by kernel_rfl) (by kernel_rfl) ?_
    change WpE _ _ c_num_Bits_3 _ _ _
    refine wpE_seq (x := c_num_Bits_4) (y := c_num_Bits_13) (by kernel_rfl) ?_
    refine wpE_seq (x := c_num_Bits_5) (y := c_num_Bits_7) (by kernel_rfl) ?_
    refine wpE_region (id := 1) (ops := r_num_Bits_5) (by kernel_rfl) ?_
    refine reg_run [.plain, .plain] 2 [(0, [], Value.int .u64 x), (1, [], Value.int .i64 from_), (2, [], Value.int .i64 n_), (8, [], Value.int .i64 from_), (9, [], Value.int .i64 n_)] (by kernel_rfl) (by kernel_rfl) ?_
    refine reg_enter (op := (Go.Op.call (Go.Call.mk (Go.Callee.value (Go.Operand.func 62)) #[(Go.Operand.tmp 8), (Go.Operand.tmp 9)] #[3, 3]))) (ty := 4) (dst := some 10) 62 #[Value.int .i64 from_, Value.int .i64 n_] (by kernel_rfl) (fun ww => by kernel_rfl) (Calls.mono h ?_)
    rintro _ w1 ⟨v10, rfl, h⟩
    refine ⟨_, rfl, ?_⟩
    refine reg_run [.plain] 4 [(0, [], Value.int .u64 x), (1, [], Value.int .i64 from_), (2, [], Value.int .i64 n_), (11, [], Value.bool (!v10))] (by kernel_rfl) (by kernel_rfl) ?_
    refine reg_end [(0, Value.int .u64 x), (1, Value.int .i64 from_), (2, Value.int .i64 n_), (11, Value.bool (!v10))] (by kernel_rfl) (by kernel_rfl) ?_
    change WpE _ _ c_num_Bits_7 _ _ _
    refine wpE_cond (o := (Operand.tmp 11)) (b := (!v10)) (x := c_num_Bits_8) (y := c_num_Bits_12) (by kernel_rfl) (by kernel_rfl) (fun hb => ?_) (fun hb => ?_)
    · replace h := h.1 hb
      refine wpE_seq (x := c_num_Bits_9) (y := c_num_Bits_11) (by kernel_rfl) ?_
      refine wpE_region (id := 2) (ops := r_num_Bits_9) (by kernel_rfl) ?_
      refine reg_run [.plain, .plain] 2 [(6, [], Value.int .u64 0), (7, [], Value.bool false)] (by kernel_rfl) (by kernel_rfl) ?_
      refine reg_end [(6, Value.int .u64 0), (7, Value.bool false)] (by kernel_rfl) (by kernel_rfl) ?_
      change WpE _ _ c_num_Bits_11 _ _ _
      refine wpE_ret (by kernel_rfl) ?_
      repeat (first | refine seqQ_ret ?_ | refine blockQ_ret ?_ | refine loopQ_ret ?_ | refine cutQ_ret ?_)
      exact retT (rs := [(Go.ResultVar.tmp 6), (Go.ResultVar.tmp 7)]) (vs := [Value.int .u64 0, Value.bool false]) (by kernel_rfl) (⟨by kernel_rfl, ⟨by kernel_rfl, trivial⟩⟩) (by kernel_rfl) ⟨0, false, rfl, h⟩
    · replace h := h.2 hb
      refine wpE_skip (by kernel_rfl) ?_
      change WpE _ _ c_num_Bits_13 _ _ _
      refine wpE_seq (x := c_num_Bits_14) (y := c_num_Bits_16) (by kernel_rfl) ?_
      refine wpE_drawregion (id := 3) (ops := r_num_Bits_14) (by kernel_rfl) (by kernel_rfl) (by kernel_rfl) ?_
      refine qreg_run [.plain, .plain] 2 [(2, [], Value.int .i64 n_), (12, [], Value.int .u64 x), (13, [], Value.int .i64 from_)] (by kernel_rfl) (by kernel_rfl) ?_
      obtain ⟨h0, h⟩ := h
      refine qreg_val (op := (Go.Op.binOp Go.BinOp.shr 42 (Go.Operand.tmp 12) (Go.Operand.tmp 13) 3)) (ty := 42) (dst := some 14) (Value.int .u64 (Int.fdiv x (2 ^ (min from_.toNat 64)))) (by kernel_rfl) (fun ww => run_shr (k' := .i64) (by kernel_rfl) (by kernel_rfl) (by kernel_rfl) h0 ww) ?_
      refine qreg_run [.plain] 4 [(14, [], Value.int .u64 (Int.fdiv x (2 ^ (min from_.toNat 64)))), (15, [], Value.int .i64 n_)] (by kernel_rfl) (by kernel_rfl) ?_
      obtain ⟨h0, h⟩ := h
      refine qreg_val (op := (Go.Op.binOp Go.BinOp.shl 42 (Go.Operand.const (Go.Value.int Go.IntKind.u64 1)) (Go.Operand.tmp 15) 3)) (ty := 42) (dst := some 16) (Value.int .u64 (IntKind.u64.wrap (1 * 2 ^ (min n_.toNat 64)))) (by kernel_rfl) (fun ww => run_shl (k' := .i64) (by kernel_rfl) (by kernel_rfl) (by kernel_rfl) h0 ww) ?_
      refine qreg_run [.plain, .plain, .plain, .plain] 9 [(6, [], Value.int .u64 (band .u64 (Int.fdiv x (2 ^ (min from_.toNat 64))) (IntKind.u64.wrap ((IntKind.u64.wrap (1 * 2 ^ (min n_.toNat 64))) - 1)))), (7, [], Value.bool true)] (by kernel_rfl) (by kernel_rfl) ?_
      refine qreg_end [(6, Value.int .u64 (band .u64 (Int.fdiv x (2 ^ (min from_.toNat 64))) (IntKind.u64.wrap ((IntKind.u64.wrap (1 * 2 ^ (min n_.toNat 64))) - 1)))), (7, Value.bool true)] (by kernel_rfl) (by kernel_rfl) (fun w2 hw => ?_)
      replace h := h w2 hw
      clear hw
      change WpE _ _ c_num_Bits_16 _ _ _
      refine wpE_ret (by kernel_rfl) ?_
      repeat (first | refine seqQ_ret ?_ | refine blockQ_ret ?_ | refine loopQ_ret ?_ | refine cutQ_ret ?_)
      exact retT (rs := [(Go.ResultVar.tmp 6), (Go.ResultVar.tmp 7)]) (vs := [Value.int .u64 (band .u64 (Int.fdiv x (2 ^ (min from_.toNat 64))) (IntKind.u64.wrap ((IntKind.u64.wrap (1 * 2 ^ (min n_.toNat 64))) - 1))), Value.bool true]) (by kernel_rfl) (⟨by kernel_rfl, ⟨by kernel_rfl, trivial⟩⟩) (by kernel_rfl) ⟨(band .u64 (Int.fdiv x (2 ^ (min from_.toNat 64))) (IntKind.u64.wrap ((IntKind.u64.wrap (1 * 2 ^ (min n_.toNat 64))) - 1))), true, rfl, h⟩
  · rintro e w' ⟨v, rfl, r0, r1, rfl, h⟩; exact ⟨r0, r1, rfl, h⟩

/-! ### towpath/num.Put (function 47) -/
noncomputable def c_num_Put_0 : Code := (Try.f47.body).getD Code.skip
noncomputable def c_num_Put_1 : Code := Code.l c_num_Put_0
noncomputable def r_num_Put_1 : Array Oper := Code.ops c_num_Put_1
noncomputable def c_num_Put_3 : Code := Code.r c_num_Put_0
noncomputable def c_num_Put_4 : Code := Code.l c_num_Put_3
noncomputable def c_num_Put_5 : Code := Code.l c_num_Put_4
noncomputable def r_num_Put_5 : Array Oper := Code.ops c_num_Put_5
noncomputable def c_num_Put_7 : Code := Code.r c_num_Put_4
noncomputable def c_num_Put_8 : Code := Code.l c_num_Put_7
noncomputable def c_num_Put_9 : Code := Code.l c_num_Put_8
noncomputable def r_num_Put_9 : Array Oper := Code.ops c_num_Put_9
noncomputable def c_num_Put_11 : Code := Code.r c_num_Put_8
noncomputable def c_num_Put_12 : Code := Code.r c_num_Put_7
noncomputable def c_num_Put_13 : Code := Code.r c_num_Put_3
noncomputable def c_num_Put_14 : Code := Code.l c_num_Put_13
noncomputable def r_num_Put_14 : Array Oper := Code.ops c_num_Put_14
noncomputable def c_num_Put_16 : Code := Code.r c_num_Put_13

set_option maxRecDepth 100000 in
theorem S_num_Put {x : Int} {from_ : Int} {n_ : Int} {v : Int} {w : World} {R : Int → Bool → World → Prop} (h : F_num_Put x from_ n_ v R w) : C_num_Put x from_ n_ v w R := by
  unfold F_num_Put at h
  unfold C_num_Put
  refine Calls.mono (calls_of_wpE (args := [Value.int .u64 x, Value.int .i64 from_, Value.int .i64 n_, Value.int .u64 v]) (R := fun v w' => ∃ (r0 : Int) (r1 : Bool), v = Value.tuple #[Value.int .u64 r0, Value.bool r1] ∧ R r0 r1 w') Try.func47 (c := c_num_Put_0) (by kernel_rfl) 31 (by kernel_rfl) (by kernel_rfl) [(0, Value.int .u64 x), (1, Value.int .i64 from_), (2, Value.int .i64 n_), (3, Value.int .u64 v)] (by kernel_rfl) ?_) ?_
  · refine wpE_seq (x := c_num_Put_1) (y := c_num_Put_3) (by kernel_rfl) ?_
    refine wpE_region (id := 0) (ops := r_num_Put_1) (by kernel_rfl) ?_
    refine reg_run [.plain, .plain] 2 [(0, [], Value.int .u64 x), (1, [], Value.int .i64 from_), (2, [], Value.int .i64 n_), (3, [], Value.int .u64 v)] (by kernel_rfl) (by kernel_rfl) ?_
    refine reg_end [(0, Value.int .u64 x), (1, Value.int .i64 from_), (2, Value.int .i64 n_), (3, Value.int .u64 v)] (by kernel_rfl) (by kernel_rfl) ?_
    change WpE _ _ c_num_Put_3 _ _ _
    refine wpE_seq (x := c_num_Put_4) (y := c_num_Put_13) (by kernel_rfl) ?_
    refine wpE_seq_cut (x := c_num_Put_5) (y := c_num_Put_7) (by kernel_rfl) (fun l w => ∃ (t19 : Bool), l = [(0, Value.int .u64 x), (1, Value.int .i64 from_), (2, Value.int .i64 n_), (3, Value.int .u64 v), (19, Value.bool t19)] ∧ F_num_Put_k0 x from_ n_ v R t19 w) ?_ ?_
    · refine wpE_region (id := 1) (ops := r_num_Put_5) (by kernel_rfl) ?_
      refine reg_run [.plain, .plain] 2 [(0, [], Value.int .u64 x), (1, [], Value.int .i64 from_), (2, [], Value.int .i64 n_), (3, [], Value.int .u64 v), (10, [], Value.int .i64 from_), (11, [], Value.int .i64 n_)] (by kernel_rfl) (by kernel_rfl) ?_
      refine reg_enter (op := (Go.Op.call (Go.Call.mk (Go.Callee.value (Go.Operand.func 62)) #[(Go.Operand.tmp 10), (Go.Operand.tmp 11)] #[3, 3]))) (ty := 4) (dst := some 12) 62 #[Value.int .i64 from_, Value.int .i64 n_] (by kernel_rfl) (fun ww => by kernel_rfl) (Calls.mono h ?_)
      rintro _ w3 ⟨v12, rfl, h⟩
      refine ⟨_, rfl, ?_⟩
      refine reg_run [.plain, .plain, .plain, .plain] 7 [(0, [], Value.int .u64 x), (1, [], Value.int .i64 from_), (2, [], Value.int .i64 n_), (3, [], Value.int .u64 v), (14, [], Value.bool (!v12)), (15, [(14, false)], Value.int .u64 v), (16, [(14, false)], Value.int .i64 n_)] (by kernel_rfl) (by kernel_rfl) ?_
      refine reg_split 14 (!v12) (by kernel_rfl) (fun hb => ?_) (fun hb => ?_)
      · replace h := h.1 hb
        refine reg_run [] 7 [(0, [], Value.int .u64 x), (1, [], Value.int .i64 from_), (2, [], Value.int .i64 n_), (3, [], Value.int .u64 v), (14, [], Value.bool true), (15, [], undef), (16, [], undef)] (by kernel_rfl) (by kernel_rfl) ?_
        refine reg_run [.skip, .skip, .plain] 10 [(0, [], Value.int .u64 x), (1, [], Value.int .i64 from_), (2, [], Value.int .i64 n_), (3, [], Value.int .u64 v), (19, [], Value.bool true)] (by kernel_rfl) (by kernel_rfl) ?_
        refine reg_end [(0, Value.int .u64 x), (1, Value.int .i64 from_), (2, Value.int .i64 n_), (3, Value.int .u64 v), (19, Value.bool true)] (by kernel_rfl) (by kernel_rfl) ?_
        exact ⟨[(0, Value.int .u64 x), (1, Value.int .i64 from_), (2, Value.int .i64 n_), (3, Value.int .u64 v), (19, Value.bool true)], Sub.mk (by kernel_rfl), true, rfl, h⟩
      · replace h := h.2 hb
        refine reg_run [] 7 [(0, [], Value.int .u64 x), (1, [], Value.int .i64 from_), (2, [], Value.int .i64 n_), (3, [], Value.int .u64 v), (14, [], Value.bool false), (15, [], Value.int .u64 v), (16, [], Value.int .i64 n_)] (by kernel_rfl) (by kernel_rfl) ?_
        refine reg_run [] 7 [(0, [], Value.int .u64 x), (1, [], Value.int .i64 from_), (2, [], Value.int .i64 n_), (3, [], Value.int .u64 v), (14, [], Value.bool false), (15, [], Value.int .u64 v), (16, [], Value.int .i64 n_)] (by kernel_rfl) (by kernel_rfl) ?_
        obtain ⟨h0, h⟩ := h
        refine reg_val (op := (Go.Op.binOp Go.BinOp.shr 42 (Go.Operand.tmp 15) (Go.Operand.tmp 16) 3)) (ty := 42) (dst := some 17) (Value.int .u64 (Int.fdiv v (2 ^ (min n_.toNat 64)))) (by kernel_rfl) (fun ww => run_shr (k' := .i64) (by kernel_rfl) (by kernel_rfl) (by kernel_rfl) h0 ww) ?_
        refine reg_run [.sure, .plain] 10 [(0, [], Value.int .u64 x), (1, [], Value.int .i64 from_), (2, [], Value.int .i64 n_), (3, [], Value.int .u64 v), (19, [], Value.bool ((Int.fdiv v (2 ^ (min n_.toNat 64))) != 0))] (by kernel_rfl) (by kernel_rfl) ?_
        refine reg_end [(0, Value.int .u64 x), (1, Value.int .i64 from_), (2, Value.int .i64 n_), (3, Value.int .u64 v), (19, Value.bool ((Int.fdiv v (2 ^ (min n_.toNat 64))) != 0))] (by kernel_rfl) (by kernel_rfl) ?_
        exact ⟨[(0, Value.int .u64 x), (1, Value.int .i64 from_), (2, Value.int .i64 n_), (3, Value.int .u64 v), (19, Value.bool ((Int.fdiv v (2 ^ (min n_.toNat 64))) != 0))], Sub.mk (by kernel_rfl), ((Int.fdiv v (2 ^ (min n_.toNat 64))) != 0), rfl, h⟩
    · rintro _ w1 ⟨t19, rfl, h⟩
      unfold F_num_Put_k0 at h
      refine wpE_cond (o := (Operand.tmp 19)) (b := t19) (x := c_num_Put_8) (y := c_num_Put_12) (by kernel_rfl) (by kernel_rfl) (fun hb => ?_) (fun hb => ?_)
      · replace h := h.1 hb
        refine wpE_seq (x := c_num_Put_9) (y := c_num_Put_11) (by kernel_rfl) ?_
        refine wpE_region (id := 2) (ops := r_num_Put_9) (by kernel_rfl) ?_
        refine reg_run [.plain, .plain] 2 [(8, [], Value.int .u64 0), (9, [], Value.bool false)] (by kernel_rfl) (by kernel_rfl) ?_
        refine reg_end [(8, Value.int .u64 0), (9, Value.bool false)] (by kernel_rfl) (by kernel_rfl) ?_
        change WpE _ _ c_num_Put_11 _ _ _
        refine wpE_ret (by kernel_rfl) ?_
        repeat (first | refine seqQ_ret ?_ | refine blockQ_ret ?_ | refine loopQ_ret ?_ | refine cutQ_ret ?_)
        exact retT (rs := [(Go.ResultVar.tmp 8), (Go.ResultVar.tmp 9)]) (vs := [Value.int .u64 0, Value.bool false]) (by kernel_rfl) (⟨by kernel_rfl, ⟨by kernel_rfl, trivial⟩⟩) (by kernel_rfl) ⟨0, false, rfl, h⟩
      · replace h := h.2 hb
        refine wpE_skip (by kernel_rfl) ?_
        change WpE _ _ c_num_Put_13 _ _ _
        refine wpE_seq (x := c_num_Put_14) (y := c_num_Put_16) (by kernel_rfl) ?_
        refine wpE_drawregion (id := 3) (ops := r_num_Put_14) (by kernel_rfl) (by kernel_rfl) (by kernel_rfl) ?_
        refine qreg_run [.plain, .plain] 2 [(1, [], Value.int .i64 from_), (3, [], Value.int .u64 v), (20, [], Value.int .u64 x), (21, [], Value.int .i64 n_)] (by kernel_rfl) (by kernel_rfl) ?_
        obtain ⟨h0, h⟩ := h
        refine qreg_val (op := (Go.Op.binOp Go.BinOp.shl 42 (Go.Operand.const (Go.Value.int Go.IntKind.u64 1)) (Go.Operand.tmp 21) 3)) (ty := 42) (dst := some 22) (Value.int .u64 (IntKind.u64.wrap (1 * 2 ^ (min n_.toNat 64)))) (by kernel_rfl) (fun ww => run_shl (k' := .i64) (by kernel_rfl) (by kernel_rfl) (by kernel_rfl) h0 ww) ?_
        refine qreg_run [.plain, .plain] 5 [(1, [], Value.int .i64 from_), (3, [], Value.int .u64 v), (20, [], Value.int .u64 x), (23, [], Value.int .u64 (IntKind.u64.wrap ((IntKind.u64.wrap (1 * 2 ^ (min n_.toNat 64))) - 1))), (24, [], Value.int .i64 from_)] (by kernel_rfl) (by kernel_rfl) ?_
        obtain ⟨h0, h⟩ := h
        refine qreg_val (op := (Go.Op.binOp Go.BinOp.shl 42 (Go.Operand.tmp 23) (Go.Operand.tmp 24) 3)) (ty := 42) (dst := some 25) (Value.int .u64 (IntKind.u64.wrap ((IntKind.u64.wrap ((IntKind.u64.wrap (1 * 2 ^ (min n_.toNat 64))) - 1)) * 2 ^ (min from_.toNat 64)))) (by kernel_rfl) (fun ww => run_shl (k' := .i64) (by kernel_rfl) (by kernel_rfl) (by kernel_rfl) h0 ww) ?_
        refine qreg_run [.plain, .plain, .plain] 9 [(26, [], Value.int .u64 (bandnot .u64 x (IntKind.u64.wrap ((IntKind.u64.wrap ((IntKind.u64.wrap (1 * 2 ^ (min n_.toNat 64))) - 1)) * 2 ^ (min from_.toNat 64))))), (27, [], Value.int .u64 v), (28, [], Value.int .i64 from_)] (by kernel_rfl) (by kernel_rfl) ?_
        obtain ⟨h0, h⟩ := h
        refine qreg_val (op := (Go.Op.binOp Go.BinOp.shl 42 (Go.Operand.tmp 27) (Go.Operand.tmp 28) 3)) (ty := 42) (dst := some 29) (Value.int .u64 (IntKind.u64.wrap (v * 2 ^ (min from_.toNat 64)))) (by kernel_rfl) (fun ww => run_shl (k' := .i64) (by kernel_rfl) (by kernel_rfl) (by kernel_rfl) h0 ww) ?_
        refine qreg_run [.plain, .plain, .plain] 13 [(8, [], Value.int .u64 (bor .u64 (bandnot .u64 x (IntKind.u64.wrap ((IntKind.u64.wrap ((IntKind.u64.wrap (1 * 2 ^ (min n_.toNat 64))) - 1)) * 2 ^ (min from_.toNat 64)))) (IntKind.u64.wrap (v * 2 ^ (min from_.toNat 64))))), (9, [], Value.bool true)] (by kernel_rfl) (by kernel_rfl) ?_
        refine qreg_end [(8, Value.int .u64 (bor .u64 (bandnot .u64 x (IntKind.u64.wrap ((IntKind.u64.wrap ((IntKind.u64.wrap (1 * 2 ^ (min n_.toNat 64))) - 1)) * 2 ^ (min from_.toNat 64)))) (IntKind.u64.wrap (v * 2 ^ (min from_.toNat 64))))), (9, Value.bool true)] (by kernel_rfl) (by kernel_rfl) (fun w2 hw => ?_)
        replace h := h w2 hw
        clear hw
        change WpE _ _ c_num_Put_16 _ _ _
        refine wpE_ret (by kernel_rfl) ?_
        repeat (first | refine seqQ_ret ?_ | refine blockQ_ret ?_ | refine loopQ_ret ?_ | refine cutQ_ret ?_)
        exact retT (rs := [(Go.ResultVar.tmp 8), (Go.ResultVar.tmp 9)]) (vs := [Value.int .u64 (bor .u64 (bandnot .u64 x (IntKind.u64.wrap ((IntKind.u64.wrap ((IntKind.u64.wrap (1 * 2 ^ (min n_.toNat 64))) - 1)) * 2 ^ (min from_.toNat 64)))) (IntKind.u64.wrap (v * 2 ^ (min from_.toNat 64)))), Value.bool true]) (by kernel_rfl) (⟨by kernel_rfl, ⟨by kernel_rfl, trivial⟩⟩) (by kernel_rfl) ⟨(bor .u64 (bandnot .u64 x (IntKind.u64.wrap ((IntKind.u64.wrap ((IntKind.u64.wrap (1 * 2 ^ (min n_.toNat 64))) - 1)) * 2 ^ (min from_.toNat 64)))) (IntKind.u64.wrap (v * 2 ^ (min from_.toNat 64)))), true, rfl, h⟩
  · rintro e w' ⟨v, rfl, r0, r1, rfl, h⟩; exact ⟨r0, r1, rfl, h⟩
end Go.Proofs.Ytmcpljflohlnaaa
