/- WRITTEN BY PROGRAM (dec.py): for each Go function the clean formula F, the call's contract C, and the proof S that F gives C. -/
import Derived.Test.YtmcpljflohlnaaaRows
import Derived.Test.YtmcpljflohlnaaaGF
namespace Go.Proofs.Ytmcpljflohlnaaa
open Go
set_option linter.unusedVariables false

/-! ### towpath/num.Fit[int64,int16] (function 57) -/
noncomputable def c_num_Fit_int64_int16_0 : Code := (Try.f57.body).getD Code.skip
noncomputable def c_num_Fit_int64_int16_1 : Code := Code.l c_num_Fit_int64_int16_0
noncomputable def r_num_Fit_int64_int16_1 : Array Oper := Code.ops c_num_Fit_int64_int16_1
noncomputable def c_num_Fit_int64_int16_3 : Code := Code.r c_num_Fit_int64_int16_0
noncomputable def c_num_Fit_int64_int16_4 : Code := Code.l c_num_Fit_int64_int16_3
noncomputable def r_num_Fit_int64_int16_4 : Array Oper := Code.ops c_num_Fit_int64_int16_4
noncomputable def c_num_Fit_int64_int16_6 : Code := Code.r c_num_Fit_int64_int16_3
noncomputable def c_num_Fit_int64_int16_7 : Code := Code.l c_num_Fit_int64_int16_6
noncomputable def c_num_Fit_int64_int16_8 : Code := Code.l c_num_Fit_int64_int16_7
noncomputable def r_num_Fit_int64_int16_8 : Array Oper := Code.ops c_num_Fit_int64_int16_8
noncomputable def c_num_Fit_int64_int16_10 : Code := Code.r c_num_Fit_int64_int16_7
noncomputable def c_num_Fit_int64_int16_11 : Code := Code.l c_num_Fit_int64_int16_10
noncomputable def c_num_Fit_int64_int16_12 : Code := Code.l c_num_Fit_int64_int16_11
noncomputable def r_num_Fit_int64_int16_12 : Array Oper := Code.ops c_num_Fit_int64_int16_12
noncomputable def c_num_Fit_int64_int16_14 : Code := Code.r c_num_Fit_int64_int16_11
noncomputable def c_num_Fit_int64_int16_15 : Code := Code.r c_num_Fit_int64_int16_10
noncomputable def c_num_Fit_int64_int16_16 : Code := Code.r c_num_Fit_int64_int16_6
noncomputable def c_num_Fit_int64_int16_17 : Code := Code.l c_num_Fit_int64_int16_16
noncomputable def r_num_Fit_int64_int16_17 : Array Oper := Code.ops c_num_Fit_int64_int16_17
noncomputable def c_num_Fit_int64_int16_19 : Code := Code.r c_num_Fit_int64_int16_16

set_option maxRecDepth 100000 in
theorem S_num_Fit_int64_int16 {x : Int} {w : World} {R : Int → Bool → World → Prop} (h : F_num_Fit_int64_int16 x R w) : C_num_Fit_int64_int16 x w R := by
  unfold F_num_Fit_int64_int16 at h
  unfold C_num_Fit_int64_int16
  refine Calls.mono (calls_of_wpE (args := [Value.int .i16 x]) (R := fun v w' => ∃ (r0 : Int) (r1 : Bool), v = Value.tuple #[Value.int .i64 r0, Value.bool r1] ∧ R r0 r1 w') Try.func57 (c := c_num_Fit_int64_int16_0) (by kernel_rfl) 19 (by kernel_rfl) (by kernel_rfl) [(0, Value.int .i16 x)] (by kernel_rfl) ?_) ?_
  · refine wpE_seq (x := c_num_Fit_int64_int16_1) (y := c_num_Fit_int64_int16_3) (by kernel_rfl) ?_
    refine wpE_region (id := 0) (ops := r_num_Fit_int64_int16_1) (by kernel_rfl) ?_
    refine reg_run [.plain, .plain] 2 [(0, [], Value.int .i16 x)] (by kernel_rfl) (by kernel_rfl) ?_
    refine reg_end [(0, Value.int .i16 x)] (by kernel_rfl) (by kernel_rfl) ?_
    change WpE _ _ c_num_Fit_int64_int16_3 _ _ _
    refine wpE_seq (x := c_num_Fit_int64_int16_4) (y := c_num_Fit_int64_int16_6) (by kernel_rfl) ?_
    refine wpE_region (id := 1) (ops := r_num_Fit_int64_int16_4) (by kernel_rfl) ?_
    refine reg_run [.plain, .plain, .plain] 3 [(0, [], Value.int .i16 x), (4, [], Value.int .i64 (IntKind.i64.wrap x))] (by kernel_rfl) (by kernel_rfl) ?_
    refine reg_end [(0, Value.int .i16 x), (4, Value.int .i64 (IntKind.i64.wrap x))] (by kernel_rfl) (by kernel_rfl) ?_
    change WpE _ _ c_num_Fit_int64_int16_6 _ _ _
    refine wpE_seq (x := c_num_Fit_int64_int16_7) (y := c_num_Fit_int64_int16_16) (by kernel_rfl) ?_
    refine wpE_seq (x := c_num_Fit_int64_int16_8) (y := c_num_Fit_int64_int16_10) (by kernel_rfl) ?_
    refine wpE_region (id := 2) (ops := r_num_Fit_int64_int16_8) (by kernel_rfl) ?_
    refine reg_run [.plain, .plain, .plain, .plain, .plain, .plain, .plain, .plain, .plain, .plain, .pick] 11 [(4, [], Value.int .i64 (IntKind.i64.wrap x)), (17, [], Value.bool (((IntKind.i16.wrap (IntKind.i64.wrap x)) != x) || (!((decide (x < 0)) == (decide ((IntKind.i64.wrap x) < 0))))))] (by kernel_rfl) (by kernel_rfl) ?_
    refine reg_end [(4, Value.int .i64 (IntKind.i64.wrap x)), (17, Value.bool (((IntKind.i16.wrap (IntKind.i64.wrap x)) != x) || (!((decide (x < 0)) == (decide ((IntKind.i64.wrap x) < 0))))))] (by kernel_rfl) (by kernel_rfl) ?_
    change WpE _ _ c_num_Fit_int64_int16_10 _ _ _
    refine wpE_cond (o := (Operand.tmp 17)) (b := (((IntKind.i16.wrap (IntKind.i64.wrap x)) != x) || (!((decide (x < 0)) == (decide ((IntKind.i64.wrap x) < 0)))))) (x := c_num_Fit_int64_int16_11) (y := c_num_Fit_int64_int16_15) (by kernel_rfl) (by kernel_rfl) (fun hb => ?_) (fun hb => ?_)
    · replace h := h.1 hb
      refine wpE_seq (x := c_num_Fit_int64_int16_12) (y := c_num_Fit_int64_int16_14) (by kernel_rfl) ?_
      refine wpE_region (id := 3) (ops := r_num_Fit_int64_int16_12) (by kernel_rfl) ?_
      refine reg_run [.plain, .plain] 2 [(2, [], Value.int .i64 0), (3, [], Value.bool false)] (by kernel_rfl) (by kernel_rfl) ?_
      refine reg_end [(2, Value.int .i64 0), (3, Value.bool false)] (by kernel_rfl) (by kernel_rfl) ?_
      change WpE _ _ c_num_Fit_int64_int16_14 _ _ _
      refine wpE_ret (by kernel_rfl) ?_
      repeat (first | refine seqQ_ret ?_ | refine blockQ_ret ?_ | refine loopQ_ret ?_ | refine cutQ_ret ?_)
      exact retT (rs := [(Go.ResultVar.tmp 2), (Go.ResultVar.tmp 3)]) (vs := [Value.int .i64 0, Value.bool false]) (by kernel_rfl) (⟨by kernel_rfl, ⟨by kernel_rfl, trivial⟩⟩) (by kernel_rfl) ⟨0, false, rfl, h⟩
    · replace h := h.2 hb
      refine wpE_skip (by kernel_rfl) ?_
      change WpE _ _ c_num_Fit_int64_int16_16 _ _ _
      refine wpE_seq (x := c_num_Fit_int64_int16_17) (y := c_num_Fit_int64_int16_19) (by kernel_rfl) ?_
      refine wpE_region (id := 4) (ops := r_num_Fit_int64_int16_17) (by kernel_rfl) ?_
      refine reg_run [.plain, .plain, .plain] 3 [(2, [], Value.int .i64 (IntKind.i64.wrap x)), (3, [], Value.bool true)] (by kernel_rfl) (by kernel_rfl) ?_
      refine reg_end [(2, Value.int .i64 (IntKind.i64.wrap x)), (3, Value.bool true)] (by kernel_rfl) (by kernel_rfl) ?_
      change WpE _ _ c_num_Fit_int64_int16_19 _ _ _
      refine wpE_ret (by kernel_rfl) ?_
      repeat (first | refine seqQ_ret ?_ | refine blockQ_ret ?_ | refine loopQ_ret ?_ | refine cutQ_ret ?_)
      exact retT (rs := [(Go.ResultVar.tmp 2), (Go.ResultVar.tmp 3)]) (vs := [Value.int .i64 (IntKind.i64.wrap x), Value.bool true]) (by kernel_rfl) (⟨by kernel_rfl, ⟨by kernel_rfl, trivial⟩⟩) (by kernel_rfl) ⟨(IntKind.i64.wrap x), true, rfl, h⟩
  · rintro e w' ⟨v, rfl, r0, r1, rfl, h⟩; exact ⟨r0, r1, rfl, h⟩

/-! ### towpath/num.Fit[uint64,uint32] (function 58) -/
noncomputable def c_num_Fit_uint64_uint32_0 : Code := (Try.f58.body).getD Code.skip
noncomputable def c_num_Fit_uint64_uint32_1 : Code := Code.l c_num_Fit_uint64_uint32_0
noncomputable def r_num_Fit_uint64_uint32_1 : Array Oper := Code.ops c_num_Fit_uint64_uint32_1
noncomputable def c_num_Fit_uint64_uint32_3 : Code := Code.r c_num_Fit_uint64_uint32_0
noncomputable def c_num_Fit_uint64_uint32_4 : Code := Code.l c_num_Fit_uint64_uint32_3
noncomputable def r_num_Fit_uint64_uint32_4 : Array Oper := Code.ops c_num_Fit_uint64_uint32_4
noncomputable def c_num_Fit_uint64_uint32_6 : Code := Code.r c_num_Fit_uint64_uint32_3
noncomputable def c_num_Fit_uint64_uint32_7 : Code := Code.l c_num_Fit_uint64_uint32_6
noncomputable def c_num_Fit_uint64_uint32_8 : Code := Code.l c_num_Fit_uint64_uint32_7
noncomputable def r_num_Fit_uint64_uint32_8 : Array Oper := Code.ops c_num_Fit_uint64_uint32_8
noncomputable def c_num_Fit_uint64_uint32_10 : Code := Code.r c_num_Fit_uint64_uint32_7
noncomputable def c_num_Fit_uint64_uint32_11 : Code := Code.l c_num_Fit_uint64_uint32_10
noncomputable def c_num_Fit_uint64_uint32_12 : Code := Code.l c_num_Fit_uint64_uint32_11
noncomputable def r_num_Fit_uint64_uint32_12 : Array Oper := Code.ops c_num_Fit_uint64_uint32_12
noncomputable def c_num_Fit_uint64_uint32_14 : Code := Code.r c_num_Fit_uint64_uint32_11
noncomputable def c_num_Fit_uint64_uint32_15 : Code := Code.r c_num_Fit_uint64_uint32_10
noncomputable def c_num_Fit_uint64_uint32_16 : Code := Code.r c_num_Fit_uint64_uint32_6
noncomputable def c_num_Fit_uint64_uint32_17 : Code := Code.l c_num_Fit_uint64_uint32_16
noncomputable def r_num_Fit_uint64_uint32_17 : Array Oper := Code.ops c_num_Fit_uint64_uint32_17
noncomputable def c_num_Fit_uint64_uint32_19 : Code := Code.r c_num_Fit_uint64_uint32_16

set_option maxRecDepth 100000 in
theorem S_num_Fit_uint64_uint32 {x : Int} {w : World} {R : Int → Bool → World → Prop} (h : F_num_Fit_uint64_uint32 x R w) : C_num_Fit_uint64_uint32 x w R := by
  unfold F_num_Fit_uint64_uint32 at h
  unfold C_num_Fit_uint64_uint32
  refine Calls.mono (calls_of_wpE (args := [Value.int .u32 x]) (R := fun v w' => ∃ (r0 : Int) (r1 : Bool), v = Value.tuple #[Value.int .u64 r0, Value.bool r1] ∧ R r0 r1 w') Try.func58 (c := c_num_Fit_uint64_uint32_0) (by kernel_rfl) 19 (by kernel_rfl) (by kernel_rfl) [(0, Value.int .u32 x)] (by kernel_rfl) ?_) ?_
  · refine wpE_seq (x := c_num_Fit_uint64_uint32_1) (y := c_num_Fit_uint64_uint32_3) (by kernel_rfl) ?_
    refine wpE_region (id := 0) (ops := r_num_Fit_uint64_uint32_1) (by kernel_rfl) ?_
    refine reg_run [.plain, .plain] 2 [(0, [], Value.int .u32 x)] (by kernel_rfl) (by kernel_rfl) ?_
    refine reg_end [(0, Value.int .u32 x)] (by kernel_rfl) (by kernel_rfl) ?_
    change WpE _ _ c_num_Fit_uint64_uint32_3 _ _ _
    refine wpE_seq (x := c_num_Fit_uint64_uint32_4) (y := c_num_Fit_uint64_uint32_6) (by kernel_rfl) ?_
    refine wpE_region (id := 1) (ops := r_num_Fit_uint64_uint32_4) (by kernel_rfl) ?_
    refine reg_run [.plain, .plain, .plain] 3 [(0, [], Value.int .u32 x), (4, [], Value.int .u64 (IntKind.u64.wrap x))] (by kernel_rfl) (by kernel_rfl) ?_
    refine reg_end [(0, Value.int .u32 x), (4, Value.int .u64 (IntKind.u64.wrap x))] (by kernel_rfl) (by kernel_rfl) ?_
    change WpE _ _ c_num_Fit_uint64_uint32_6 _ _ _
    refine wpE_seq (x := c_num_Fit_uint64_uint32_7) (y := c_num_Fit_uint64_uint32_16) (by kernel_rfl) ?_
    refine wpE_seq (x := c_num_Fit_uint64_uint32_8) (y := c_num_Fit_uint64_uint32_10) (by kernel_rfl) ?_
    refine wpE_region (id := 2) (ops := r_num_Fit_uint64_uint32_8) (by kernel_rfl) ?_
    refine reg_run [.plain, .plain, .plain, .plain, .plain, .plain, .plain, .plain, .plain, .plain, .pick] 11 [(4, [], Value.int .u64 (IntKind.u64.wrap x)), (17, [], Value.bool (((IntKind.u32.wrap (IntKind.u64.wrap x)) != x) || (!((decide (x < 0)) == (decide ((IntKind.u64.wrap x) < 0))))))] (by kernel_rfl) (by kernel_rfl) ?_
    refine reg_end [(4, Value.int .u64 (IntKind.u64.wrap x)), (17, Value.bool (((IntKind.u32.wrap (IntKind.u64.wrap x)) != x) || (!((decide (x < 0)) == (decide ((IntKind.u64.wrap x) < 0))))))] (by kernel_rfl) (by kernel_rfl) ?_
    change WpE _ _ c_num_Fit_uint64_uint32_10 _ _ _
    refine wpE_cond (o := (Operand.tmp 17)) (b := (((IntKind.u32.wrap (IntKind.u64.wrap x)) != x) || (!((decide (x < 0)) == (decide ((IntKind.u64.wrap x) < 0)))))) (x := c_num_Fit_uint64_uint32_11) (y := c_num_Fit_uint64_uint32_15) (by kernel_rfl) (by kernel_rfl) (fun hb => ?_) (fun hb => ?_)
    · replace h := h.1 hb
      refine wpE_seq (x := c_num_Fit_uint64_uint32_12) (y := c_num_Fit_uint64_uint32_14) (by kernel_rfl) ?_
      refine wpE_region (id := 3) (ops := r_num_Fit_uint64_uint32_12) (by kernel_rfl) ?_
      refine reg_run [.plain, .plain] 2 [(2, [], Value.int .u64 0), (3, [], Value.bool false)] (by kernel_rfl) (by kernel_rfl) ?_
      refine reg_end [(2, Value.int .u64 0), (3, Value.bool false)] (by kernel_rfl) (by kernel_rfl) ?_
      change WpE _ _ c_num_Fit_uint64_uint32_14 _ _ _
      refine wpE_ret (by kernel_rfl) ?_
      repeat (first | refine seqQ_ret ?_ | refine blockQ_ret ?_ | refine loopQ_ret ?_ | refine cutQ_ret ?_)
      exact retT (rs := [(Go.ResultVar.tmp 2), (Go.ResultVar.tmp 3)]) (vs := [Value.int .u64 0, Value.bool false]) (by kernel_rfl) (⟨by kernel_rfl, ⟨by kernel_rfl, trivial⟩⟩) (by kernel_rfl) ⟨0, false, rfl, h⟩
    · replace h := h.2 hb
      refine wpE_skip (by kernel_rfl) ?_
      change WpE _ _ c_num_Fit_uint64_uint32_16 _ _ _
      refine wpE_seq (x := c_num_Fit_uint64_uint32_17) (y := c_num_Fit_uint64_uint32_19) (by kernel_rfl) ?_
      refine wpE_region (id := 4) (ops := r_num_Fit_uint64_uint32_17) (by kernel_rfl) ?_
      refine reg_run [.plain, .plain, .plain] 3 [(2, [], Value.int .u64 (IntKind.u64.wrap x)), (3, [], Value.bool true)] (by kernel_rfl) (by kernel_rfl) ?_
      refine reg_end [(2, Value.int .u64 (IntKind.u64.wrap x)), (3, Value.bool true)] (by kernel_rfl) (by kernel_rfl) ?_
      change WpE _ _ c_num_Fit_uint64_uint32_19 _ _ _
      refine wpE_ret (by kernel_rfl) ?_
      repeat (first | refine seqQ_ret ?_ | refine blockQ_ret ?_ | refine loopQ_ret ?_ | refine cutQ_ret ?_)
      exact retT (rs := [(Go.ResultVar.tmp 2), (Go.ResultVar.tmp 3)]) (vs := [Value.int .u64 (IntKind.u64.wrap x), Value.bool true]) (by kernel_rfl) (⟨by kernel_rfl, ⟨by kernel_rfl, trivial⟩⟩) (by kernel_rfl) ⟨(IntKind.u64.wrap x), true, rfl, h⟩
  · rintro e w' ⟨v, rfl, r0, r1, rfl, h⟩; exact ⟨r0, r1, rfl, h⟩

/-! ### towpath/towpathlaw01.alive (function 59) -/
noncomputable def c_towpathlaw01_alive_0 : Code := (Try.f59.body).getD Code.skip
noncomputable def c_towpathlaw01_alive_1 : Code := Code.l c_towpathlaw01_alive_0
noncomputable def r_towpathlaw01_alive_1 : Array Oper := Code.ops c_towpathlaw01_alive_1
noncomputable def c_towpathlaw01_alive_3 : Code := Code.r c_towpathlaw01_alive_0
noncomputable def c_towpathlaw01_alive_4 : Code := Code.l c_towpathlaw01_alive_3
noncomputable def r_towpathlaw01_alive_4 : Array Oper := Code.ops c_towpathlaw01_alive_4
noncomputable def c_towpathlaw01_alive_6 : Code := Code.r c_towpathlaw01_alive_3
noncomputable def c_towpathlaw01_alive_7 : Code := Code.l c_towpathlaw01_alive_6
noncomputable def r_towpathlaw01_alive_7 : Array Oper := Code.ops c_towpathlaw01_alive_7
noncomputable def c_towpathlaw01_alive_9 : Code := Code.r c_towpathlaw01_alive_6
noncomputable def c_towpathlaw01_alive_10 : Code := Code.l c_towpathlaw01_alive_9
noncomputable def r_towpathlaw01_alive_10 : Array Oper := Code.ops c_towpathlaw01_alive_10
noncomputable def c_towpathlaw01_alive_12 : Code := Code.r c_towpathlaw01_alive_9
noncomputable def c_towpathlaw01_alive_13 : Code := Code.l c_towpathlaw01_alive_12
noncomputable def r_towpathlaw01_alive_13 : Array Oper := Code.ops c_towpathlaw01_alive_13
noncomputable def c_towpathlaw01_alive_15 : Code := Code.r c_towpathlaw01_alive_12
noncomputable def c_towpathlaw01_alive_16 : Code := Code.l c_towpathlaw01_alive_15
noncomputable def r_towpathlaw01_alive_16 : Array Oper := Code.ops c_towpathlaw01_alive_16
noncomputable def c_towpathlaw01_alive_18 : Code := Code.r c_towpathlaw01_alive_15

set_option maxRecDepth 100000 in
theorem S_towpathlaw01_alive {w : World} {R : Bool → World → Prop} (h : F_towpathlaw01_alive R w) : C_towpathlaw01_alive w R := by
  unfold F_towpathlaw01_alive at h
  unfold C_towpathlaw01_alive
  refine Calls.mono (calls_of_wpE (args := []) (R := fun v w' => ∃ (r0 : Bool), v = Value.bool r0 ∧ R r0 w') Try.func59 (c := c_towpathlaw01_alive_0) (by kernel_rfl) 60 (by kernel_rfl) (by kernel_rfl) [] (by kernel_rfl) ?_) ?_
  · refine wpE_seq (x := c_towpathlaw01_alive_1) (y := c_towpathlaw01_alive_3) (by kernel_rfl) ?_
    refine wpE_region (id := 0) (ops := r_towpathlaw01_alive_1) (by kernel_rfl) ?_
    refine reg_run [.plain] 1 [] (by kernel_rfl) (by kernel_rfl) ?_
    refine reg_end [] (by kernel_rfl) (by kernel_rfl) ?_
    change WpE _ _ c_towpathlaw01_alive_3 _ _ _
    refine wpE_seq (x := c_towpathlaw01_alive_4) (y := c_towpathlaw01_alive_6) (by kernel_rfl) ?_
    refine wpE_region (id := 1) (ops := r_towpathlaw01_alive_4) (by kernel_rfl) ?_
    refine reg_run [] 0 [] (by kernel_rfl) (by kernel_rfl) ?_
    refine reg_enter (op := (Go.Op.call (Go.Call.mk (Go.Callee.value (Go.Operand.func 66)) #[(Go.Operand.const (Go.Value.int Go.IntKind.i64 127))] #[3]))) (ty := 23) (dst := some 10) 66 #[Value.int .i64 127] (by kernel_rfl) (fun ww => by kernel_rfl) (Calls.mono h ?_)
    rintro _ w1 ⟨a_, ok, rfl, h⟩
    refine ⟨_, rfl, ?_⟩
    refine reg_run [.plain, .plain, .plain, .plain, .plain] 6 [(1, [], Value.int .i8 a_), (2, [], Value.bool ok)] (by kernel_rfl) (by kernel_rfl) ?_
    refine reg_end [(1, Value.int .i8 a_), (2, Value.bool ok)] (by kernel_rfl) (by kernel_rfl) ?_
    change WpE _ _ c_towpathlaw01_alive_6 _ _ _
    refine wpE_seq (x := c_towpathlaw01_alive_7) (y := c_towpathlaw01_alive_9) (by kernel_rfl) ?_
    refine wpE_region (id := 2) (ops := r_towpathlaw01_alive_7) (by kernel_rfl) ?_
    refine reg_run [] 0 [(1, [], Value.int .i8 a_), (2, [], Value.bool ok)] (by kernel_rfl) (by kernel_rfl) ?_
    refine reg_enter (op := (Go.Op.call (Go.Call.mk (Go.Callee.value (Go.Operand.func 66)) #[(Go.Operand.const (Go.Value.int Go.IntKind.i64 128))] #[3]))) (ty := 23) (dst := some 14) 66 #[Value.int .i64 128] (by kernel_rfl) (fun ww => by kernel_rfl) (Calls.mono h ?_)
    rintro _ w2 ⟨v14, no, rfl, h⟩
    refine ⟨_, rfl, ?_⟩
    refine reg_run [.plain, .plain, .plain, .plain, .plain] 6 [(1, [], Value.int .i8 a_), (2, [], Value.bool ok), (4, [], Value.bool no)] (by kernel_rfl) (by kernel_rfl) ?_
    refine reg_end [(1, Value.int .i8 a_), (2, Value.bool ok), (4, Value.bool no)] (by kernel_rfl) (by kernel_rfl) ?_
    change WpE _ _ c_towpathlaw01_alive_9 _ _ _
    refine wpE_seq (x := c_towpathlaw01_alive_10) (y := c_towpathlaw01_alive_12) (by kernel_rfl) ?_
    refine wpE_region (id := 3) (ops := r_towpathlaw01_alive_10) (by kernel_rfl) ?_
    refine reg_run [] 0 [(1, [], Value.int .i8 a_), (2, [], Value.bool ok), (4, [], Value.bool no)] (by kernel_rfl) (by kernel_rfl) ?_
    refine reg_enter (op := (Go.Op.call (Go.Call.mk (Go.Callee.value (Go.Operand.func 46)) #[(Go.Operand.const (Go.Value.int Go.IntKind.u64 43981)), (Go.Operand.const (Go.Value.int Go.IntKind.i64 4)), (Go.Operand.const (Go.Value.int Go.IntKind.i64 8))] #[42, 3, 3]))) (ty := 43) (dst := some 18) 46 #[Value.int .u64 43981, Value.int .i64 4, Value.int .i64 8] (by kernel_rfl) (fun ww => by kernel_rfl) (Calls.mono h ?_)
    rintro _ w3 ⟨b_, is, rfl, h⟩
    refine ⟨_, rfl, ?_⟩
    refine reg_run [.plain, .plain, .plain, .plain, .plain] 6 [(1, [], Value.int .i8 a_), (2, [], Value.bool ok), (4, [], Value.bool no), (5, [], Value.int .u64 b_), (6, [], Value.bool is)] (by kernel_rfl) (by kernel_rfl) ?_
    refine reg_end [(1, Value.int .i8 a_), (2, Value.bool ok), (4, Value.bool no), (5, Value.int .u64 b_), (6, Value.bool is)] (by kernel_rfl) (by kernel_rfl) ?_
    change WpE _ _ c_towpathlaw01_alive_12 _ _ _
    refine wpE_seq (x := c_towpathlaw01_alive_13) (y := c_towpathlaw01_alive_15) (by kernel_rfl) ?_
    refine wpE_region (id := 4) (ops := r_towpathlaw01_alive_13) (by kernel_rfl) ?_
    refine reg_run [] 0 [(1, [], Value.int .i8 a_), (2, [], Value.bool ok), (4, [], Value.bool no), (5, [], Value.int .u64 b_), (6, [], Value.bool is)] (by kernel_rfl) (by kernel_rfl) ?_
    refine reg_enter (op := (Go.Op.call (Go.Call.mk (Go.Callee.value (Go.Operand.func 47)) #[(Go.Operand.const (Go.Value.int Go.IntKind.u64 43981)), (Go.Operand.const (Go.Value.int Go.IntKind.i64 4)), (Go.Operand.const (Go.Value.int Go.IntKind.i64 8)), (Go.Operand.const (Go.Value.int Go.IntKind.u64 18))] #[42, 3, 3, 42]))) (ty := 43) (dst := some 22) 47 #[Value.int .u64 43981, Value.int .i64 4, Value.int .i64 8, Value.int .u64 18] (by kernel_rfl) (fun ww => by kernel_rfl) (Calls.mono h ?_)
    rintro _ w4 ⟨c, put, rfl, h⟩
    refine ⟨_, rfl, ?_⟩
    refine reg_run [.plain, .plain, .plain, .plain, .plain] 6 [(1, [], Value.int .i8 a_), (2, [], Value.bool ok), (4, [], Value.bool no), (5, [], Value.int .u64 b_), (6, [], Value.bool is), (7, [], Value.int .u64 c), (8, [], Value.bool put)] (by kernel_rfl) (by kernel_rfl) ?_
    refine reg_end [(1, Value.int .i8 a_), (2, Value.bool ok), (4, Value.bool no), (5, Value.int .u64 b_), (6, Value.bool is), (7, Value.int .u64 c), (8, Value.bool put)] (by kernel_rfl) (by kernel_rfl) ?_
    change WpE _ _ c_towpathlaw01_alive_15 _ _ _
    refine wpE_seq (x := c_towpathlaw01_alive_16) (y := c_towpathlaw01_alive_18) (by kernel_rfl) ?_
    refine wpE_region (id := 5) (ops := r_towpathlaw01_alive_16) (by kernel_rfl) ?_
    refine reg_run [.plain, .plain, .plain, .plain, .pick, .plain, .plain, .plain, .pick, .plain, .plain, .plain, .pick, .plain, .plain, .pick, .plain, .plain, .plain, .pick, .plain, .plain, .pick, .plain] 24 [(48, [], Value.bool (((((((a_ == 127) && ok) && (!no)) && (b_ == 188)) && is) && (c == 41261)) && put))] (by kernel_rfl) (by kernel_rfl) ?_
    refine reg_split 48 (((((((a_ == 127) && ok) && (!no)) && (b_ == 188)) && is) && (c == 41261)) && put) (by kernel_rfl) (fun hb => ?_) (fun hb => ?_)
    · replace h := h.1 hb
      refine reg_run [] 24 [(48, [], Value.bool true)] (by kernel_rfl) (by kernel_rfl) ?_
      refine reg_run [] 24 [(48, [], Value.bool true)] (by kernel_rfl) (by kernel_rfl) ?_
      refine reg_enter (op := (Go.Op.call (Go.Call.mk (Go.Callee.value (Go.Operand.func 40)) #[(Go.Operand.const (Go.Value.int Go.IntKind.u32 2147483649)), (Go.Operand.const (Go.Value.int Go.IntKind.i64 1))] #[39, 3]))) (ty := 39) (dst := some 49) 40 #[Value.int .u32 2147483649, Value.int .i64 1] (by kernel_rfl) (fun ww => by kernel_rfl) (Calls.mono h ?_)
      rintro _ w5 ⟨v49, rfl, h⟩
      refine ⟨_, rfl, ?_⟩
      refine reg_run [.sure, .plain, .plain] 28 [(52, [], Value.bool (v49 == 3))] (by kernel_rfl) (by kernel_rfl) ?_
      refine reg_split 52 (v49 == 3) (by kernel_rfl) (fun hb => ?_) (fun hb => ?_)
      · replace h := h.1 hb
        refine reg_run [] 28 [(52, [], Value.bool true)] (by kernel_rfl) (by kernel_rfl) ?_
        refine reg_run [] 28 [(52, [], Value.bool true)] (by kernel_rfl) (by kernel_rfl) ?_
        refine reg_enter (op := (Go.Op.call (Go.Call.mk (Go.Callee.value (Go.Operand.func 42)) #[(Go.Operand.const (Go.Value.int Go.IntKind.i64 (-2)))] #[2]))) (ty := 42) (dst := some 53) 42 #[Value.int .i64 (-2)] (by kernel_rfl) (fun ww => by kernel_rfl) (Calls.mono h ?_)
        rintro _ w6 ⟨v53, rfl, h⟩
        refine ⟨_, rfl, ?_⟩
        refine reg_run [.sure, .plain, .plain] 32 [(56, [], Value.bool (v53 == 3))] (by kernel_rfl) (by kernel_rfl) ?_
        refine reg_split 56 (v53 == 3) (by kernel_rfl) (fun hb => ?_) (fun hb => ?_)
        · replace h := h.1 hb
          refine reg_run [] 32 [(56, [], Value.bool true)] (by kernel_rfl) (by kernel_rfl) ?_
          refine reg_run [] 32 [(56, [], Value.bool true)] (by kernel_rfl) (by kernel_rfl) ?_
          refine reg_enter (op := (Go.Op.call (Go.Call.mk (Go.Callee.value (Go.Operand.func 44)) #[(Go.Operand.const (Go.Value.int Go.IntKind.u64 3))] #[42]))) (ty := 2) (dst := some 57) 44 #[Value.int .u64 3] (by kernel_rfl) (fun ww => by kernel_rfl) (Calls.mono h ?_)
          rintro _ w7 ⟨v57, rfl, h⟩
          refine ⟨_, rfl, ?_⟩
          refine reg_run [.sure, .plain, .plain] 36 [(0, [], Value.bool (v57 == (-2)))] (by kernel_rfl) (by kernel_rfl) ?_
          refine reg_end [(0, Value.bool (v57 == (-2)))] (by kernel_rfl) (by kernel_rfl) ?_
          change WpE _ _ c_towpathlaw01_alive_18 _ _ _
          refine wpE_ret (by kernel_rfl) ?_
          repeat (first | refine seqQ_ret ?_ | refine blockQ_ret ?_ | refine loopQ_ret ?_ | refine cutQ_ret ?_)
          exact retS (rs := [(Go.ResultVar.tmp 0)]) (v := Value.bool (v57 == (-2))) (by kernel_rfl) (⟨by kernel_rfl, trivial⟩) ⟨(v57 == (-2)), rfl, h⟩
        · replace h := h.2 hb
          refine reg_run [] 32 [(56, [], Value.bool false)] (by kernel_rfl) (by kernel_rfl) ?_
          refine reg_run [.skip, .skip, .plain, .plain] 36 [(0, [], Value.bool false)] (by kernel_rfl) (by kernel_rfl) ?_
          refine reg_end [(0, Value.bool false)] (by kernel_rfl) (by kernel_rfl) ?_
          change WpE _ _ c_towpathlaw01_alive_18 _ _ _
          refine wpE_ret (by kernel_rfl) ?_
          repeat (first | refine seqQ_ret ?_ | refine blockQ_ret ?_ | refine loopQ_ret ?_ | refine cutQ_ret ?_)
          exact retS (rs := [(Go.ResultVar.tmp 0)]) (v := Value.bool false) (by kernel_rfl) (⟨by kernel_rfl, trivial⟩) ⟨false, rfl, h⟩
      · replace h := h.2 hb
        refine reg_run [] 28 [(52, [], Value.bool false)] (by kernel_rfl) (by kernel_rfl) ?_
        refine reg_run [.skip, .skip, .plain, .plain, .skip, .skip, .plain, .plain] 36 [(0, [], Value.bool false)] (by kernel_rfl) (by kernel_rfl) ?_
        refine reg_end [(0, Value.bool false)] (by kernel_rfl) (by kernel_rfl) ?_
        change WpE _ _ c_towpathlaw01_alive_18 _ _ _
        refine wpE_ret (by kernel_rfl) ?_
        repeat (first | refine seqQ_ret ?_ | refine blockQ_ret ?_ | refine loopQ_ret ?_ | refine cutQ_ret ?_)
        exact retS (rs := [(Go.ResultVar.tmp 0)]) (v := Value.bool false) (by kernel_rfl) (⟨by kernel_rfl, trivial⟩) ⟨false, rfl, h⟩
    · replace h := h.2 hb
      refine reg_run [] 24 [(48, [], Value.bool false)] (by kernel_rfl) (by kernel_rfl) ?_
      refine reg_run [.skip, .skip, .plain, .plain, .skip, .skip, .plain, .plain, .skip, .skip, .plain, .plain] 36 [(0, [], Value.bool false)] (by kernel_rfl) (by kernel_rfl) ?_
      refine reg_end [(0, Value.bool false)] (by kernel_rfl) (by kernel_rfl) ?_
      change WpE _ _ c_towpathlaw01_alive_18 _ _ _
      refine wpE_ret (by kernel_rfl) ?_
      repeat (first | refine seqQ_ret ?_ | refine blockQ_ret ?_ | refine loopQ_ret ?_ | refine cutQ_ret ?_)
      exact retS (rs := [(Go.ResultVar.tmp 0)]) (v := Value.bool false) (by kernel_rfl) (⟨by kernel_rfl, trivial⟩) ⟨false, rfl, h⟩
  · rintro e w' ⟨v, rfl, r0, rfl, h⟩; exact ⟨r0, rfl, h⟩

/-! ### towpath/towpathref01.power (function 60) -/
noncomputable def c_towpathref01_power_0 : Code := (Try.f60.body).getD Code.skip
noncomputable def c_towpathref01_power_1 : Code := Code.l c_towpathref01_power_0
noncomputable def r_towpathref01_power_1 : Array Oper := Code.ops c_towpathref01_power_1
noncomputable def c_towpathref01_power_3 : Code := Code.r c_towpathref01_power_0
noncomputable def c_towpathref01_power_4 : Code := Code.l c_towpathref01_power_3
noncomputable def r_towpathref01_power_4 : Array Oper := Code.ops c_towpathref01_power_4
noncomputable def c_towpathref01_power_6 : Code := Code.r c_towpathref01_power_3
noncomputable def c_towpathref01_power_7 : Code := Code.l c_towpathref01_power_6
noncomputable def c_towpathref01_power_8 : Code := Code.l c_towpathref01_power_7
noncomputable def r_towpathref01_power_8 : Array Oper := Code.ops c_towpathref01_power_8
noncomputable def c_towpathref01_power_10 : Code := Code.r c_towpathref01_power_7
noncomputable def c_towpathref01_power_11 : Code := Code.l c_towpathref01_power_10
noncomputable def c_towpathref01_power_12 : Code := Code.l c_towpathref01_power_11
noncomputable def c_towpathref01_power_13 : Code := Code.l c_towpathref01_power_12
noncomputable def c_towpathref01_power_14 : Code := Code.l c_towpathref01_power_13
noncomputable def r_towpathref01_power_14 : Array Oper := Code.ops c_towpathref01_power_14
noncomputable def c_towpathref01_power_16 : Code := Code.r c_towpathref01_power_13
noncomputable def c_towpathref01_power_17 : Code := Code.l c_towpathref01_power_16
noncomputable def c_towpathref01_power_18 : Code := Code.r c_towpathref01_power_16
noncomputable def c_towpathref01_power_19 : Code := Code.r c_towpathref01_power_12
noncomputable def c_towpathref01_power_20 : Code := Code.l c_towpathref01_power_19
noncomputable def c_towpathref01_power_21 : Code := Code.l c_towpathref01_power_20
noncomputable def r_towpathref01_power_21 : Array Oper := Code.ops c_towpathref01_power_21
noncomputable def c_towpathref01_power_23 : Code := Code.r c_towpathref01_power_19
noncomputable def r_towpathref01_power_23 : Array Oper := Code.ops c_towpathref01_power_23
noncomputable def c_towpathref01_power_25 : Code := Code.r c_towpathref01_power_6
noncomputable def c_towpathref01_power_26 : Code := Code.l c_towpathref01_power_25
noncomputable def r_towpathref01_power_26 : Array Oper := Code.ops c_towpathref01_power_26
noncomputable def c_towpathref01_power_28 : Code := Code.r c_towpathref01_power_25

set_option maxRecDepth 100000 in
theorem S_towpathref01_power {n_ : Int} {w : World} {R : Int → World → Prop} (h : F_towpathref01_power n_ R w) : C_towpathref01_power n_ w R := by
  unfold F_towpathref01_power at h
  unfold C_towpathref01_power
  refine Calls.mono (calls_of_wpE (args := [Value.int .i64 n_]) (R := fun v w' => ∃ (r0 : Int), v = Value.int .u64 r0 ∧ R r0 w') Try.func60 (c := c_towpathref01_power_0) (by kernel_rfl) 13 (by kernel_rfl) (by kernel_rfl) [(0, Value.int .i64 n_)] (by kernel_rfl) ?_) ?_
  · refine wpE_seq (x := c_towpathref01_power_1) (y := c_towpathref01_power_3) (by kernel_rfl) ?_
    refine wpE_region (id := 0) (ops := r_towpathref01_power_1) (by kernel_rfl) ?_
    refine reg_run [.plain] 1 [(0, [], Value.int .i64 n_)] (by kernel_rfl) (by kernel_rfl) ?_
    refine reg_end [(0, Value.int .i64 n_)] (by kernel_rfl) (by kernel_rfl) ?_
    change WpE _ _ c_towpathref01_power_3 _ _ _
    refine wpE_seq (x := c_towpathref01_power_4) (y := c_towpathref01_power_6) (by kernel_rfl) ?_
    refine wpE_region (id := 1) (ops := r_towpathref01_power_4) (by kernel_rfl) ?_
    refine reg_run [.plain] 1 [(0, [], Value.int .i64 n_), (3, [], Value.int .u64 1)] (by kernel_rfl) (by kernel_rfl) ?_
    refine reg_end [(0, Value.int .i64 n_), (3, Value.int .u64 1)] (by kernel_rfl) (by kernel_rfl) ?_
    change WpE _ _ c_towpathref01_power_6 _ _ _
    refine wpE_seq (x := c_towpathref01_power_7) (y := c_towpathref01_power_25) (by kernel_rfl) ?_
    refine wpE_seq (x := c_towpathref01_power_8) (y := c_towpathref01_power_10) (by kernel_rfl) ?_
    refine wpE_region (id := 2) (ops := r_towpathref01_power_8) (by kernel_rfl) ?_
    refine reg_run [.plain] 1 [(0, [], Value.int .i64 n_), (3, [], Value.int .u64 1), (4, [], Value.int .i64 0)] (by kernel_rfl) (by kernel_rfl) ?_
    refine reg_end [(0, Value.int .i64 n_), (3, Value.int .u64 1), (4, Value.int .i64 0)] (by kernel_rfl) (by kernel_rfl) ?_
    change WpE _ _ c_towpathref01_power_10 _ _ _
    refine wpE_block (id := 0) (x := c_towpathref01_power_11) (by kernel_rfl) ?_
    obtain ⟨I, μ, h0, hr⟩ := h
    refine wpE_loop (x := c_towpathref01_power_12) (by kernel_rfl) (fun m l w => ∃ (p : Int) (i : Int), l = [(0, Value.int .i64 n_), (3, Value.int .u64 p), (4, Value.int .i64 i)] ∧ I p i w ∧ μ p i w = m) (l' := [(0, Value.int .i64 n_), (3, Value.int .u64 1), (4, Value.int .i64 0)]) (Sub.mk (by kernel_rfl)) ⟨1, 0, rfl, h0, rfl⟩ ?_
    rintro _ _ w1 ⟨p, i, rfl, hI, rfl⟩
    obtain ⟨again_, again__h, h⟩ : ∃ again_ : Int → Int → World → Prop, (∀ p' i' w', again_ p' i' w' → I p' i' w' ∧ μ p' i' w' < μ p i w1) ∧ F_towpathref01_power_L0 n_ R again_ p i w1 := ⟨_, fun _ _ _ h => h, hr p i w1 hI⟩
    clear h0 hI
    unfold F_towpathref01_power_L0 at h
    refine wpE_seq (x := c_towpathref01_power_13) (y := c_towpathref01_power_19) (by kernel_rfl) ?_
    refine wpE_seq (x := c_towpathref01_power_14) (y := c_towpathref01_power_16) (by kernel_rfl) ?_
    refine wpE_region (id := 3) (ops := r_towpathref01_power_14) (by kernel_rfl) ?_
    refine reg_run [.plain, .plain, .plain] 3 [(0, [], Value.int .i64 n_), (3, [], Value.int .u64 p), (4, [], Value.int .i64 i), (7, [], Value.bool (decide (i < n_)))] (by kernel_rfl) (by kernel_rfl) ?_
    refine reg_end [(0, Value.int .i64 n_), (3, Value.int .u64 p), (4, Value.int .i64 i), (7, Value.bool (decide (i < n_)))] (by kernel_rfl) (by kernel_rfl) ?_
    change WpE _ _ c_towpathref01_power_16 _ _ _
    refine wpE_cond (o := (Operand.tmp 7)) (b := (decide (i < n_))) (x := c_towpathref01_power_17) (y := c_towpathref01_power_18) (by kernel_rfl) (by kernel_rfl) (fun hb => ?_) (fun hb => ?_)
    · replace h := h.1 hb
      refine wpE_skip (by kernel_rfl) ?_
      change WpE _ _ c_towpathref01_power_19 _ _ _
      refine wpE_seq (x := c_towpathref01_power_20) (y := c_towpathref01_power_23) (by kernel_rfl) ?_
      refine wpE_block (id := 1) (x := c_towpathref01_power_21) (by kernel_rfl) ?_
      refine wpE_region (id := 5) (ops := r_towpathref01_power_21) (by kernel_rfl) ?_
      refine reg_run [.plain, .plain, .plain] 3 [(0, [], Value.int .i64 n_), (3, [], Value.int .u64 (IntKind.u64.wrap (2 * p))), (4, [], Value.int .i64 i)] (by kernel_rfl) (by kernel_rfl) ?_
      refine reg_end [(0, Value.int .i64 n_), (3, Value.int .u64 (IntKind.u64.wrap (2 * p))), (4, Value.int .i64 i)] (by kernel_rfl) (by kernel_rfl) ?_
      change WpE _ _ c_towpathref01_power_23 _ _ _
      refine wpE_region (id := 4) (ops := r_towpathref01_power_23) (by kernel_rfl) ?_
      refine reg_run [.plain, .plain, .plain] 3 [(0, [], Value.int .i64 n_), (3, [], Value.int .u64 (IntKind.u64.wrap (2 * p))), (4, [], Value.int .i64 (IntKind.i64.wrap (i + 1)))] (by kernel_rfl) (by kernel_rfl) ?_
      refine reg_end [(0, Value.int .i64 n_), (3, Value.int .u64 (IntKind.u64.wrap (2 * p))), (4, Value.int .i64 (IntKind.i64.wrap (i + 1)))] (by kernel_rfl) (by kernel_rfl) ?_
      have hb_ := again__h _ _ _ h
      exact ⟨_, hb_.2, [(0, Value.int .i64 n_), (3, Value.int .u64 (IntKind.u64.wrap (2 * p))), (4, Value.int .i64 (IntKind.i64.wrap (i + 1)))], Sub.mk (by kernel_rfl), (IntKind.u64.wrap (2 * p)), (IntKind.i64.wrap (i + 1)), rfl, hb_.1, rfl⟩
    · replace h := h.2 hb
      refine wpE_exit (id := 0) (by kernel_rfl) ?_
      change WpE _ _ c_towpathref01_power_25 _ _ _
      refine wpE_seq (x := c_towpathref01_power_26) (y := c_towpathref01_power_28) (by kernel_rfl) ?_
      refine wpE_region (id := 6) (ops := r_towpathref01_power_26) (by kernel_rfl) ?_
      refine reg_run [.plain, .plain] 2 [(2, [], Value.int .u64 p)] (by kernel_rfl) (by kernel_rfl) ?_
      refine reg_end [(2, Value.int .u64 p)] (by kernel_rfl) (by kernel_rfl) ?_
      change WpE _ _ c_towpathref01_power_28 _ _ _
      refine wpE_ret (by kernel_rfl) ?_
      repeat (first | refine seqQ_ret ?_ | refine blockQ_ret ?_ | refine loopQ_ret ?_ | refine cutQ_ret ?_)
      exact retS (rs := [(Go.ResultVar.tmp 2)]) (v := Value.int .u64 p) (by kernel_rfl) (⟨by kernel_rfl, trivial⟩) ⟨p, rfl, h⟩
  · rintro e w' ⟨v, rfl, r0, rfl, h⟩; exact ⟨r0, rfl, h⟩

/-! ### math/bits.RotateLeft32 (function 61) -/
noncomputable def c_math_bits_RotateLeft32_0 : Code := (Try.f61.body).getD Code.skip
noncomputable def c_math_bits_RotateLeft32_1 : Code := Code.l c_math_bits_RotateLeft32_0
noncomputable def r_math_bits_RotateLeft32_1 : Array Oper := Code.ops c_math_bits_RotateLeft32_1
noncomputable def c_math_bits_RotateLeft32_3 : Code := Code.r c_math_bits_RotateLeft32_0
noncomputable def c_math_bits_RotateLeft32_4 : Code := Code.l c_math_bits_RotateLeft32_3
noncomputable def r_math_bits_RotateLeft32_4 : Array Oper := Code.ops c_math_bits_RotateLeft32_4
noncomputable def c_math_bits_RotateLeft32_6 : Code := Code.r c_math_bits_RotateLeft32_3
noncomputable def c_math_bits_RotateLeft32_7 : Code := Code.l c_math_bits_RotateLeft32_6
noncomputable def r_math_bits_RotateLeft32_7 : Array Oper := Code.ops c_math_bits_RotateLeft32_7
noncomputable def c_math_bits_RotateLeft32_9 : Code := Code.r c_math_bits_RotateLeft32_6

set_option maxRecDepth 100000 in
theorem S_math_bits_RotateLeft32 {x : Int} {k : Int} {w : World} {R : Int → World → Prop} (h : F_math_bits_RotateLeft32 x k R w) : C_math_bits_RotateLeft32 x k w R := by
  unfold F_math_bits_RotateLeft32 at h
  unfold C_math_bits_RotateLeft32
  refine Calls.mono (calls_of_wpE (args := [Value.int .u32 x, Value.int .i64 k]) (R := fun v w' => ∃ (r0 : Int), v = Value.int .u32 r0 ∧ R r0 w') Try.func61 (c := c_math_bits_RotateLeft32_0) (by kernel_rfl) 17 (by kernel_rfl) (by kernel_rfl) [(0, Value.int .u32 x), (1, Value.int .i64 k)] (by kernel_rfl) ?_) ?_
  · refine wpE_seq (x := c_math_bits_RotateLeft32_1) (y := c_math_bits_RotateLeft32_3) (by kernel_rfl) ?_
    refine wpE_region (id := 0) (ops := r_math_bits_RotateLeft32_1) (by kernel_rfl) ?_
    refine reg_run [.plain] 1 [(0, [], Value.int .u32 x), (1, [], Value.int .i64 k)] (by kernel_rfl) (by kernel_rfl) ?_
    refine reg_end [(0, Value.int .u32 x), (1, Value.int .i64 k)] (by kernel_rfl) (by kernel_rfl) ?_
    change WpE _ _ c_math_bits_RotateLeft32_3 _ _ _
    refine wpE_seq (x := c_math_bits_RotateLeft32_4) (y := c_math_bits_RotateLeft32_6) (by kernel_rfl) ?_
    refine wpE_region (id := 1) (ops := r_math_bits_RotateLeft32_4) (by kernel_rfl) ?_
    refine reg_run [.plain, .plain, .plain, .plain] 4 [(0, [], Value.int .u32 x), (5, [], Value.int .u64 (band .u64 (IntKind.u64.wrap k) 31))] (by kernel_rfl) (by kernel_rfl) ?_
    refine reg_end [(0, Value.int .u32 x), (5, Value.int .u64 (band .u64 (IntKind.u64.wrap k) 31))] (by kernel_rfl) (by kernel_rfl) ?_
    change WpE _ _ c_math_bits_RotateLeft32_6 _ _ _
    refine wpE_seq (x := c_math_bits_RotateLeft32_7) (y := c_math_bits_RotateLeft32_9) (by kernel_rfl) ?_
    refine wpE_region (id := 2) (ops := r_math_bits_RotateLeft32_7) (by kernel_rfl) ?_
    refine reg_run [.plain, .plain] 2 [(0, [], Value.int .u32 x), (5, [], Value.int .u64 (band .u64 (IntKind.u64.wrap k) 31)), (9, [], Value.int .u32 x), (10, [], Value.int .u64 (band .u64 (IntKind.u64.wrap k) 31))] (by kernel_rfl) (by kernel_rfl) ?_
    obtain ⟨h0, h⟩ := h
    refine reg_val (op := (Go.Op.binOp Go.BinOp.shl 39 (Go.Operand.tmp 9) (Go.Operand.tmp 10) 89)) (ty := 39) (dst := some 11) (Value.int .u32 (IntKind.u32.wrap (x * 2 ^ (min (band .u64 (IntKind.u64.wrap k) 31).toNat 32)))) (by kernel_rfl) (fun ww => run_shl (k' := .u64) (by kernel_rfl) (by kernel_rfl) (by kernel_rfl) h0 ww) ?_
    refine reg_run [.plain, .plain, .plain] 6 [(11, [], Value.int .u32 (IntKind.u32.wrap (x * 2 ^ (min (band .u64 (IntKind.u64.wrap k) 31).toNat 32)))), (12, [], Value.int .u32 x), (14, [], Value.int .u64 (IntKind.u64.wrap (32 - (band .u64 (IntKind.u64.wrap k) 31))))] (by kernel_rfl) (by kernel_rfl) ?_
    obtain ⟨h0, h⟩ := h
    refine reg_val (op := (Go.Op.binOp Go.BinOp.shr 39 (Go.Operand.tmp 12) (Go.Operand.tmp 14) 89)) (ty := 39) (dst := some 15) (Value.int .u32 (Int.fdiv x (2 ^ (min (IntKind.u64.wrap (32 - (band .u64 (IntKind.u64.wrap k) 31))).toNat 32)))) (by kernel_rfl) (fun ww => run_shr (k' := .u64) (by kernel_rfl) (by kernel_rfl) (by kernel_rfl) h0 ww) ?_
    refine reg_run [.plain, .plain] 9 [(4, [], Value.int .u32 (bor .u32 (IntKind.u32.wrap (x * 2 ^ (min (band .u64 (IntKind.u64.wrap k) 31).toNat 32))) (Int.fdiv x (2 ^ (min (IntKind.u64.wrap (32 - (band .u64 (IntKind.u64.wrap k) 31))).toNat 32)))))] (by kernel_rfl) (by kernel_rfl) ?_
    refine reg_end [(4, Value.int .u32 (bor .u32 (IntKind.u32.wrap (x * 2 ^ (min (band .u64 (IntKind.u64.wrap k) 31).toNat 32))) (Int.fdiv x (2 ^ (min (IntKind.u64.wrap (32 - (band .u64 (IntKind.u64.wrap k) 31))).toNat 32)))))] (by kernel_rfl) (by kernel_rfl) ?_
    change WpE _ _ c_math_bits_RotateLeft32_9 _ _ _
    refine wpE_ret (by kernel_rfl) ?_
    repeat (first | refine seqQ_ret ?_ | refine blockQ_ret ?_ | refine loopQ_ret ?_ | refine cutQ_ret ?_)
    exact retS (rs := [(Go.ResultVar.tmp 4)]) (v := Value.int .u32 (bor .u32 (IntKind.u32.wrap (x * 2 ^ (min (band .u64 (IntKind.u64.wrap k) 31).toNat 32))) (Int.fdiv x (2 ^ (min (IntKind.u64.wrap (32 - (band .u64 (IntKind.u64.wrap k) 31))).toNat 32))))) (by kernel_rfl) (⟨by kernel_rfl, trivial⟩) ⟨(bor .u32 (IntKind.u32.wrap (x * 2 ^ (min (band .u64 (IntKind.u64.wrap k) 31).toNat 32))) (Int.fdiv x (2 ^ (min (IntKind.u64.wrap (32 - (band .u64 (IntKind.u64.wrap k) 31))).toNat 32)))), rfl, h⟩
  · rintro e w' ⟨v, rfl, r0, rfl, h⟩; exact ⟨r0, rfl, h⟩

/-! ### towpath/num.many (function 62) -/
noncomputable def c_num_many_0 : Code := (Try.f62.body).getD Code.skip
noncomputable def c_num_many_1 : Code := Code.l c_num_many_0
noncomputable def r_num_many_1 : Array Oper := Code.ops c_num_many_1
noncomputable def c_num_many_3 : Code := Code.r c_num_many_0
noncomputable def c_num_many_4 : Code := Code.l c_num_many_3
noncomputable def r_num_many_4 : Array Oper := Code.ops c_num_many_4
noncomputable def c_num_many_6 : Code := Code.r c_num_many_3

set_option maxRecDepth 100000 in
theorem S_num_many {from_ : Int} {n_ : Int} {w : World} {R : Bool → World → Prop} (h : F_num_many from_ n_ R w) : C_num_many from_ n_ w R := by
  unfold F_num_many at h
  unfold C_num_many
  refine Calls.mono (calls_of_wpE (args := [Value.int .i64 from_, Value.int .i64 n_]) (R := fun v w' => ∃ (r0 : Bool), v = Value.bool r0 ∧ R r0 w') Try.func62 (c := c_num_many_0) (by kernel_rfl) 21 (by kernel_rfl) (by kernel_rfl) [(0, Value.int .i64 from_), (1, Value.int .i64 n_)] (by kernel_rfl) ?_) ?_
  · refine wpE_seq (x := c_num_many_1) (y := c_num_many_3) (by kernel_rfl) ?_
    refine wpE_region (id := 0) (ops := r_num_many_1) (by kernel_rfl) ?_
    refine reg_run [.plain] 1 [(0, [], Value.int .i64 from_), (1, [], Value.int .i64 n_)] (by kernel_rfl) (by kernel_rfl) ?_
    refine reg_end [(0, Value.int .i64 from_), (1, Value.int .i64 n_)] (by kernel_rfl) (by kernel_rfl) ?_
    change WpE _ _ c_num_many_3 _ _ _
    refine wpE_seq (x := c_num_many_4) (y := c_num_many_6) (by kernel_rfl) ?_
    refine wpE_region (id := 1) (ops := r_num_many_4) (by kernel_rfl) ?_
    refine reg_run [.plain, .plain, .plain, .plain, .plain, .pick, .plain, .plain, .plain, .pick, .plain, .plain, .plain, .plain, .plain, .pick, .plain] 17 [(4, [], Value.bool ((((decide (from_ ≥ 0)) && (decide (n_ ≥ 0))) && (decide (from_ ≤ 64))) && (decide (n_ ≤ (IntKind.i64.wrap (64 - from_))))))] (by kernel_rfl) (by kernel_rfl) ?_
    refine reg_end [(4, Value.bool ((((decide (from_ ≥ 0)) && (decide (n_ ≥ 0))) && (decide (from_ ≤ 64))) && (decide (n_ ≤ (IntKind.i64.wrap (64 - from_))))))] (by kernel_rfl) (by kernel_rfl) ?_
    change WpE _ _ c_num_many_6 _ _ _
    refine wpE_ret (by kernel_rfl) ?_
    repeat (first | refine seqQ_ret ?_ | refine blockQ_ret ?_ | refine loopQ_ret ?_ | refine cutQ_ret ?_)
    exact retS (rs := [(Go.ResultVar.tmp 4)]) (v := Value.bool ((((decide (from_ ≥ 0)) && (decide (n_ ≥ 0))) && (decide (from_ ≤ 64))) && (decide (n_ ≤ (IntKind.i64.wrap (64 - from_)))))) (by kernel_rfl) (⟨by kernel_rfl, trivial⟩) ⟨((((decide (from_ ≥ 0)) && (decide (n_ ≥ 0))) && (decide (from_ ≤ 64))) && (decide (n_ ≤ (IntKind.i64.wrap (64 - from_))))), rfl, h⟩
  · rintro e w' ⟨v, rfl, r0, rfl, h⟩; exact ⟨r0, rfl, h⟩

/-! ### towpath/towpathref01.Many (function 63) -/
noncomputable def c_towpathref01_Many_0 : Code := (Try.f63.body).getD Code.skip
noncomputable def c_towpathref01_Many_1 : Code := Code.l c_towpathref01_Many_0
noncomputable def r_towpathref01_Many_1 : Array Oper := Code.ops c_towpathref01_Many_1
noncomputable def c_towpathref01_Many_3 : Code := Code.r c_towpathref01_Many_0
noncomputable def c_towpathref01_Many_4 : Code := Code.l c_towpathref01_Many_3
noncomputable def r_towpathref01_Many_4 : Array Oper := Code.ops c_towpathref01_Many_4
noncomputable def c_towpathref01_Many_6 : Code := Code.r c_towpathref01_Many_3

set_option maxRecDepth 100000 in
theorem S_towpathref01_Many {from_ : Int} {n_ : Int} {w : World} {R : Bool → World → Prop} (h : F_towpathref01_Many from_ n_ R w) : C_towpathref01_Many from_ n_ w R := by
  unfold F_towpathref01_Many at h
  unfold C_towpathref01_Many
  refine Calls.mono (calls_of_wpE (args := [Value.int .i64 from_, Value.int .i64 n_]) (R := fun v w' => ∃ (r0 : Bool), v = Value.bool r0 ∧ R r0 w') Try.func63 (c := c_towpathref01_Many_0) (by kernel_rfl) 21 (by kernel_rfl) (by kernel_rfl) [(0, Value.int .i64 from_), (1, Value.int .i64 n_)] (by kernel_rfl) ?_) ?_
  · refine wpE_seq (x := c_towpathref01_Many_1) (y := c_towpathref01_Many_3) (by kernel_rfl) ?_
    refine wpE_region (id := 0) (ops := r_towpathref01_Many_1) (by kernel_rfl) ?_
    refine reg_run [.plain] 1 [(0, [], Value.int .i64 from_), (1, [], Value.int .i64 n_)] (by kernel_rfl) (by kernel_rfl) ?_
    refine reg_end [(0, Value.int .i64 from_), (1, Value.int .i64 n_)] (by kernel_rfl) (by kernel_rfl) ?_
    change WpE _ _ c_towpathref01_Many_3 _ _ _
    refine wpE_seq (x := c_towpathref01_Many_4) (y := c_towpathref01_Many_6) (by kernel_rfl) ?_
    refine wpE_region (id := 1) (ops := r_towpathref01_Many_4) (by kernel_rfl) ?_
    refine reg_run [.plain, .plain, .plain, .plain, .plain, .pick, .plain, .plain, .plain, .pick, .plain, .plain, .plain, .plain, .plain, .pick, .plain] 17 [(4, [], Value.bool ((((decide (from_ ≥ 0)) && (decide (n_ ≥ 0))) && (decide (from_ ≤ 64))) && (decide (n_ ≤ (IntKind.i64.wrap (64 - from_))))))] (by kernel_rfl) (by kernel_rfl) ?_
    refine reg_end [(4, Value.bool ((((decide (from_ ≥ 0)) && (decide (n_ ≥ 0))) && (decide (from_ ≤ 64))) && (decide (n_ ≤ (IntKind.i64.wrap (64 - from_))))))] (by kernel_rfl) (by kernel_rfl) ?_
    change WpE _ _ c_towpathref01_Many_6 _ _ _
    refine wpE_ret (by kernel_rfl) ?_
    repeat (first | refine seqQ_ret ?_ | refine blockQ_ret ?_ | refine loopQ_ret ?_ | refine cutQ_ret ?_)
    exact retS (rs := [(Go.ResultVar.tmp 4)]) (v := Value.bool ((((decide (from_ ≥ 0)) && (decide (n_ ≥ 0))) && (decide (from_ ≤ 64))) && (decide (n_ ≤ (IntKind.i64.wrap (64 - from_)))))) (by kernel_rfl) (⟨by kernel_rfl, trivial⟩) ⟨((((decide (from_ ≥ 0)) && (decide (n_ ≥ 0))) && (decide (from_ ≤ 64))) && (decide (n_ ≤ (IntKind.i64.wrap (64 - from_))))), rfl, h⟩
  · rintro e w' ⟨v, rfl, r0, rfl, h⟩; exact ⟨r0, rfl, h⟩

/-! ### towpath/towpathref01.bit (function 64) -/
noncomputable def c_towpathref01_bit_0 : Code := (Try.f64.body).getD Code.skip
noncomputable def c_towpathref01_bit_1 : Code := Code.l c_towpathref01_bit_0
noncomputable def r_towpathref01_bit_1 : Array Oper := Code.ops c_towpathref01_bit_1
noncomputable def c_towpathref01_bit_3 : Code := Code.r c_towpathref01_bit_0
noncomputable def c_towpathref01_bit_4 : Code := Code.l c_towpathref01_bit_3
noncomputable def c_towpathref01_bit_5 : Code := Code.l c_towpathref01_bit_4
noncomputable def r_towpathref01_bit_5 : Array Oper := Code.ops c_towpathref01_bit_5
noncomputable def c_towpathref01_bit_7 : Code := Code.r c_towpathref01_bit_4
noncomputable def c_towpathref01_bit_8 : Code := Code.l c_towpathref01_bit_7
noncomputable def c_towpathref01_bit_9 : Code := Code.l c_towpathref01_bit_8
noncomputable def c_towpathref01_bit_10 : Code := Code.l c_towpathref01_bit_9
noncomputable def c_towpathref01_bit_11 : Code := Code.l c_towpathref01_bit_10
noncomputable def r_towpathref01_bit_11 : Array Oper := Code.ops c_towpathref01_bit_11
noncomputable def c_towpathref01_bit_13 : Code := Code.r c_towpathref01_bit_10
noncomputable def c_towpathref01_bit_14 : Code := Code.l c_towpathref01_bit_13
noncomputable def c_towpathref01_bit_15 : Code := Code.r c_towpathref01_bit_13
noncomputable def c_towpathref01_bit_16 : Code := Code.r c_towpathref01_bit_9
noncomputable def c_towpathref01_bit_17 : Code := Code.l c_towpathref01_bit_16
noncomputable def c_towpathref01_bit_18 : Code := Code.l c_towpathref01_bit_17
noncomputable def r_towpathref01_bit_18 : Array Oper := Code.ops c_towpathref01_bit_18
noncomputable def c_towpathref01_bit_20 : Code := Code.r c_towpathref01_bit_16
noncomputable def r_towpathref01_bit_20 : Array Oper := Code.ops c_towpathref01_bit_20
noncomputable def c_towpathref01_bit_22 : Code := Code.r c_towpathref01_bit_3
noncomputable def c_towpathref01_bit_23 : Code := Code.l c_towpathref01_bit_22
noncomputable def r_towpathref01_bit_23 : Array Oper := Code.ops c_towpathref01_bit_23
noncomputable def c_towpathref01_bit_25 : Code := Code.r c_towpathref01_bit_22

set_option maxRecDepth 100000 in
theorem S_towpathref01_bit {x : Int} {at_ : Int} {w : World} {R : Int → World → Prop} (h : F_towpathref01_bit x at_ R w) : C_towpathref01_bit x at_ w R := by
  unfold F_towpathref01_bit at h
  unfold C_towpathref01_bit
  refine Calls.mono (calls_of_wpE (args := [Value.int .u64 x, Value.int .i64 at_]) (R := fun v w' => ∃ (r0 : Int), v = Value.int .u64 r0 ∧ R r0 w') Try.func64 (c := c_towpathref01_bit_0) (by kernel_rfl) 15 (by kernel_rfl) (by kernel_rfl) [(0, Value.int .u64 x), (1, Value.int .i64 at_)] (by kernel_rfl) ?_) ?_
  · refine wpE_seq (x := c_towpathref01_bit_1) (y := c_towpathref01_bit_3) (by kernel_rfl) ?_
    refine wpE_region (id := 0) (ops := r_towpathref01_bit_1) (by kernel_rfl) ?_
    refine reg_run [.plain] 1 [(0, [], Value.int .u64 x), (1, [], Value.int .i64 at_)] (by kernel_rfl) (by kernel_rfl) ?_
    refine reg_end [(0, Value.int .u64 x), (1, Value.int .i64 at_)] (by kernel_rfl) (by kernel_rfl) ?_
    change WpE _ _ c_towpathref01_bit_3 _ _ _
    refine wpE_seq (x := c_towpathref01_bit_4) (y := c_towpathref01_bit_22) (by kernel_rfl) ?_
    refine wpE_seq (x := c_towpathref01_bit_5) (y := c_towpathref01_bit_7) (by kernel_rfl) ?_
    refine wpE_region (id := 1) (ops := r_towpathref01_bit_5) (by kernel_rfl) ?_
    refine reg_run [.plain] 1 [(0, [], Value.int .u64 x), (1, [], Value.int .i64 at_), (5, [], Value.int .i64 0)] (by kernel_rfl) (by kernel_rfl) ?_
    refine reg_end [(0, Value.int .u64 x), (1, Value.int .i64 at_), (5, Value.int .i64 0)] (by kernel_rfl) (by kernel_rfl) ?_
    change WpE _ _ c_towpathref01_bit_7 _ _ _
    refine wpE_block (id := 0) (x := c_towpathref01_bit_8) (by kernel_rfl) ?_
    obtain ⟨I, μ, h0, hr⟩ := h
    refine wpE_loop (x := c_towpathref01_bit_9) (by kernel_rfl) (fun m l w => ∃ (x1 : Int) (i : Int), l = [(0, Value.int .u64 x1), (1, Value.int .i64 at_), (5, Value.int .i64 i)] ∧ I x1 i w ∧ μ x1 i w = m) (l' := [(0, Value.int .u64 x), (1, Value.int .i64 at_), (5, Value.int .i64 0)]) (Sub.mk (by kernel_rfl)) ⟨x, 0, rfl, h0, rfl⟩ ?_
    rintro _ _ w1 ⟨x1, i, rfl, hI, rfl⟩
    obtain ⟨again_, again__h, h⟩ : ∃ again_ : Int → Int → World → Prop, (∀ x1' i' w', again_ x1' i' w' → I x1' i' w' ∧ μ x1' i' w' < μ x1 i w1) ∧ F_towpathref01_bit_L0 at_ R again_ x1 i w1 := ⟨_, fun _ _ _ h => h, hr x1 i w1 hI⟩
    clear h0 hI
    unfold F_towpathref01_bit_L0 at h
    refine wpE_seq (x := c_towpathref01_bit_10) (y := c_towpathref01_bit_16) (by kernel_rfl) ?_
    refine wpE_seq (x := c_towpathref01_bit_11) (y := c_towpathref01_bit_13) (by kernel_rfl) ?_
    refine wpE_region (id := 2) (ops := r_towpathref01_bit_11) (by kernel_rfl) ?_
    refine reg_run [.plain, .plain, .plain] 3 [(0, [], Value.int .u64 x1), (1, [], Value.int .i64 at_), (5, [], Value.int .i64 i), (8, [], Value.bool (decide (i < at_)))] (by kernel_rfl) (by kernel_rfl) ?_
    refine reg_end [(0, Value.int .u64 x1), (1, Value.int .i64 at_), (5, Value.int .i64 i), (8, Value.bool (decide (i < at_)))] (by kernel_rfl) (by kernel_rfl) ?_
    change WpE _ _ c_towpathref01_bit_13 _ _ _
    refine wpE_cond (o := (Operand.tmp 8)) (b := (decide (i < at_))) (x := c_towpathref01_bit_14) (y := c_towpathref01_bit_15) (by kernel_rfl) (by kernel_rfl) (fun hb => ?_) (fun hb => ?_)
    · replace h := h.1 hb
      refine wpE_skip (by kernel_rfl) ?_
      change WpE _ _ c_towpathref01_bit_16 _ _ _
      refine wpE_seq (x := c_towpathref01_bit_17) (y := c_towpathref01_bit_20) (by kernel_rfl) ?_
      refine wpE_block (id := 1) (x := c_towpathref01_bit_18) (by kernel_rfl) ?_
      refine wpE_region (id := 4) (ops := r_towpathref01_bit_18) (by kernel_rfl) ?_
      refine reg_run [.plain, .plain, .plain] 3 [(0, [], Value.int .u64 (IntKind.u64.wrap (Int.tdiv x1 2))), (1, [], Value.int .i64 at_), (5, [], Value.int .i64 i)] (by kernel_rfl) (by kernel_rfl) ?_
      refine reg_end [(0, Value.int .u64 (IntKind.u64.wrap (Int.tdiv x1 2))), (1, Value.int .i64 at_), (5, Value.int .i64 i)] (by kernel_rfl) (by kernel_rfl) ?_
      change WpE _ _ c_towpathref01_bit_20 _ _ _
      refine wpE_region (id := 3) (ops := r_towpathref01_bit_20) (by kernel_rfl) ?_
      refine reg_run [.plain, .plain, .plain] 3 [(0, [], Value.int .u64 (IntKind.u64.wrap (Int.tdiv x1 2))), (1, [], Value.int .i64 at_), (5, [], Value.int .i64 (IntKind.i64.wrap (i + 1)))] (by kernel_rfl) (by kernel_rfl) ?_
      refine reg_end [(0, Value.int .u64 (IntKind.u64.wrap (Int.tdiv x1 2))), (1, Value.int .i64 at_), (5, Value.int .i64 (IntKind.i64.wrap (i + 1)))] (by kernel_rfl) (by kernel_rfl) ?_
      have hb_ := again__h _ _ _ h
      exact ⟨_, hb_.2, [(0, Value.int .u64 (IntKind.u64.wrap (Int.tdiv x1 2))), (1, Value.int .i64 at_), (5, Value.int .i64 (IntKind.i64.wrap (i + 1)))], Sub.mk (by kernel_rfl), (IntKind.u64.wrap (Int.tdiv x1 2)), (IntKind.i64.wrap (i + 1)), rfl, hb_.1, rfl⟩
    · replace h := h.2 hb
      refine wpE_exit (id := 0) (by kernel_rfl) ?_
      change WpE _ _ c_towpathref01_bit_22 _ _ _
      refine wpE_seq (x := c_towpathref01_bit_23) (y := c_towpathref01_bit_25) (by kernel_rfl) ?_
      refine wpE_region (id := 5) (ops := r_towpathref01_bit_23) (by kernel_rfl) ?_
      refine reg_run [.plain, .plain, .plain] 3 [(4, [], Value.int .u64 (Int.tmod x1 2))] (by kernel_rfl) (by kernel_rfl) ?_
      refine reg_end [(4, Value.int .u64 (Int.tmod x1 2))] (by kernel_rfl) (by kernel_rfl) ?_
      change WpE _ _ c_towpathref01_bit_25 _ _ _
      refine wpE_ret (by kernel_rfl) ?_
      repeat (first | refine seqQ_ret ?_ | refine blockQ_ret ?_ | refine loopQ_ret ?_ | refine cutQ_ret ?_)
      exact retS (rs := [(Go.ResultVar.tmp 4)]) (v := Value.int .u64 (Int.tmod x1 2)) (by kernel_rfl) (⟨by kernel_rfl, trivial⟩) ⟨(Int.tmod x1 2), rfl, h⟩
  · rintro e w' ⟨v, rfl, r0, rfl, h⟩; exact ⟨r0, rfl, h⟩

/-! ### towpath/num.Fit[int8,int] (function 66) -/
noncomputable def c_num_Fit_int8_int_0 : Code := (Try.f66.body).getD Code.skip
noncomputable def c_num_Fit_int8_int_1 : Code := Code.l c_num_Fit_int8_int_0
noncomputable def r_num_Fit_int8_int_1 : Array Oper := Code.ops c_num_Fit_int8_int_1
noncomputable def c_num_Fit_int8_int_3 : Code := Code.r c_num_Fit_int8_int_0
noncomputable def c_num_Fit_int8_int_4 : Code := Code.l c_num_Fit_int8_int_3
noncomputable def r_num_Fit_int8_int_4 : Array Oper := Code.ops c_num_Fit_int8_int_4
noncomputable def c_num_Fit_int8_int_6 : Code := Code.r c_num_Fit_int8_int_3
noncomputable def c_num_Fit_int8_int_7 : Code := Code.l c_num_Fit_int8_int_6
noncomputable def c_num_Fit_int8_int_8 : Code := Code.l c_num_Fit_int8_int_7
noncomputable def r_num_Fit_int8_int_8 : Array Oper := Code.ops c_num_Fit_int8_int_8
noncomputable def c_num_Fit_int8_int_10 : Code := Code.r c_num_Fit_int8_int_7
noncomputable def c_num_Fit_int8_int_11 : Code := Code.l c_num_Fit_int8_int_10
noncomputable def c_num_Fit_int8_int_12 : Code := Code.l c_num_Fit_int8_int_11
noncomputable def r_num_Fit_int8_int_12 : Array Oper := Code.ops c_num_Fit_int8_int_12
noncomputable def c_num_Fit_int8_int_14 : Code := Code.r c_num_Fit_int8_int_11
noncomputable def c_num_Fit_int8_int_15 : Code := Code.r c_num_Fit_int8_int_10
noncomputable def c_num_Fit_int8_int_16 : Code := Code.r c_num_Fit_int8_int_6
noncomputable def c_num_Fit_int8_int_17 : Code := Code.l c_num_Fit_int8_int_16
noncomputable def r_num_Fit_int8_int_17 : Array Oper := Code.ops c_num_Fit_int8_int_17
noncomputable def c_num_Fit_int8_int_19 : Code := Code.r c_num_Fit_int8_int_16

set_option maxRecDepth 100000 in
theorem S_num_Fit_int8_int {x : Int} {w : World} {R : Int → Bool → World → Prop} (h : F_num_Fit_int8_int x R w) : C_num_Fit_int8_int x w R := by
  unfold F_num_Fit_int8_int at h
  unfold C_num_Fit_int8_int
  refine Calls.mono (calls_of_wpE (args := [Value.int .i64 x]) (R := fun v w' => ∃ (r0 : Int) (r1 : Bool), v = Value.tuple #[Value.int .i8 r0, Value.bool r1] ∧ R r0 r1 w') Try.func66 (c := c_num_Fit_int8_int_0) (by kernel_rfl) 19 (by kernel_rfl) (by kernel_rfl) [(0, Value.int .i64 x)] (by kernel_rfl) ?_) ?_
  · refine wpE_seq (x := c_num_Fit_int8_int_1) (y := c_num_Fit_int8_int_3) (by kernel_rfl) ?_
    refine wpE_region (id := 0) (ops := r_num_Fit_int8_int_1) (by kernel_rfl) ?_
    refine reg_run [.plain, .plain] 2 [(0, [], Value.int .i64 x)] (by kernel_rfl) (by kernel_rfl) ?_
    refine reg_end [(0, Value.int .i64 x)] (by kernel_rfl) (by kernel_rfl) ?_
    change WpE _ _ c_num_Fit_int8_int_3 _ _ _
    refine wpE_seq (x := c_num_Fit_int8_int_4) (y := c_num_Fit_int8_int_6) (by kernel_rfl) ?_
    refine wpE_region (id := 1) (ops := r_num_Fit_int8_int_4) (by kernel_rfl) ?_
    refine reg_run [.plain, .plain, .plain] 3 [(0, [], Value.int .i64 x), (4, [], Value.int .i8 (IntKind.i8.wrap x))] (by kernel_rfl) (by kernel_rfl) ?_
    refine reg_end [(0, Value.int .i64 x), (4, Value.int .i8 (IntKind.i8.wrap x))] (by kernel_rfl) (by kernel_rfl) ?_
    change WpE _ _ c_num_Fit_int8_int_6 _ _ _
    refine wpE_seq (x := c_num_Fit_int8_int_7) (y := c_num_Fit_int8_int_16) (by kernel_rfl) ?_
    refine wpE_seq (x := c_num_Fit_int8_int_8) (y := c_num_Fit_int8_int_10) (by kernel_rfl) ?_
    refine wpE_region (id := 2) (ops := r_num_Fit_int8_int_8) (by kernel_rfl) ?_
    refine reg_run [.plain, .plain, .plain, .plain, .plain, .plain, .plain, .plain, .plain, .plain, .pick] 11 [(4, [], Value.int .i8 (IntKind.i8.wrap x)), (17, [], Value.bool (((IntKind.i64.wrap (IntKind.i8.wrap x)) != x) || (!((decide (x < 0)) == (decide ((IntKind.i8.wrap x) < 0))))))] (by kernel_rfl) (by kernel_rfl) ?_
    refine reg_end [(4, Value.int .i8 (IntKind.i8.wrap x)), (17, Value.bool (((IntKind.i64.wrap (IntKind.i8.wrap x)) != x) || (!((decide (x < 0)) == (decide ((IntKind.i8.wrap x) < 0))))))] (by kernel_rfl) (by kernel_rfl) ?_
    change WpE _ _ c_num_Fit_int8_int_10 _ _ _
    refine wpE_cond (o := (Operand.tmp 17)) (b := (((IntKind.i64.wrap (IntKind.i8.wrap x)) != x) || (!((decide (x < 0)) == (decide ((IntKind.i8.wrap x) < 0)))))) (x := c_num_Fit_int8_int_11) (y := c_num_Fit_int8_int_15) (by kernel_rfl) (by kernel_rfl) (fun hb => ?_) (fun hb => ?_)
    · replace h := h.1 hb
      refine wpE_seq (x := c_num_Fit_int8_int_12) (y := c_num_Fit_int8_int_14) (by kernel_rfl) ?_
      refine wpE_region (id := 3) (ops := r_num_Fit_int8_int_12) (by kernel_rfl) ?_
      refine reg_run [.plain, .plain] 2 [(2, [], Value.int .i8 0), (3, [], Value.bool false)] (by kernel_rfl) (by kernel_rfl) ?_
      refine reg_end [(2, Value.int .i8 0), (3, Value.bool false)] (by kernel_rfl) (by kernel_rfl) ?_
      change WpE _ _ c_num_Fit_int8_int_14 _ _ _
      refine wpE_ret (by kernel_rfl) ?_
      repeat (first | refine seqQ_ret ?_ | refine blockQ_ret ?_ | refine loopQ_ret ?_ | refine cutQ_ret ?_)
      exact retT (rs := [(Go.ResultVar.tmp 2), (Go.ResultVar.tmp 3)]) (vs := [Value.int .i8 0, Value.bool false]) (by kernel_rfl) (⟨by kernel_rfl, ⟨by kernel_rfl, trivial⟩⟩) (by kernel_rfl) ⟨0, false, rfl, h⟩
    · replace h := h.2 hb
      refine wpE_skip (by kernel_rfl) ?_
      change WpE _ _ c_num_Fit_int8_int_16 _ _ _
      refine wpE_seq (x := c_num_Fit_int8_int_17) (y := c_num_Fit_int8_int_19) (by kernel_rfl) ?_
      refine wpE_region (id := 4) (ops := r_num_Fit_int8_int_17) (by kernel_rfl) ?_
      refine reg_run [.plain, .plain, .plain] 3 [(2, [], Value.int .i8 (IntKind.i8.wrap x)), (3, [], Value.bool true)] (by kernel_rfl) (by kernel_rfl) ?_
      refine reg_end [(2, Value.int .i8 (IntKind.i8.wrap x)), (3, Value.bool true)] (by kernel_rfl) (by kernel_rfl) ?_
      change WpE _ _ c_num_Fit_int8_int_19 _ _ _
      refine wpE_ret (by kernel_rfl) ?_
      repeat (first | refine seqQ_ret ?_ | refine blockQ_ret ?_ | refine loopQ_ret ?_ | refine cutQ_ret ?_)
      exact retT (rs := [(Go.ResultVar.tmp 2), (Go.ResultVar.tmp 3)]) (vs := [Value.int .i8 (IntKind.i8.wrap x), Value.bool true]) (by kernel_rfl) (⟨by kernel_rfl, ⟨by kernel_rfl, trivial⟩⟩) (by kernel_rfl) ⟨(IntKind.i8.wrap x), true, rfl, h⟩
  · rintro e w' ⟨v, rfl, r0, r1, rfl, h⟩; exact ⟨r0, r1, rfl, h⟩
end Go.Proofs.Ytmcpljflohlnaaa
