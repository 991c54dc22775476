/- WRITTEN BY PROGRAM (dec.py): for each Go function the clean formula F, the call's contract C, and the proof S that F gives C. -/
import Derived.Test.YtmcpljflohlnaaaRows
import Derived.Test.YtmcpljflohlnaaaGF
namespace Go.Proofs.Ytmcpljflohlnaaa
open Go
set_option linter.unusedVariables false

/-! ### towpath/towpathlaw01.NumFits (function 3) -/
noncomputable def c_towpathlaw01_NumFits_0 : Code := (Try.f3.body).getD Code.skip
noncomputable def c_towpathlaw01_NumFits_1 : Code := Code.l c_towpathlaw01_NumFits_0
noncomputable def r_towpathlaw01_NumFits_1 : Array Oper := Code.ops c_towpathlaw01_NumFits_1
noncomputable def c_towpathlaw01_NumFits_3 : Code := Code.r c_towpathlaw01_NumFits_0
noncomputable def c_towpathlaw01_NumFits_4 : Code := Code.l c_towpathlaw01_NumFits_3
noncomputable def r_towpathlaw01_NumFits_4 : Array Oper := Code.ops c_towpathlaw01_NumFits_4
noncomputable def c_towpathlaw01_NumFits_6 : Code := Code.r c_towpathlaw01_NumFits_3
noncomputable def c_towpathlaw01_NumFits_7 : Code := Code.l c_towpathlaw01_NumFits_6
noncomputable def r_towpathlaw01_NumFits_7 : Array Oper := Code.ops c_towpathlaw01_NumFits_7
noncomputable def c_towpathlaw01_NumFits_9 : Code := Code.r c_towpathlaw01_NumFits_6
noncomputable def c_towpathlaw01_NumFits_10 : Code := Code.l c_towpathlaw01_NumFits_9
noncomputable def r_towpathlaw01_NumFits_10 : Array Oper := Code.ops c_towpathlaw01_NumFits_10
noncomputable def c_towpathlaw01_NumFits_12 : Code := Code.r c_towpathlaw01_NumFits_9
noncomputable def c_towpathlaw01_NumFits_13 : Code := Code.l c_towpathlaw01_NumFits_12
noncomputable def r_towpathlaw01_NumFits_13 : Array Oper := Code.ops c_towpathlaw01_NumFits_13
noncomputable def c_towpathlaw01_NumFits_15 : Code := Code.r c_towpathlaw01_NumFits_12
noncomputable def c_towpathlaw01_NumFits_16 : Code := Code.l c_towpathlaw01_NumFits_15
noncomputable def r_towpathlaw01_NumFits_16 : Array Oper := Code.ops c_towpathlaw01_NumFits_16
noncomputable def c_towpathlaw01_NumFits_18 : Code := Code.r c_towpathlaw01_NumFits_15
noncomputable def c_towpathlaw01_NumFits_19 : Code := Code.l c_towpathlaw01_NumFits_18
noncomputable def r_towpathlaw01_NumFits_19 : Array Oper := Code.ops c_towpathlaw01_NumFits_19
noncomputable def c_towpathlaw01_NumFits_21 : Code := Code.r c_towpathlaw01_NumFits_18
noncomputable def c_towpathlaw01_NumFits_22 : Code := Code.l c_towpathlaw01_NumFits_21
noncomputable def r_towpathlaw01_NumFits_22 : Array Oper := Code.ops c_towpathlaw01_NumFits_22
noncomputable def c_towpathlaw01_NumFits_24 : Code := Code.r c_towpathlaw01_NumFits_21
noncomputable def c_towpathlaw01_NumFits_25 : Code := Code.l c_towpathlaw01_NumFits_24
noncomputable def r_towpathlaw01_NumFits_25 : Array Oper := Code.ops c_towpathlaw01_NumFits_25
noncomputable def c_towpathlaw01_NumFits_27 : Code := Code.r c_towpathlaw01_NumFits_24
noncomputable def c_towpathlaw01_NumFits_28 : Code := Code.l c_towpathlaw01_NumFits_27
noncomputable def r_towpathlaw01_NumFits_28 : Array Oper := Code.ops c_towpathlaw01_NumFits_28
noncomputable def c_towpathlaw01_NumFits_30 : Code := Code.r c_towpathlaw01_NumFits_27
noncomputable def c_towpathlaw01_NumFits_31 : Code := Code.l c_towpathlaw01_NumFits_30
noncomputable def r_towpathlaw01_NumFits_31 : Array Oper := Code.ops c_towpathlaw01_NumFits_31
noncomputable def c_towpathlaw01_NumFits_33 : Code := Code.r c_towpathlaw01_NumFits_30
noncomputable def c_towpathlaw01_NumFits_34 : Code := Code.l c_towpathlaw01_NumFits_33
noncomputable def r_towpathlaw01_NumFits_34 : Array Oper := Code.ops c_towpathlaw01_NumFits_34
noncomputable def c_towpathlaw01_NumFits_36 : Code := Code.r c_towpathlaw01_NumFits_33

set_option maxRecDepth 100000 in
theorem S_towpathlaw01_NumFits {x : Int} {w : World} {R : Bool → World → Prop} (h : F_towpathlaw01_NumFits x R w) : C_towpathlaw01_NumFits x w R := by
  unfold F_towpathlaw01_NumFits at h
  unfold C_towpathlaw01_NumFits
  refine Calls.mono (calls_of_wpE (args := [Value.int .i64 x]) (R := fun v w' => ∃ (r0 : Bool), v = Value.bool r0 ∧ R r0 w') Try.func3 (c := c_towpathlaw01_NumFits_0) (by kernel_rfl) 152 (by kernel_rfl) (by kernel_rfl) [(0, Value.int .i64 x)] (by kernel_rfl) ?_) ?_
  · refine wpE_seq (x := c_towpathlaw01_NumFits_1) (y := c_towpathlaw01_NumFits_3) (by kernel_rfl) ?_
    refine wpE_region (id := 0) (ops := r_towpathlaw01_NumFits_1) (by kernel_rfl) ?_
    refine reg_run [.plain] 1 [(0, [], Value.int .i64 x)] (by kernel_rfl) (by kernel_rfl) ?_
    refine reg_end [(0, Value.int .i64 x)] (by kernel_rfl) (by kernel_rfl) ?_
    change WpE _ _ c_towpathlaw01_NumFits_3 _ _ _
    refine wpE_seq (x := c_towpathlaw01_NumFits_4) (y := c_towpathlaw01_NumFits_6) (by kernel_rfl) ?_
    refine wpE_region (id := 1) (ops := r_towpathlaw01_NumFits_4) (by kernel_rfl) ?_
    refine reg_run [.plain] 1 [(0, [], Value.int .i64 x), (24, [], Value.int .i64 x)] (by kernel_rfl) (by kernel_rfl) ?_
    refine reg_enter (op := (Go.Op.call (Go.Call.mk (Go.Callee.value (Go.Operand.func 14)) #[(Go.Operand.tmp 24)] #[2]))) (ty := 23) (dst := some 25) 14 #[Value.int .i64 x] (by kernel_rfl) (fun ww => by kernel_rfl) (Calls.mono h ?_)
    rintro _ w1 ⟨a_, ok1, rfl, h⟩
    refine ⟨_, rfl, ?_⟩
    refine reg_run [.plain, .plain, .plain, .plain, .plain] 7 [(0, [], Value.int .i64 x), (3, [], Value.int .i8 a_), (4, [], Value.bool ok1)] (by kernel_rfl) (by kernel_rfl) ?_
    refine reg_end [(0, Value.int .i64 x), (3, Value.int .i8 a_), (4, Value.bool ok1)] (by kernel_rfl) (by kernel_rfl) ?_
    change WpE _ _ c_towpathlaw01_NumFits_6 _ _ _
    refine wpE_seq (x := c_towpathlaw01_NumFits_7) (y := c_towpathlaw01_NumFits_9) (by kernel_rfl) ?_
    refine wpE_region (id := 2) (ops := r_towpathlaw01_NumFits_7) (by kernel_rfl) ?_
    refine reg_run [.plain] 1 [(0, [], Value.int .i64 x), (3, [], Value.int .i8 a_), (4, [], Value.bool ok1), (29, [], Value.int .i64 x)] (by kernel_rfl) (by kernel_rfl) ?_
    refine reg_enter (op := (Go.Op.call (Go.Call.mk (Go.Callee.value (Go.Operand.func 15)) #[(Go.Operand.tmp 29)] #[2]))) (ty := 26) (dst := some 30) 15 #[Value.int .i64 x] (by kernel_rfl) (fun ww => by kernel_rfl) (Calls.mono h ?_)
    rintro _ w2 ⟨b_, ok2, rfl, h⟩
    refine ⟨_, rfl, ?_⟩
    refine reg_run [.plain, .plain, .plain, .plain, .plain] 7 [(0, [], Value.int .i64 x), (3, [], Value.int .i8 a_), (4, [], Value.bool ok1), (5, [], Value.int .i16 b_), (6, [], Value.bool ok2)] (by kernel_rfl) (by kernel_rfl) ?_
    refine reg_end [(0, Value.int .i64 x), (3, Value.int .i8 a_), (4, Value.bool ok1), (5, Value.int .i16 b_), (6, Value.bool ok2)] (by kernel_rfl) (by kernel_rfl) ?_
    change WpE _ _ c_towpathlaw01_NumFits_9 _ _ _
    refine wpE_seq (x := c_towpathlaw01_NumFits_10) (y := c_towpathlaw01_NumFits_12) (by kernel_rfl) ?_
    refine wpE_region (id := 3) (ops := r_towpathlaw01_NumFits_10) (by kernel_rfl) ?_
    refine reg_run [.plain] 1 [(0, [], Value.int .i64 x), (3, [], Value.int .i8 a_), (4, [], Value.bool ok1), (5, [], Value.int .i16 b_), (6, [], Value.bool ok2), (34, [], Value.int .i64 x)] (by kernel_rfl) (by kernel_rfl) ?_
    refine reg_enter (op := (Go.Op.call (Go.Call.mk (Go.Callee.value (Go.Operand.func 16)) #[(Go.Operand.tmp 34)] #[2]))) (ty := 28) (dst := some 35) 16 #[Value.int .i64 x] (by kernel_rfl) (fun ww => by kernel_rfl) (Calls.mono h ?_)
    rintro _ w3 ⟨c, ok3, rfl, h⟩
    refine ⟨_, rfl, ?_⟩
    refine reg_run [.plain, .plain, .plain, .plain, .plain] 7 [(0, [], Value.int .i64 x), (3, [], Value.int .i8 a_), (4, [], Value.bool ok1), (5, [], Value.int .i16 b_), (6, [], Value.bool ok2), (7, [], Value.int .i32 c), (8, [], Value.bool ok3)] (by kernel_rfl) (by kernel_rfl) ?_
    refine reg_end [(0, Value.int .i64 x), (3, Value.int .i8 a_), (4, Value.bool ok1), (5, Value.int .i16 b_), (6, Value.bool ok2), (7, Value.int .i32 c), (8, Value.bool ok3)] (by kernel_rfl) (by kernel_rfl) ?_
    change WpE _ _ c_towpathlaw01_NumFits_12 _ _ _
    refine wpE_seq (x := c_towpathlaw01_NumFits_13) (y := c_towpathlaw01_NumFits_15) (by kernel_rfl) ?_
    refine wpE_region (id := 4) (ops := r_towpathlaw01_NumFits_13) (by kernel_rfl) ?_
    refine reg_run [.plain] 1 [(0, [], Value.int .i64 x), (3, [], Value.int .i8 a_), (4, [], Value.bool ok1), (5, [], Value.int .i16 b_), (6, [], Value.bool ok2), (7, [], Value.int .i32 c), (8, [], Value.bool ok3), (39, [], Value.int .i64 x)] (by kernel_rfl) (by kernel_rfl) ?_
    refine reg_enter (op := (Go.Op.call (Go.Call.mk (Go.Callee.value (Go.Operand.func 17)) #[(Go.Operand.tmp 39)] #[2]))) (ty := 30) (dst := some 40) 17 #[Value.int .i64 x] (by kernel_rfl) (fun ww => by kernel_rfl) (Calls.mono h ?_)
    rintro _ w4 ⟨d, ok4, rfl, h⟩
    refine ⟨_, rfl, ?_⟩
    refine reg_run [.plain, .plain, .plain, .plain, .plain] 7 [(0, [], Value.int .i64 x), (3, [], Value.int .i8 a_), (4, [], Value.bool ok1), (5, [], Value.int .i16 b_), (6, [], Value.bool ok2), (7, [], Value.int .i32 c), (8, [], Value.bool ok3), (9, [], Value.int .i64 d), (10, [], Value.bool ok4)] (by kernel_rfl) (by kernel_rfl) ?_
    refine reg_end [(0, Value.int .i64 x), (3, Value.int .i8 a_), (4, Value.bool ok1), (5, Value.int .i16 b_), (6, Value.bool ok2), (7, Value.int .i32 c), (8, Value.bool ok3), (9, Value.int .i64 d), (10, Value.bool ok4)] (by kernel_rfl) (by kernel_rfl) ?_
    change WpE _ _ c_towpathlaw01_NumFits_15 _ _ _
    refine wpE_seq (x := c_towpathlaw01_NumFits_16) (y := c_towpathlaw01_NumFits_18) (by kernel_rfl) ?_
    refine wpE_region (id := 5) (ops := r_towpathlaw01_NumFits_16) (by kernel_rfl) ?_
    refine reg_run [.plain] 1 [(0, [], Value.int .i64 x), (3, [], Value.int .i8 a_), (4, [], Value.bool ok1), (5, [], Value.int .i16 b_), (6, [], Value.bool ok2), (7, [], Value.int .i32 c), (8, [], Value.bool ok3), (9, [], Value.int .i64 d), (10, [], Value.bool ok4), (44, [], Value.int .i64 x)] (by kernel_rfl) (by kernel_rfl) ?_
    refine reg_enter (op := (Go.Op.call (Go.Call.mk (Go.Callee.value (Go.Operand.func 18)) #[(Go.Operand.tmp 44)] #[2]))) (ty := 32) (dst := some 45) 18 #[Value.int .i64 x] (by kernel_rfl) (fun ww => by kernel_rfl) (Calls.mono h ?_)
    rintro _ w5 ⟨e, ok5, rfl, h⟩
    refine ⟨_, rfl, ?_⟩
    refine reg_run [.plain, .plain, .plain, .plain, .plain] 7 [(0, [], Value.int .i64 x), (3, [], Value.int .i8 a_), (4, [], Value.bool ok1), (5, [], Value.int .i16 b_), (6, [], Value.bool ok2), (7, [], Value.int .i32 c), (8, [], Value.bool ok3), (9, [], Value.int .i64 d), (10, [], Value.bool ok4), (11, [], Value.int .i64 e), (12, [], Value.bool ok5)] (by kernel_rfl) (by kernel_rfl) ?_
    refine reg_end [(0, Value.int .i64 x), (3, Value.int .i8 a_), (4, Value.bool ok1), (5, Value.int .i16 b_), (6, Value.bool ok2), (7, Value.int .i32 c), (8, Value.bool ok3), (9, Value.int .i64 d), (10, Value.bool ok4), (11, Value.int .i64 e), (12, Value.bool ok5)] (by kernel_rfl) (by kernel_rfl) ?_
    change WpE _ _ c_towpathlaw01_NumFits_18 _ _ _
    refine wpE_seq (x := c_towpathlaw01_NumFits_19) (y := c_towpathlaw01_NumFits_21) (by kernel_rfl) ?_
    refine wpE_region (id := 6) (ops := r_towpathlaw01_NumFits_19) (by kernel_rfl) ?_
    refine reg_run [.plain] 1 [(0, [], Value.int .i64 x), (3, [], Value.int .i8 a_), (4, [], Value.bool ok1), (5, [], Value.int .i16 b_), (6, [], Value.bool ok2), (7, [], Value.int .i32 c), (8, [], Value.bool ok3), (9, [], Value.int .i64 d), (10, [], Value.bool ok4), (11, [], Value.int .i64 e), (12, [], Value.bool ok5), (49, [], Value.int .i64 x)] (by kernel_rfl) (by kernel_rfl) ?_
    refine reg_enter (op := (Go.Op.call (Go.Call.mk (Go.Callee.value (Go.Operand.func 19)) #[(Go.Operand.tmp 49)] #[2]))) (ty := 34) (dst := some 50) 19 #[Value.int .i64 x] (by kernel_rfl) (fun ww => by kernel_rfl) (Calls.mono h ?_)
    rintro _ w6 ⟨f, ok6, rfl, h⟩
    refine ⟨_, rfl, ?_⟩
    refine reg_run [.plain, .plain, .plain, .plain, .plain] 7 [(0, [], Value.int .i64 x), (3, [], Value.int .i8 a_), (4, [], Value.bool ok1), (5, [], Value.int .i16 b_), (6, [], Value.bool ok2), (7, [], Value.int .i32 c), (8, [], Value.bool ok3), (9, [], Value.int .i64 d), (10, [], Value.bool ok4), (11, [], Value.int .i64 e), (12, [], Value.bool ok5), (13, [], Value.int .u8 f), (14, [], Value.bool ok6)] (by kernel_rfl) (by kernel_rfl) ?_
    refine reg_end [(0, Value.int .i64 x), (3, Value.int .i8 a_), (4, Value.bool ok1), (5, Value.int .i16 b_), (6, Value.bool ok2), (7, Value.int .i32 c), (8, Value.bool ok3), (9, Value.int .i64 d), (10, Value.bool ok4), (11, Value.int .i64 e), (12, Value.bool ok5), (13, Value.int .u8 f), (14, Value.bool ok6)] (by kernel_rfl) (by kernel_rfl) ?_
    change WpE _ _ c_towpathlaw01_NumFits_21 _ _ _
    refine wpE_seq (x := c_towpathlaw01_NumFits_22) (y := c_towpathlaw01_NumFits_24) (by kernel_rfl) ?_
    refine wpE_region (id := 7) (ops := r_towpathlaw01_NumFits_22) (by kernel_rfl) ?_
    refine reg_run [.plain] 1 [(0, [], Value.int .i64 x), (3, [], Value.int .i8 a_), (4, [], Value.bool ok1), (5, [], Value.int .i16 b_), (6, [], Value.bool ok2), (7, [], Value.int .i32 c), (8, [], Value.bool ok3), (9, [], Value.int .i64 d), (10, [], Value.bool ok4), (11, [], Value.int .i64 e), (12, [], Value.bool ok5), (13, [], Value.int .u8 f), (14, [], Value.bool ok6), (54, [], Value.int .i64 x)] (by kernel_rfl) (by kernel_rfl) ?_
    refine reg_enter (op := (Go.Op.call (Go.Call.mk (Go.Callee.value (Go.Operand.func 20)) #[(Go.Operand.tmp 54)] #[2]))) (ty := 37) (dst := some 55) 20 #[Value.int .i64 x] (by kernel_rfl) (fun ww => by kernel_rfl) (Calls.mono h ?_)
    rintro _ w7 ⟨g, ok7, rfl, h⟩
    refine ⟨_, rfl, ?_⟩
    refine reg_run [.plain, .plain, .plain, .plain, .plain] 7 [(0, [], Value.int .i64 x), (3, [], Value.int .i8 a_), (4, [], Value.bool ok1), (5, [], Value.int .i16 b_), (6, [], Value.bool ok2), (7, [], Value.int .i32 c), (8, [], Value.bool ok3), (9, [], Value.int .i64 d), (10, [], Value.bool ok4), (11, [], Value.int .i64 e), (12, [], Value.bool ok5), (13, [], Value.int .u8 f), (14, [], Value.bool ok6), (15, [], Value.int .u16 g), (16, [], Value.bool ok7)] (by kernel_rfl) (by kernel_rfl) ?_
    refine reg_end [(0, Value.int .i64 x), (3, Value.int .i8 a_), (4, Value.bool ok1), (5, Value.int .i16 b_), (6, Value.bool ok2), (7, Value.int .i32 c), (8, Value.bool ok3), (9, Value.int .i64 d), (10, Value.bool ok4), (11, Value.int .i64 e), (12, Value.bool ok5), (13, Value.int .u8 f), (14, Value.bool ok6), (15, Value.int .u16 g), (16, Value.bool ok7)] (by kernel_rfl) (by kernel_rfl) ?_
    change WpE _ _ c_towpathlaw01_NumFits_24 _ _ _
    refine wpE_seq (x := c_towpathlaw01_NumFits_25) (y := c_towpathlaw01_NumFits_27) (by kernel_rfl) ?_
    refine wpE_region (id := 8) (ops := r_towpathlaw01_NumFits_25) (by kernel_rfl) ?_
    refine reg_run [.plain] 1 [(0, [], Value.int .i64 x), (3, [], Value.int .i8 a_), (4, [], Value.bool ok1), (5, [], Value.int .i16 b_), (6, [], Value.bool ok2), (7, [], Value.int .i32 c), (8, [], Value.bool ok3), (9, [], Value.int .i64 d), (10, [], Value.bool ok4), (11, [], Value.int .i64 e), (12, [], Value.bool ok5), (13, [], Value.int .u8 f), (14, [], Value.bool ok6), (15, [], Value.int .u16 g), (16, [], Value.bool ok7), (59, [], Value.int .i64 x)] (by kernel_rfl) (by kernel_rfl) ?_
    refine reg_enter (op := (Go.Op.call (Go.Call.mk (Go.Callee.value (Go.Operand.func 21)) #[(Go.Operand.tmp 59)] #[2]))) (ty := 40) (dst := some 60) 21 #[Value.int .i64 x] (by kernel_rfl) (fun ww => by kernel_rfl) (Calls.mono h ?_)
    rintro _ w8 ⟨h_, ok8, rfl, h⟩
    refine ⟨_, rfl, ?_⟩
    refine reg_run [.plain, .plain, .plain, .plain, .plain] 7 [(0, [], Value.int .i64 x), (3, [], Value.int .i8 a_), (4, [], Value.bool ok1), (5, [], Value.int .i16 b_), (6, [], Value.bool ok2), (7, [], Value.int .i32 c), (8, [], Value.bool ok3), (9, [], Value.int .i64 d), (10, [], Value.bool ok4), (11, [], Value.int .i64 e), (12, [], Value.bool ok5), (13, [], Value.int .u8 f), (14, [], Value.bool ok6), (15, [], Value.int .u16 g), (16, [], Value.bool ok7), (17, [], Value.int .u32 h_), (18, [], Value.bool ok8)] (by kernel_rfl) (by kernel_rfl) ?_
    refine reg_end [(0, Value.int .i64 x), (3, Value.int .i8 a_), (4, Value.bool ok1), (5, Value.int .i16 b_), (6, Value.bool ok2), (7, Value.int .i32 c), (8, Value.bool ok3), (9, Value.int .i64 d), (10, Value.bool ok4), (11, Value.int .i64 e), (12, Value.bool ok5), (13, Value.int .u8 f), (14, Value.bool ok6), (15, Value.int .u16 g), (16, Value.bool ok7), (17, Value.int .u32 h_), (18, Value.bool ok8)] (by kernel_rfl) (by kernel_rfl) ?_
    change WpE _ _ c_towpathlaw01_NumFits_27 _ _ _
    refine wpE_seq (x := c_towpathlaw01_NumFits_28) (y := c_towpathlaw01_NumFits_30) (by kernel_rfl) ?_
    refine wpE_region (id := 9) (ops := r_towpathlaw01_NumFits_28) (by kernel_rfl) ?_
    refine reg_run [.plain] 1 [(0, [], Value.int .i64 x), (3, [], Value.int .i8 a_), (4, [], Value.bool ok1), (5, [], Value.int .i16 b_), (6, [], Value.bool ok2), (7, [], Value.int .i32 c), (8, [], Value.bool ok3), (9, [], Value.int .i64 d), (10, [], Value.bool ok4), (11, [], Value.int .i64 e), (12, [], Value.bool ok5), (13, [], Value.int .u8 f), (14, [], Value.bool ok6), (15, [], Value.int .u16 g), (16, [], Value.bool ok7), (17, [], Value.int .u32 h_), (18, [], Value.bool ok8), (64, [], Value.int .i64 x)] (by kernel_rfl) (by kernel_rfl) ?_
    refine reg_enter (op := (Go.Op.call (Go.Call.mk (Go.Callee.value (Go.Operand.func 22)) #[(Go.Operand.tmp 64)] #[2]))) (ty := 43) (dst := some 65) 22 #[Value.int .i64 x] (by kernel_rfl) (fun ww => by kernel_rfl) (Calls.mono h ?_)
    rintro _ w9 ⟨i, ok9, rfl, h⟩
    refine ⟨_, rfl, ?_⟩
    refine reg_run [.plain, .plain, .plain, .plain, .plain] 7 [(0, [], Value.int .i64 x), (3, [], Value.int .i8 a_), (4, [], Value.bool ok1), (5, [], Value.int .i16 b_), (6, [], Value.bool ok2), (7, [], Value.int .i32 c), (8, [], Value.bool ok3), (9, [], Value.int .i64 d), (10, [], Value.bool ok4), (11, [], Value.int .i64 e), (12, [], Value.bool ok5), (13, [], Value.int .u8 f), (14, [], Value.bool ok6), (15, [], Value.int .u16 g), (16, [], Value.bool ok7), (17, [], Value.int .u32 h_), (18, [], Value.bool ok8), (19, [], Value.int .u64 i), (20, [], Value.bool ok9)] (by kernel_rfl) (by kernel_rfl) ?_
    refine reg_end [(0, Value.int .i64 x), (3, Value.int .i8 a_), (4, Value.bool ok1), (5, Value.int .i16 b_), (6, Value.bool ok2), (7, Value.int .i32 c), (8, Value.bool ok3), (9, Value.int .i64 d), (10, Value.bool ok4), (11, Value.int .i64 e), (12, Value.bool ok5), (13, Value.int .u8 f), (14, Value.bool ok6), (15, Value.int .u16 g), (16, Value.bool ok7), (17, Value.int .u32 h_), (18, Value.bool ok8), (19, Value.int .u64 i), (20, Value.bool ok9)] (by kernel_rfl) (by kernel_rfl) ?_
    change WpE _ _ c_towpathlaw01_NumFits_30 _ _ _
    refine wpE_seq (x := c_towpathlaw01_NumFits_31) (y := c_towpathlaw01_NumFits_33) (by kernel_rfl) ?_
    refine wpE_region (id := 10) (ops := r_towpathlaw01_NumFits_31) (by kernel_rfl) ?_
    refine reg_run [.plain, .plain, .plain] 3 [(0, [], Value.int .i64 x), (3, [], Value.int .i8 a_), (4, [], Value.bool ok1), (5, [], Value.int .i16 b_), (6, [], Value.bool ok2), (7, [], Value.int .i32 c), (8, [], Value.bool ok3), (9, [], Value.int .i64 d), (10, [], Value.bool ok4), (11, [], Value.int .i64 e), (12, [], Value.bool ok5), (13, [], Value.int .u8 f), (14, [], Value.bool ok6), (15, [], Value.int .u16 g), (16, [], Value.bool ok7), (17, [], Value.int .u32 h_), (18, [], Value.bool ok8), (19, [], Value.int .u64 i), (20, [], Value.bool ok9), (69, [], Value.bool (decide (x < 0))), (70, [], Value.int .i64 x)] (by kernel_rfl) (by kernel_rfl) ?_
    refine reg_enter (op := (Go.Op.call (Go.Call.mk (Go.Callee.value (Go.Operand.func 23)) #[(Go.Operand.tmp 70)] #[2]))) (ty := 42) (dst := some 71) 23 #[Value.int .i64 x] (by kernel_rfl) (fun ww => by kernel_rfl) (Calls.mono h ?_)
    rintro _ w10 ⟨v71, rfl, h⟩
    refine ⟨_, rfl, ?_⟩
    refine reg_run [.plain, .plain] 6 [(0, [], Value.int .i64 x), (3, [], Value.int .i8 a_), (4, [], Value.bool ok1), (5, [], Value.int .i16 b_), (6, [], Value.bool ok2), (7, [], Value.int .i32 c), (8, [], Value.bool ok3), (9, [], Value.int .i64 d), (10, [], Value.bool ok4), (11, [], Value.int .i64 e), (12, [], Value.bool ok5), (13, [], Value.int .u8 f), (14, [], Value.bool ok6), (15, [], Value.int .u16 g), (16, [], Value.bool ok7), (17, [], Value.int .u32 h_), (18, [], Value.bool ok8), (19, [], Value.int .u64 i), (20, [], Value.bool ok9), (21, [], Value.bool (decide (x < 0))), (22, [], Value.int .u64 v71)] (by kernel_rfl) (by kernel_rfl) ?_
    refine reg_end [(0, Value.int .i64 x), (3, Value.int .i8 a_), (4, Value.bool ok1), (5, Value.int .i16 b_), (6, Value.bool ok2), (7, Value.int .i32 c), (8, Value.bool ok3), (9, Value.int .i64 d), (10, Value.bool ok4), (11, Value.int .i64 e), (12, Value.bool ok5), (13, Value.int .u8 f), (14, Value.bool ok6), (15, Value.int .u16 g), (16, Value.bool ok7), (17, Value.int .u32 h_), (18, Value.bool ok8), (19, Value.int .u64 i), (20, Value.bool ok9), (21, Value.bool (decide (x < 0))), (22, Value.int .u64 v71)] (by kernel_rfl) (by kernel_rfl) ?_
    change WpE _ _ c_towpathlaw01_NumFits_33 _ _ _
    refine wpE_seq (x := c_towpathlaw01_NumFits_34) (y := c_towpathlaw01_NumFits_36) (by kernel_rfl) ?_
    refine wpE_region (id := 11) (ops := r_towpathlaw01_NumFits_34) (by kernel_rfl) ?_
    refine reg_run [.plain, .plain, .plain, .plain, .plain, .plain] 6 [(0, [], Value.int .i64 x), (5, [], Value.int .i16 b_), (6, [], Value.bool ok2), (7, [], Value.int .i32 c), (8, [], Value.bool ok3), (9, [], Value.int .i64 d), (10, [], Value.bool ok4), (11, [], Value.int .i64 e), (12, [], Value.bool ok5), (13, [], Value.int .u8 f), (14, [], Value.bool ok6), (15, [], Value.int .u16 g), (16, [], Value.bool ok7), (17, [], Value.int .u32 h_), (18, [], Value.bool ok8), (19, [], Value.int .u64 i), (20, [], Value.bool ok9), (21, [], Value.bool (decide (x < 0))), (22, [], Value.int .u64 v71), (72, [], Value.bool ok1), (74, [], Value.int .i64 (IntKind.i64.wrap a_)), (75, [], Value.int .i64 x), (76, [], Value.bool (decide (x < 0))), (77, [], Value.int .u64 v71)] (by kernel_rfl) (by kernel_rfl) ?_
    refine reg_enter (op := (Go.Op.call (Go.Call.mk (Go.Callee.value (Go.Operand.func 25)) #[(Go.Operand.tmp 76), (Go.Operand.tmp 77), (Go.Operand.const (Go.Value.int Go.IntKind.i64 8)), (Go.Operand.const (Go.Value.bool true))] #[4, 42, 3, 4]))) (ty := 4) (dst := some 78) 25 #[Value.bool (decide (x < 0)), Value.int .u64 v71, Value.int .i64 8, Value.bool true] (by kernel_rfl) (fun ww => by kernel_rfl) (Calls.mono h ?_)
    rintro _ w11 ⟨v78, rfl, h⟩
    refine ⟨_, rfl, ?_⟩
    refine reg_run [] 7 [(0, [], Value.int .i64 x), (5, [], Value.int .i16 b_), (6, [], Value.bool ok2), (7, [], Value.int .i32 c), (8, [], Value.bool ok3), (9, [], Value.int .i64 d), (10, [], Value.bool ok4), (11, [], Value.int .i64 e), (12, [], Value.bool ok5), (13, [], Value.int .u8 f), (14, [], Value.bool ok6), (15, [], Value.int .u16 g), (16, [], Value.bool ok7), (17, [], Value.int .u32 h_), (18, [], Value.bool ok8), (19, [], Value.int .u64 i), (20, [], Value.bool ok9), (21, [], Value.bool (decide (x < 0))), (22, [], Value.int .u64 v71), (72, [], Value.bool ok1), (74, [], Value.int .i64 (IntKind.i64.wrap a_)), (75, [], Value.int .i64 x), (78, [], Value.bool v78)] (by kernel_rfl) (by kernel_rfl) ?_
    refine reg_enter (op := (Go.Op.call (Go.Call.mk (Go.Callee.value (Go.Operand.func 24)) #[(Go.Operand.tmp 72), (Go.Operand.tmp 74), (Go.Operand.tmp 75), (Go.Operand.tmp 78)] #[4, 2, 2, 4]))) (ty := 4) (dst := some 79) 24 #[Value.bool ok1, Value.int .i64 (IntKind.i64.wrap a_), Value.int .i64 x, Value.bool v78] (by kernel_rfl) (fun ww => by kernel_rfl) (Calls.mono h ?_)
    rintro _ w12 ⟨v79, rfl, h⟩
    refine ⟨_, rfl, ?_⟩
    refine reg_run [.plain, .plain, .plain, .plain, .plain, .plain, .plain] 15 [(0, [], Value.int .i64 x), (7, [], Value.int .i32 c), (8, [], Value.bool ok3), (9, [], Value.int .i64 d), (10, [], Value.bool ok4), (11, [], Value.int .i64 e), (12, [], Value.bool ok5), (13, [], Value.int .u8 f), (14, [], Value.bool ok6), (15, [], Value.int .u16 g), (16, [], Value.bool ok7), (17, [], Value.int .u32 h_), (18, [], Value.bool ok8), (19, [], Value.int .u64 i), (20, [], Value.bool ok9), (21, [], Value.bool (decide (x < 0))), (22, [], Value.int .u64 v71), (80, [], Value.bool v79), (81, [(80, true)], Value.bool ok2), (83, [(80, true)], Value.int .i64 (IntKind.i64.wrap b_)), (84, [(80, true)], Value.int .i64 x), (85, [(80, true)], Value.bool (decide (x < 0))), (86, [(80, true)], Value.int .u64 v71)] (by kernel_rfl) (by kernel_rfl) ?_
    refine reg_split 80 v79 (by kernel_rfl) (fun hb => ?_) (fun hb => ?_)
    · replace h := h.1 hb
      refine reg_run [] 15 [(0, [], Value.int .i64 x), (7, [], Value.int .i32 c), (8, [], Value.bool ok3), (9, [], Value.int .i64 d), (10, [], Value.bool ok4), (11, [], Value.int .i64 e), (12, [], Value.bool ok5), (13, [], Value.int .u8 f), (14, [], Value.bool ok6), (15, [], Value.int .u16 g), (16, [], Value.bool ok7), (17, [], Value.int .u32 h_), (18, [], Value.bool ok8), (19, [], Value.int .u64 i), (20, [], Value.bool ok9), (21, [], Value.bool (decide (x < 0))), (22, [], Value.int .u64 v71), (80, [], Value.bool true), (81, [], Value.bool ok2), (83, [], Value.int .i64 (IntKind.i64.wrap b_)), (84, [], Value.int .i64 x), (85, [], Value.bool (decide (x < 0))), (86, [], Value.int .u64 v71)] (by kernel_rfl) (by kernel_rfl) ?_
      refine reg_run [] 15 [(0, [], Value.int .i64 x), (7, [], Value.int .i32 c), (8, [], Value.bool ok3), (9, [], Value.int .i64 d), (10, [], Value.bool ok4), (11, [], Value.int .i64 e), (12, [], Value.bool ok5), (13, [], Value.int .u8 f), (14, [], Value.bool ok6), (15, [], Value.int .u16 g), (16, [], Value.bool ok7), (17, [], Value.int .u32 h_), (18, [], Value.bool ok8), (19, [], Value.int .u64 i), (20, [], Value.bool ok9), (21, [], Value.bool (decide (x < 0))), (22, [], Value.int .u64 v71), (80, [], Value.bool true), (81, [], Value.bool ok2), (83, [], Value.int .i64 (IntKind.i64.wrap b_)), (84, [], Value.int .i64 x), (85, [], Value.bool (decide (x < 0))), (86, [], Value.int .u64 v71)] (by kernel_rfl) (by kernel_rfl) ?_
      refine reg_enter (op := (Go.Op.call (Go.Call.mk (Go.Callee.value (Go.Operand.func 25)) #[(Go.Operand.tmp 85), (Go.Operand.tmp 86), (Go.Operand.const (Go.Value.int Go.IntKind.i64 16)), (Go.Operand.const (Go.Value.bool true))] #[4, 42, 3, 4]))) (ty := 4) (dst := some 87) 25 #[Value.bool (decide (x < 0)), Value.int .u64 v71, Value.int .i64 16, Value.bool true] (by kernel_rfl) (fun ww => by kernel_rfl) (Calls.mono h ?_)
      rintro _ w13 ⟨v87, rfl, h⟩
      refine ⟨_, rfl, ?_⟩
      refine reg_run [] 16 [(0, [], Value.int .i64 x), (7, [], Value.int .i32 c), (8, [], Value.bool ok3), (9, [], Value.int .i64 d), (10, [], Value.bool ok4), (11, [], Value.int .i64 e), (12, [], Value.bool ok5), (13, [], Value.int .u8 f), (14, [], Value.bool ok6), (15, [], Value.int .u16 g), (16, [], Value.bool ok7), (17, [], Value.int .u32 h_), (18, [], Value.bool ok8), (19, [], Value.int .u64 i), (20, [], Value.bool ok9), (21, [], Value.bool (decide (x < 0))), (22, [], Value.int .u64 v71), (80, [], Value.bool true), (81, [], Value.bool ok2), (83, [], Value.int .i64 (IntKind.i64.wrap b_)), (84, [], Value.int .i64 x), (87, [], Value.bool v87)] (by kernel_rfl) (by kernel_rfl) ?_
      refine reg_enter (op := (Go.Op.call (Go.Call.mk (Go.Callee.value (Go.Operand.func 24)) #[(Go.Operand.tmp 81), (Go.Operand.tmp 83), (Go.Operand.tmp 84), (Go.Operand.tmp 87)] #[4, 2, 2, 4]))) (ty := 4) (dst := some 88) 24 #[Value.bool ok2, Value.int .i64 (IntKind.i64.wrap b_), Value.int .i64 x, Value.bool v87] (by kernel_rfl) (fun ww => by kernel_rfl) (Calls.mono h ?_)
      rintro _ w14 ⟨v88, rfl, h⟩
      refine ⟨_, rfl, ?_⟩
      refine reg_run [.plain, .plain, .plain, .plain, .plain, .plain, .plain, .plain] 25 [(0, [], Value.int .i64 x), (9, [], Value.int .i64 d), (10, [], Value.bool ok4), (11, [], Value.int .i64 e), (12, [], Value.bool ok5), (13, [], Value.int .u8 f), (14, [], Value.bool ok6), (15, [], Value.int .u16 g), (16, [], Value.bool ok7), (17, [], Value.int .u32 h_), (18, [], Value.bool ok8), (19, [], Value.int .u64 i), (20, [], Value.bool ok9), (21, [], Value.bool (decide (x < 0))), (22, [], Value.int .u64 v71), (90, [], Value.bool v88), (91, [(90, true)], Value.bool ok3), (93, [(90, true)], Value.int .i64 (IntKind.i64.wrap c)), (94, [(90, true)], Value.int .i64 x), (95, [(90, true)], Value.bool (decide (x < 0))), (96, [(90, true)], Value.int .u64 v71)] (by kernel_rfl) (by kernel_rfl) ?_
      refine reg_split 90 v88 (by kernel_rfl) (fun hb => ?_) (fun hb => ?_)
      · replace h := h.1 hb
        refine reg_run [] 25 [(0, [], Value.int .i64 x), (9, [], Value.int .i64 d), (10, [], Value.bool ok4), (11, [], Value.int .i64 e), (12, [], Value.bool ok5), (13, [], Value.int .u8 f), (14, [], Value.bool ok6), (15, [], Value.int .u16 g), (16, [], Value.bool ok7), (17, [], Value.int .u32 h_), (18, [], Value.bool ok8), (19, [], Value.int .u64 i), (20, [], Value.bool ok9), (21, [], Value.bool (decide (x < 0))), (22, [], Value.int .u64 v71), (90, [], Value.bool true), (91, [], Value.bool ok3), (93, [], Value.int .i64 (IntKind.i64.wrap c)), (94, [], Value.int .i64 x), (95, [], Value.bool (decide (x < 0))), (96, [], Value.int .u64 v71)] (by kernel_rfl) (by kernel_rfl) ?_
        refine reg_run [] 25 [(0, [], Value.int .i64 x), (9, [], Value.int .i64 d), (10, [], Value.bool ok4), (11, [], Value.int .i64 e), (12, [], Value.bool ok5), (13, [], Value.int .u8 f), (14, [], Value.bool ok6), (15, [], Value.int .u16 g), (16, [], Value.bool ok7), (17, [], Value.int .u32 h_), (18, [], Value.bool ok8), (19, [], Value.int .u64 i), (20, [], Value.bool ok9), (21, [], Value.bool (decide (x < 0))), (22, [], Value.int .u64 v71), (90, [], Value.bool true), (91, [], Value.bool ok3), (93, [], Value.int .i64 (IntKind.i64.wrap c)), (94, [], Value.int .i64 x), (95, [], Value.bool (decide (x < 0))), (96, [], Value.int .u64 v71)] (by kernel_rfl) (by kernel_rfl) ?_
        refine reg_enter (op := (Go.Op.call (Go.Call.mk (Go.Callee.value (Go.Operand.func 25)) #[(Go.Operand.tmp 95), (Go.Operand.tmp 96), (Go.Operand.const (Go.Value.int Go.IntKind.i64 32)), (Go.Operand.const (Go.Value.bool true))] #[4, 42, 3, 4]))) (ty := 4) (dst := some 97) 25 #[Value.bool (decide (x < 0)), Value.int .u64 v71, Value.int .i64 32, Value.bool true] (by kernel_rfl) (fun ww => by kernel_rfl) (Calls.mono h ?_)
        rintro _ w15 ⟨v97, rfl, h⟩
        refine ⟨_, rfl, ?_⟩
        refine reg_run [] 26 [(0, [], Value.int .i64 x), (9, [], Value.int .i64 d), (10, [], Value.bool ok4), (11, [], Value.int .i64 e), (12, [], Value.bool ok5), (13, [], Value.int .u8 f), (14, [], Value.bool ok6), (15, [], Value.int .u16 g), (16, [], Value.bool ok7), (17, [], Value.int .u32 h_), (18, [], Value.bool ok8), (19, [], Value.int .u64 i), (20, [], Value.bool ok9), (21, [], Value.bool (decide (x < 0))), (22, [], Value.int .u64 v71), (90, [], Value.bool true), (91, [], Value.bool ok3), (93, [], Value.int .i64 (IntKind.i64.wrap c)), (94, [], Value.int .i64 x), (97, [], Value.bool v97)] (by kernel_rfl) (by kernel_rfl) ?_
        refine reg_enter (op := (Go.Op.call (Go.Call.mk (Go.Callee.value (Go.Operand.func 24)) #[(Go.Operand.tmp 91), (Go.Operand.tmp 93), (Go.Operand.tmp 94), (Go.Operand.tmp 97)] #[4, 2, 2, 4]))) (ty := 4) (dst := some 98) 24 #[Value.bool ok3, Value.int .i64 (IntKind.i64.wrap c), Value.int .i64 x, Value.bool v97] (by kernel_rfl) (fun ww => by kernel_rfl) (Calls.mono h ?_)
        rintro _ w16 ⟨v98, rfl, h⟩
        refine ⟨_, rfl, ?_⟩
        refine reg_run [.plain, .plain, .plain, .plain, .plain] 32 [(0, [], Value.int .i64 x), (11, [], Value.int .i64 e), (12, [], Value.bool ok5), (13, [], Value.int .u8 f), (14, [], Value.bool ok6), (15, [], Value.int .u16 g), (16, [], Value.bool ok7), (17, [], Value.int .u32 h_), (18, [], Value.bool ok8), (19, [], Value.int .u64 i), (20, [], Value.bool ok9), (21, [], Value.bool (decide (x < 0))), (22, [], Value.int .u64 v71), (100, [], Value.bool v98), (101, [(100, true)], Value.bool ok4), (102, [(100, true)], Value.int .i64 d), (103, [(100, true)], Value.int .i64 x)] (by kernel_rfl) (by kernel_rfl) ?_
        refine reg_split 100 v98 (by kernel_rfl) (fun hb => ?_) (fun hb => ?_)
        · replace h := h.1 hb
          refine reg_run [] 32 [(0, [], Value.int .i64 x), (11, [], Value.int .i64 e), (12, [], Value.bool ok5), (13, [], Value.int .u8 f), (14, [], Value.bool ok6), (15, [], Value.int .u16 g), (16, [], Value.bool ok7), (17, [], Value.int .u32 h_), (18, [], Value.bool ok8), (19, [], Value.int .u64 i), (20, [], Value.bool ok9), (21, [], Value.bool (decide (x < 0))), (22, [], Value.int .u64 v71), (100, [], Value.bool true), (101, [], Value.bool ok4), (102, [], Value.int .i64 d), (103, [], Value.int .i64 x)] (by kernel_rfl) (by kernel_rfl) ?_
          refine reg_run [] 32 [(0, [], Value.int .i64 x), (11, [], Value.int .i64 e), (12, [], Value.bool ok5), (13, [], Value.int .u8 f), (14, [], Value.bool ok6), (15, [], Value.int .u16 g), (16, [], Value.bool ok7), (17, [], Value.int .u32 h_), (18, [], Value.bool ok8), (19, [], Value.int .u64 i), (20, [], Value.bool ok9), (21, [], Value.bool (decide (x < 0))), (22, [], Value.int .u64 v71), (100, [], Value.bool true), (101, [], Value.bool ok4), (102, [], Value.int .i64 d), (103, [], Value.int .i64 x)] (by kernel_rfl) (by kernel_rfl) ?_
          refine reg_enter (op := (Go.Op.call (Go.Call.mk (Go.Callee.value (Go.Operand.func 24)) #[(Go.Operand.tmp 101), (Go.Operand.tmp 102), (Go.Operand.tmp 103), (Go.Operand.const (Go.Value.bool true))] #[4, 2, 2, 4]))) (ty := 4) (dst := some 104) 24 #[Value.bool ok4, Value.int .i64 d, Value.int .i64 x, Value.bool true] (by kernel_rfl) (fun ww => by kernel_rfl) (Calls.mono h ?_)
          rintro _ w17 ⟨v104, rfl, h⟩
          refine ⟨_, rfl, ?_⟩
          refine reg_run [.plain, .plain, .plain, .plain, .plain] 38 [(0, [], Value.int .i64 x), (13, [], Value.int .u8 f), (14, [], Value.bool ok6), (15, [], Value.int .u16 g), (16, [], Value.bool ok7), (17, [], Value.int .u32 h_), (18, [], Value.bool ok8), (19, [], Value.int .u64 i), (20, [], Value.bool ok9), (21, [], Value.bool (decide (x < 0))), (22, [], Value.int .u64 v71), (106, [], Value.bool v104), (107, [(106, true)], Value.bool ok5), (108, [(106, true)], Value.int .i64 e), (109, [(106, true)], Value.int .i64 x)] (by kernel_rfl) (by kernel_rfl) ?_
          refine reg_split 106 v104 (by kernel_rfl) (fun hb => ?_) (fun hb => ?_)
          · replace h := h.1 hb
            refine reg_run [] 38 [(0, [], Value.int .i64 x), (13, [], Value.int .u8 f), (14, [], Value.bool ok6), (15, [], Value.int .u16 g), (16, [], Value.bool ok7), (17, [], Value.int .u32 h_), (18, [], Value.bool ok8), (19, [], Value.int .u64 i), (20, [], Value.bool ok9), (21, [], Value.bool (decide (x < 0))), (22, [], Value.int .u64 v71), (106, [], Value.bool true), (107, [], Value.bool ok5), (108, [], Value.int .i64 e), (109, [], Value.int .i64 x)] (by kernel_rfl) (by kernel_rfl) ?_
            refine reg_run [] 38 [(0, [], Value.int .i64 x), (13, [], Value.int .u8 f), (14, [], Value.bool ok6), (15, [], Value.int .u16 g), (16, [], Value.bool ok7), (17, [], Value.int .u32 h_), (18, [], Value.bool ok8), (19, [], Value.int .u64 i), (20, [], Value.bool ok9), (21, [], Value.bool (decide (x < 0))), (22, [], Value.int .u64 v71), (106, [], Value.bool true), (107, [], Value.bool ok5), (108, [], Value.int .i64 e), (109, [], Value.int .i64 x)] (by kernel_rfl) (by kernel_rfl) ?_
            refine reg_enter (op := (Go.Op.call (Go.Call.mk (Go.Callee.value (Go.Operand.func 24)) #[(Go.Operand.tmp 107), (Go.Operand.tmp 108), (Go.Operand.tmp 109), (Go.Operand.const (Go.Value.bool true))] #[4, 2, 2, 4]))) (ty := 4) (dst := some 110) 24 #[Value.bool ok5, Value.int .i64 e, Value.int .i64 x, Value.bool true] (by kernel_rfl) (fun ww => by kernel_rfl) (Calls.mono h ?_)
            rintro _ w18 ⟨v110, rfl, h⟩
            refine ⟨_, rfl, ?_⟩
            refine reg_run [.plain, .plain, .plain, .plain, .plain, .plain, .plain, .plain] 47 [(0, [], Value.int .i64 x), (15, [], Value.int .u16 g), (16, [], Value.bool ok7), (17, [], Value.int .u32 h_), (18, [], Value.bool ok8), (19, [], Value.int .u64 i), (20, [], Value.bool ok9), (21, [], Value.bool (decide (x < 0))), (22, [], Value.int .u64 v71), (112, [], Value.bool v110), (113, [(112, true)], Value.bool ok6), (115, [(112, true)], Value.int .i64 (IntKind.i64.wrap f)), (116, [(112, true)], Value.int .i64 x), (117, [(112, true)], Value.bool (decide (x < 0))), (118, [(112, true)], Value.int .u64 v71)] (by kernel_rfl) (by kernel_rfl) ?_
            refine reg_split 112 v110 (by kernel_rfl) (fun hb => ?_) (fun hb => ?_)
            · replace h := h.1 hb
              refine reg_run [] 47 [(0, [], Value.int .i64 x), (15, [], Value.int .u16 g), (16, [], Value.bool ok7), (17, [], Value.int .u32 h_), (18, [], Value.bool ok8), (19, [], Value.int .u64 i), (20, [], Value.bool ok9), (21, [], Value.bool (decide (x < 0))), (22, [], Value.int .u64 v71), (112, [], Value.bool true), (113, [], Value.bool ok6), (115, [], Value.int .i64 (IntKind.i64.wrap f)), (116, [], Value.int .i64 x), (117, [], Value.bool (decide (x < 0))), (118, [], Value.int .u64 v71)] (by kernel_rfl) (by kernel_rfl) ?_
              refine reg_run [] 47 [(0, [], Value.int .i64 x), (15, [], Value.int .u16 g), (16, [], Value.bool ok7), (17, [], Value.int .u32 h_), (18, [], Value.bool ok8), (19, [], Value.int .u64 i), (20, [], Value.bool ok9), (21, [], Value.bool (decide (x < 0))), (22, [], Value.int .u64 v71), (112, [], Value.bool true), (113, [], Value.bool ok6), (115, [], Value.int .i64 (IntKind.i64.wrap f)), (116, [], Value.int .i64 x), (117, [], Value.bool (decide (x < 0))), (118, [], Value.int .u64 v71)] (by kernel_rfl) (by kernel_rfl) ?_
              refine reg_enter (op := (Go.Op.call (Go.Call.mk (Go.Callee.value (Go.Operand.func 25)) #[(Go.Operand.tmp 117), (Go.Operand.tmp 118), (Go.Operand.const (Go.Value.int Go.IntKind.i64 8)), (Go.Operand.const (Go.Value.bool false))] #[4, 42, 3, 4]))) (ty := 4) (dst := some 119) 25 #[Value.bool (decide (x < 0)), Value.int .u64 v71, Value.int .i64 8, Value.bool false] (by kernel_rfl) (fun ww => by kernel_rfl) (Calls.mono h ?_)
              rintro _ w19 ⟨v119, rfl, h⟩
              refine ⟨_, rfl, ?_⟩
              refine reg_run [] 48 [(0, [], Value.int .i64 x), (15, [], Value.int .u16 g), (16, [], Value.bool ok7), (17, [], Value.int .u32 h_), (18, [], Value.bool ok8), (19, [], Value.int .u64 i), (20, [], Value.bool ok9), (21, [], Value.bool (decide (x < 0))), (22, [], Value.int .u64 v71), (112, [], Value.bool true), (113, [], Value.bool ok6), (115, [], Value.int .i64 (IntKind.i64.wrap f)), (116, [], Value.int .i64 x), (119, [], Value.bool v119)] (by kernel_rfl) (by kernel_rfl) ?_
              refine reg_enter (op := (Go.Op.call (Go.Call.mk (Go.Callee.value (Go.Operand.func 24)) #[(Go.Operand.tmp 113), (Go.Operand.tmp 115), (Go.Operand.tmp 116), (Go.Operand.tmp 119)] #[4, 2, 2, 4]))) (ty := 4) (dst := some 120) 24 #[Value.bool ok6, Value.int .i64 (IntKind.i64.wrap f), Value.int .i64 x, Value.bool v119] (by kernel_rfl) (fun ww => by kernel_rfl) (Calls.mono h ?_)
              rintro _ w20 ⟨v120, rfl, h⟩
              refine ⟨_, rfl, ?_⟩
              refine reg_run [.plain, .plain, .plain, .plain, .plain, .plain, .plain, .plain] 57 [(0, [], Value.int .i64 x), (17, [], Value.int .u32 h_), (18, [], Value.bool ok8), (19, [], Value.int .u64 i), (20, [], Value.bool ok9), (21, [], Value.bool (decide (x < 0))), (22, [], Value.int .u64 v71), (122, [], Value.bool v120), (123, [(122, true)], Value.bool ok7), (125, [(122, true)], Value.int .i64 (IntKind.i64.wrap g)), (126, [(122, true)], Value.int .i64 x), (127, [(122, true)], Value.bool (decide (x < 0))), (128, [(122, true)], Value.int .u64 v71)] (by kernel_rfl) (by kernel_rfl) ?_
              refine reg_split 122 v120 (by kernel_rfl) (fun hb => ?_) (fun hb => ?_)
              · replace h := h.1 hb
                refine reg_run [] 57 [(0, [], Value.int .i64 x), (17, [], Value.int .u32 h_), (18, [], Value.bool ok8), (19, [], Value.int .u64 i), (20, [], Value.bool ok9), (21, [], Value.bool (decide (x < 0))), (22, [], Value.int .u64 v71), (122, [], Value.bool true), (123, [], Value.bool ok7), (125, [], Value.int .i64 (IntKind.i64.wrap g)), (126, [], Value.int .i64 x), (127, [], Value.bool (decide (x < 0))), (128, [], Value.int .u64 v71)] (by kernel_rfl) (by kernel_rfl) ?_
                refine reg_run [] 57 [(0, [], Value.int .i64 x), (17, [], Value.int .u32 h_), (18, [], Value.bool ok8), (19, [], Value.int .u64 i), (20, [], Value.bool ok9), (21, [], Value.bool (decide (x < 0))), (22, [], Value.int .u64 v71), (122, [], Value.bool true), (123, [], Value.bool ok7), (125, [], Value.int .i64 (IntKind.i64.wrap g)), (126, [], Value.int .i64 x), (127, [], Value.bool (decide (x < 0))), (128, [], Value.int .u64 v71)] (by kernel_rfl) (by kernel_rfl) ?_
                refine reg_enter (op := (Go.Op.call (Go.Call.mk (Go.Callee.value (Go.Operand.func 25)) #[(Go.Operand.tmp 127), (Go.Operand.tmp 128), (Go.Operand.const (Go.Value.int Go.IntKind.i64 16)), (Go.Operand.const (Go.Value.bool false))] #[4, 42, 3, 4]))) (ty := 4) (dst := some 129) 25 #[Value.bool (decide (x < 0)), Value.int .u64 v71, Value.int .i64 16, Value.bool false] (by kernel_rfl) (fun ww => by kernel_rfl) (Calls.mono h ?_)
                rintro _ w21 ⟨v129, rfl, h⟩
                refine ⟨_, rfl, ?_⟩
                refine reg_run [] 58 [(0, [], Value.int .i64 x), (17, [], Value.int .u32 h_), (18, [], Value.bool ok8), (19, [], Value.int .u64 i), (20, [], Value.bool ok9), (21, [], Value.bool (decide (x < 0))), (22, [], Value.int .u64 v71), (122, [], Value.bool true), (123, [], Value.bool ok7), (125, [], Value.int .i64 (IntKind.i64.wrap g)), (126, [], Value.int .i64 x), (129, [], Value.bool v129)] (by kernel_rfl) (by kernel_rfl) ?_
                refine reg_enter (op := (Go.Op.call (Go.Call.mk (Go.Callee.value (Go.Operand.func 24)) #[(Go.Operand.tmp 123), (Go.Operand.tmp 125), (Go.Operand.tmp 126), (Go.Operand.tmp 129)] #[4, 2, 2, 4]))) (ty := 4) (dst := some 130) 24 #[Value.bool ok7, Value.int .i64 (IntKind.i64.wrap g), Value.int .i64 x, Value.bool v129] (by kernel_rfl) (fun ww => by kernel_rfl) (Calls.mono h ?_)
                rintro _ w22 ⟨v130, rfl, h⟩
                refine ⟨_, rfl, ?_⟩
                refine reg_run [.plain, .plain, .plain, .plain, .plain, .plain, .plain, .plain] 67 [(0, [], Value.int .i64 x), (19, [], Value.int .u64 i), (20, [], Value.bool ok9), (21, [], Value.bool (decide (x < 0))), (22, [], Value.int .u64 v71), (132, [], Value.bool v130), (133, [(132, true)], Value.bool ok8), (135, [(132, true)], Value.int .i64 (IntKind.i64.wrap h_)), (136, [(132, true)], Value.int .i64 x), (137, [(132, true)], Value.bool (decide (x < 0))), (138, [(132, true)], Value.int .u64 v71)] (by kernel_rfl) (by kernel_rfl) ?_
                refine reg_split 132 v130 (by kernel_rfl) (fun hb => ?_) (fun hb => ?_)
                · replace h := h.1 hb
                  refine reg_run [] 67 [(0, [], Value.int .i64 x), (19, [], Value.int .u64 i), (20, [], Value.bool ok9), (21, [], Value.bool (decide (x < 0))), (22, [], Value.int .u64 v71), (132, [], Value.bool true), (133, [], Value.bool ok8), (135, [], Value.int .i64 (IntKind.i64.wrap h_)), (136, [], Value.int .i64 x), (137, [], Value.bool (decide (x < 0))), (138, [], Value.int .u64 v71)] (by kernel_rfl) (by kernel_rfl) ?_
                  refine reg_run [] 67 [(0, [], Value.int .i64 x), (19, [], Value.int .u64 i), (20, [], Value.bool ok9), (21, [], Value.bool (decide (x < 0))), (22, [], Value.int .u64 v71), (132, [], Value.bool true), (133, [], Value.bool ok8), (135, [], Value.int .i64 (IntKind.i64.wrap h_)), (136, [], Value.int .i64 x), (137, [], Value.bool (decide (x < 0))), (138, [], Value.int .u64 v71)] (by kernel_rfl) (by kernel_rfl) ?_
                  refine reg_enter (op := (Go.Op.call (Go.Call.mk (Go.Callee.value (Go.Operand.func 25)) #[(Go.Operand.tmp 137), (Go.Operand.tmp 138), (Go.Operand.const (Go.Value.int Go.IntKind.i64 32)), (Go.Operand.const (Go.Value.bool false))] #[4, 42, 3, 4]))) (ty := 4) (dst := some 139) 25 #[Value.bool (decide (x < 0)), Value.int .u64 v71, Value.int .i64 32, Value.bool false] (by kernel_rfl) (fun ww => by kernel_rfl) (Calls.mono h ?_)
                  rintro _ w23 ⟨v139, rfl, h⟩
                  refine ⟨_, rfl, ?_⟩
                  refine reg_run [] 68 [(0, [], Value.int .i64 x), (19, [], Value.int .u64 i), (20, [], Value.bool ok9), (21, [], Value.bool (decide (x < 0))), (22, [], Value.int .u64 v71), (132, [], Value.bool true), (133, [], Value.bool ok8), (135, [], Value.int .i64 (IntKind.i64.wrap h_)), (136, [], Value.int .i64 x), (139, [], Value.bool v139)] (by kernel_rfl) (by kernel_rfl) ?_
                  refine reg_enter (op := (Go.Op.call (Go.Call.mk (Go.Callee.value (Go.Operand.func 24)) #[(Go.Operand.tmp 133), (Go.Operand.tmp 135), (Go.Operand.tmp 136), (Go.Operand.tmp 139)] #[4, 2, 2, 4]))) (ty := 4) (dst := some 140) 24 #[Value.bool ok8, Value.int .i64 (IntKind.i64.wrap h_), Value.int .i64 x, Value.bool v139] (by kernel_rfl) (fun ww => by kernel_rfl) (Calls.mono h ?_)
                  rintro _ w24 ⟨v140, rfl, h⟩
                  refine ⟨_, rfl, ?_⟩
                  refine reg_run [.plain, .plain, .plain, .plain, .plain, .plain, .plain, .plain] 77 [(142, [], Value.bool v140), (143, [(142, true)], Value.bool ok9), (145, [(142, true)], Value.int .i64 (IntKind.i64.wrap i)), (146, [(142, true)], Value.int .i64 x), (147, [(142, true)], Value.bool (decide (x < 0))), (148, [(142, true)], Value.int .u64 v71)] (by kernel_rfl) (by kernel_rfl) ?_
                  refine reg_split 142 v140 (by kernel_rfl) (fun hb => ?_) (fun hb => ?_)
                  · replace h := h.1 hb
                    refine reg_run [] 77 [(142, [], Value.bool true), (143, [], Value.bool ok9), (145, [], Value.int .i64 (IntKind.i64.wrap i)), (146, [], Value.int .i64 x), (147, [], Value.bool (decide (x < 0))), (148, [], Value.int .u64 v71)] (by kernel_rfl) (by kernel_rfl) ?_
                    refine reg_run [] 77 [(142, [], Value.bool true), (143, [], Value.bool ok9), (145, [], Value.int .i64 (IntKind.i64.wrap i)), (146, [], Value.int .i64 x), (147, [], Value.bool (decide (x < 0))), (148, [], Value.int .u64 v71)] (by kernel_rfl) (by kernel_rfl) ?_
                    refine reg_enter (op := (Go.Op.call (Go.Call.mk (Go.Callee.value (Go.Operand.func 25)) #[(Go.Operand.tmp 147), (Go.Operand.tmp 148), (Go.Operand.const (Go.Value.int Go.IntKind.i64 64)), (Go.Operand.const (Go.Value.bool false))] #[4, 42, 3, 4]))) (ty := 4) (dst := some 149) 25 #[Value.bool (decide (x < 0)), Value.int .u64 v71, Value.int .i64 64, Value.bool false] (by kernel_rfl) (fun ww => by kernel_rfl) (Calls.mono h ?_)
                    rintro _ w25 ⟨v149, rfl, h⟩
                    refine ⟨_, rfl, ?_⟩
                    refine reg_run [] 78 [(142, [], Value.bool true), (143, [], Value.bool ok9), (145, [], Value.int .i64 (IntKind.i64.wrap i)), (146, [], Value.int .i64 x), (149, [], Value.bool v149)] (by kernel_rfl) (by kernel_rfl) ?_
                    refine reg_enter (op := (Go.Op.call (Go.Call.mk (Go.Callee.value (Go.Operand.func 24)) #[(Go.Operand.tmp 143), (Go.Operand.tmp 145), (Go.Operand.tmp 146), (Go.Operand.tmp 149)] #[4, 2, 2, 4]))) (ty := 4) (dst := some 150) 24 #[Value.bool ok9, Value.int .i64 (IntKind.i64.wrap i), Value.int .i64 x, Value.bool v149] (by kernel_rfl) (fun ww => by kernel_rfl) (Calls.mono h ?_)
                    rintro _ w26 ⟨v150, rfl, h⟩
                    refine ⟨_, rfl, ?_⟩
                    refine reg_run [.plain, .plain] 81 [(2, [], Value.bool v150)] (by kernel_rfl) (by kernel_rfl) ?_
                    refine reg_end [(2, Value.bool v150)] (by kernel_rfl) (by kernel_rfl) ?_
                    change WpE _ _ c_towpathlaw01_NumFits_36 _ _ _
                    refine wpE_ret (by kernel_rfl) ?_
                    repeat (first | refine seqQ_ret ?_ | refine blockQ_ret ?_ | refine loopQ_ret ?_ | refine cutQ_ret ?_)
                    exact retS (rs := [(Go.ResultVar.tmp 2)]) (v := Value.bool v150) (by kernel_rfl) (⟨by kernel_rfl, trivial⟩) ⟨v150, rfl, h⟩
                  · replace h := h.2 hb
                    refine reg_run [] 77 [(142, [], Value.bool false), (143, [], undef), (145, [], undef), (146, [], undef), (147, [], undef), (148, [], undef)] (by kernel_rfl) (by kernel_rfl) ?_
                    refine reg_run [.skip, .skip, .plain, .plain] 81 [(2, [], Value.bool false)] (by kernel_rfl) (by kernel_rfl) ?_
                    refine reg_end [(2, Value.bool false)] (by kernel_rfl) (by kernel_rfl) ?_
                    change WpE _ _ c_towpathlaw01_NumFits_36 _ _ _
                    refine wpE_ret (by kernel_rfl) ?_
                    repeat (first | refine seqQ_ret ?_ | refine blockQ_ret ?_ | refine loopQ_ret ?_ | refine cutQ_ret ?_)
                    exact retS (rs := [(Go.ResultVar.tmp 2)]) (v := Value.bool false) (by kernel_rfl) (⟨by kernel_rfl, trivial⟩) ⟨false, rfl, h⟩
                · replace h := h.2 hb
                  refine reg_run [] 67 [(0, [], Value.int .i64 x), (19, [], Value.int .u64 i), (20, [], Value.bool ok9), (21, [], Value.bool (decide (x < 0))), (22, [], Value.int .u64 v71), (132, [], Value.bool false), (133, [], undef), (135, [], undef), (136, [], undef), (137, [], undef), (138, [], undef)] (by kernel_rfl) (by kernel_rfl) ?_
                  refine reg_run [.skip, .skip, .plain, .plain, .skip, .skip, .skip, .skip, .skip, .skip, .skip, .skip, .plain, .plain] 81 [(2, [], Value.bool false)] (by kernel_rfl) (by kernel_rfl) ?_
                  refine reg_end [(2, Value.bool false)] (by kernel_rfl) (by kernel_rfl) ?_
                  change WpE _ _ c_towpathlaw01_NumFits_36 _ _ _
                  refine wpE_ret (by kernel_rfl) ?_
                  repeat (first | refine seqQ_ret ?_ | refine blockQ_ret ?_ | refine loopQ_ret ?_ | refine cutQ_ret ?_)
                  exact retS (rs := [(Go.ResultVar.tmp 2)]) (v := Value.bool false) (by kernel_rfl) (⟨by kernel_rfl, trivial⟩) ⟨false, rfl, h⟩
              · replace h := h.2 hb
                refine reg_run [] 57 [(0, [], Value.int .i64 x), (17, [], Value.int .u32 h_), (18, [], Value.bool ok8), (19, [], Value.int .u64 i), (20, [], Value.bool ok9), (21, [], Value.bool (decide (x < 0))), (22, [], Value.int .u64 v71), (122, [], Value.bool false), (123, [], undef), (125, [], undef), (126, [], undef), (127, [], undef), (128, [], undef)] (by kernel_rfl) (by kernel_rfl) ?_
                refine reg_run [.skip, .skip, .plain, .plain, .skip, .skip, .skip, .skip, .skip, .skip, .skip, .skip, .plain, .plain, .skip, .skip, .skip, .skip, .skip, .skip, .skip, .skip, .plain, .plain] 81 [(2, [], Value.bool false)] (by kernel_rfl) (by kernel_rfl) ?_
                refine reg_end [(2, Value.bool false)] (by kernel_rfl) (by kernel_rfl) ?_
                change WpE _ _ c_towpathlaw01_NumFits_36 _ _ _
                refine wpE_ret (by kernel_rfl) ?_
                repeat (first | refine seqQ_ret ?_ | refine blockQ_ret ?_ | refine loopQ_ret ?_ | refine cutQ_ret ?_)
                exact retS (rs := [(Go.ResultVar.tmp 2)]) (v := Value.bool false) (by kernel_rfl) (⟨by kernel_rfl, trivial⟩) ⟨false, rfl, h⟩
            · replace h := h.2 hb
              refine reg_run [] 47 [(0, [], Value.int .i64 x), (15, [], Value.int .u16 g), (16, [], Value.bool ok7), (17, [], Value.int .u32 h_), (18, [], Value.bool ok8), (19, [], Value.int .u64 i), (20, [], Value.bool ok9), (21, [], Value.bool (decide (x < 0))), (22, [], Value.int .u64 v71), (112, [], Value.bool false), (113, [], undef), (115, [], undef), (116, [], undef), (117, [], undef), (118, [], undef)] (by kernel_rfl) (by kernel_rfl) ?_
              refine reg_run [.skip, .skip, .plain, .plain, .skip, .skip, .skip, .skip, .skip, .skip, .skip, .skip, .plain, .plain, .skip, .skip, .skip, .skip, .skip, .skip, .skip, .skip, .plain, .plain, .skip, .skip, .skip, .skip, .skip, .skip, .skip, .skip, .plain, .plain] 81 [(2, [], Value.bool false)] (by kernel_rfl) (by kernel_rfl) ?_
              refine reg_end [(2, Value.bool false)] (by kernel_rfl) (by kernel_rfl) ?_
              change WpE _ _ c_towpathlaw01_NumFits_36 _ _ _
              refine wpE_ret (by kernel_rfl) ?_
              repeat (first | refine seqQ_ret ?_ | refine blockQ_ret ?_ | refine loopQ_ret ?_ | refine cutQ_ret ?_)
              exact retS (rs := [(Go.ResultVar.tmp 2)]) (v := Value.bool false) (by kernel_rfl) (⟨by kernel_rfl, trivial⟩) ⟨false, rfl, h⟩
          · replace h := h.2 hb
            refine reg_run [] 38 [(0, [], Value.int .i64 x), (13, [], Value.int .u8 f), (14, [], Value.bool ok6), (15, [], Value.int .u16 g), (16, [], Value.bool ok7), (17, [], Value.int .u32 h_), (18, [], Value.bool ok8), (19, [], Value.int .u64 i), (20, [], Value.bool ok9), (21, [], Value.bool (decide (x < 0))), (22, [], Value.int .u64 v71), (106, [], Value.bool false), (107, [], undef), (108, [], undef), (109, [], undef)] (by kernel_rfl) (by kernel_rfl) ?_
            refine reg_run [.skip, .plain, .plain, .skip, .skip, .skip, .skip, .skip, .skip, .skip, .skip, .plain, .plain, .skip, .skip, .skip, .skip, .skip, .skip, .skip, .skip, .plain, .plain, .skip, .skip, .skip, .skip, .skip, .skip, .skip, .skip, .plain, .plain, .skip, .skip, .skip, .skip, .skip, .skip, .skip, .skip, .plain, .plain] 81 [(2, [], Value.bool false)] (by kernel_rfl) (by kernel_rfl) ?_
            refine reg_end [(2, Value.bool false)] (by kernel_rfl) (by kernel_rfl) ?_
            change WpE _ _ c_towpathlaw01_NumFits_36 _ _ _
            refine wpE_ret (by kernel_rfl) ?_
            repeat (first | refine seqQ_ret ?_ | refine blockQ_ret ?_ | refine loopQ_ret ?_ | refine cutQ_ret ?_)
            exact retS (rs := [(Go.ResultVar.tmp 2)]) (v := Value.bool false) (by kernel_rfl) (⟨by kernel_rfl, trivial⟩) ⟨false, rfl, h⟩
        · replace h := h.2 hb
          refine reg_run [] 32 [(0, [], Value.int .i64 x), (11, [], Value.int .i64 e), (12, [], Value.bool ok5), (13, [], Value.int .u8 f), (14, [], Value.bool ok6), (15, [], Value.int .u16 g), (16, [], Value.bool ok7), (17, [], Value.int .u32 h_), (18, [], Value.bool ok8), (19, [], Value.int .u64 i), (20, [], Value.bool ok9), (21, [], Value.bool (decide (x < 0))), (22, [], Value.int .u64 v71), (100, [], Value.bool false), (101, [], undef), (102, [], undef), (103, [], undef)] (by kernel_rfl) (by kernel_rfl) ?_
          refine reg_run [.skip, .plain, .plain, .skip, .skip, .skip, .skip, .plain, .plain, .skip, .skip, .skip, .skip, .skip, .skip, .skip, .skip, .plain, .plain, .skip, .skip, .skip, .skip, .skip, .skip, .skip, .skip, .plain, .plain, .skip, .skip, .skip, .skip, .skip, .skip, .skip, .skip, .plain, .plain, .skip, .skip, .skip, .skip, .skip, .skip, .skip, .skip, .plain, .plain] 81 [(2, [], Value.bool false)] (by kernel_rfl) (by kernel_rfl) ?_
          refine reg_end [(2, Value.bool false)] (by kernel_rfl) (by kernel_rfl) ?_
          change WpE _ _ c_towpathlaw01_NumFits_36 _ _ _
          refine wpE_ret (by kernel_rfl) ?_
          repeat (first | refine seqQ_ret ?_ | refine blockQ_ret ?_ | refine loopQ_ret ?_ | refine cutQ_ret ?_)
          exact retS (rs := [(Go.ResultVar.tmp 2)]) (v := Value.bool false) (by kernel_rfl) (⟨by kernel_rfl, trivial⟩) ⟨false, rfl, h⟩
      · replace h := h.2 hb
        refine reg_run [] 25 [(0, [], Value.int .i64 x), (9, [], Value.int .i64 d), (10, [], Value.bool ok4), (11, [], Value.int .i64 e), (12, [], Value.bool ok5), (13, [], Value.int .u8 f), (14, [], Value.bool ok6), (15, [], Value.int .u16 g), (16, [], Value.bool ok7), (17, [], Value.int .u32 h_), (18, [], Value.bool ok8), (19, [], Value.int .u64 i), (20, [], Value.bool ok9), (21, [], Value.bool (decide (x < 0))), (22, [], Value.int .u64 v71), (90, [], Value.bool false), (91, [], undef), (93, [], undef), (94, [], undef), (95, [], undef), (96, [], undef)] (by kernel_rfl) (by kernel_rfl) ?_
        refine reg_run [.skip, .skip, .plain, .plain, .skip, .skip, .skip, .skip, .plain, .plain, .skip, .skip, .skip, .skip, .plain, .plain, .skip, .skip, .skip, .skip, .skip, .skip, .skip, .skip, .plain, .plain, .skip, .skip, .skip, .skip, .skip, .skip, .skip, .skip, .plain, .plain, .skip, .skip, .skip, .skip, .skip, .skip, .skip, .skip, .plain, .plain, .skip, .skip, .skip, .skip, .skip, .skip, .skip, .skip, .plain, .plain] 81 [(2, [], Value.bool false)] (by kernel_rfl) (by kernel_rfl) ?_
        refine reg_end [(2, Value.bool false)] (by kernel_rfl) (by kernel_rfl) ?_
        change WpE _ _ c_towpathlaw01_NumFits_36 _ _ _
        refine wpE_ret (by kernel_rfl) ?_
        repeat (first | refine seqQ_ret ?_ | refine blockQ_ret ?_ | refine loopQ_ret ?_ | refine cutQ_ret ?_)
        exact retS (rs := [(Go.ResultVar.tmp 2)]) (v := Value.bool false) (by kernel_rfl) (⟨by kernel_rfl, trivial⟩) ⟨false, rfl, h⟩
    · replace h := h.2 hb
      refine reg_run [] 15 [(0, [], Value.int .i64 x), (7, [], Value.int .i32 c), (8, [], Value.bool ok3), (9, [], Value.int .i64 d), (10, [], Value.bool ok4), (11, [], Value.int .i64 e), (12, [], Value.bool ok5), (13, [], Value.int .u8 f), (14, [], Value.bool ok6), (15, [], Value.int .u16 g), (16, [], Value.bool ok7), (17, [], Value.int .u32 h_), (18, [], Value.bool ok8), (19, [], Value.int .u64 i), (20, [], Value.bool ok9), (21, [], Value.bool (decide (x < 0))), (22, [], Value.int .u64 v71), (80, [], Value.bool false), (81, [], undef), (83, [], undef), (84, [], undef), (85, [], undef), (86, [], undef)] (by kernel_rfl) (by kernel_rfl) ?_
      refine reg_run [.skip, .skip, .plain, .plain, .skip, .skip, .skip, .skip, .skip, .skip, .skip, .skip, .plain, .plain, .skip, .skip, .skip, .skip, .plain, .plain, .skip, .skip, .skip, .skip, .plain, .plain, .skip, .skip, .skip, .skip, .skip, .skip, .skip, .skip, .plain, .plain, .skip, .skip, .skip, .skip, .skip, .skip, .skip, .skip, .plain, .plain, .skip, .skip, .skip, .skip, .skip, .skip, .skip, .skip, .plain, .plain, .skip, .skip, .skip, .skip, .skip, .skip, .skip, .skip, .plain, .plain] 81 [(2, [], Value.bool false)] (by kernel_rfl) (by kernel_rfl) ?_
      refine reg_end [(2, Value.bool false)] (by kernel_rfl) (by kernel_rfl) ?_
      change WpE _ _ c_towpathlaw01_NumFits_36 _ _ _
      refine wpE_ret (by kernel_rfl) ?_
      repeat (first | refine seqQ_ret ?_ | refine blockQ_ret ?_ | refine loopQ_ret ?_ | refine cutQ_ret ?_)
      exact retS (rs := [(Go.ResultVar.tmp 2)]) (v := Value.bool false) (by kernel_rfl) (⟨by kernel_rfl, trivial⟩) ⟨false, rfl, h⟩
  · rintro e w' ⟨v, rfl, r0, rfl, h⟩; exact ⟨r0, rfl, h⟩

/-! ### towpath/towpathlaw01.NumBare (function 4) -/
noncomputable def c_towpathlaw01_NumBare_0 : Code := (Try.f4.body).getD Code.skip
noncomputable def c_towpathlaw01_NumBare_1 : Code := Code.l c_towpathlaw01_NumBare_0
noncomputable def r_towpathlaw01_NumBare_1 : Array Oper := Code.ops c_towpathlaw01_NumBare_1
noncomputable def c_towpathlaw01_NumBare_3 : Code := Code.r c_towpathlaw01_NumBare_0
noncomputable def c_towpathlaw01_NumBare_4 : Code := Code.l c_towpathlaw01_NumBare_3
noncomputable def r_towpathlaw01_NumBare_4 : Array Oper := Code.ops c_towpathlaw01_NumBare_4
noncomputable def c_towpathlaw01_NumBare_6 : Code := Code.r c_towpathlaw01_NumBare_3
noncomputable def c_towpathlaw01_NumBare_7 : Code := Code.l c_towpathlaw01_NumBare_6
noncomputable def r_towpathlaw01_NumBare_7 : Array Oper := Code.ops c_towpathlaw01_NumBare_7
noncomputable def c_towpathlaw01_NumBare_9 : Code := Code.r c_towpathlaw01_NumBare_6
noncomputable def c_towpathlaw01_NumBare_10 : Code := Code.l c_towpathlaw01_NumBare_9
noncomputable def r_towpathlaw01_NumBare_10 : Array Oper := Code.ops c_towpathlaw01_NumBare_10
noncomputable def c_towpathlaw01_NumBare_12 : Code := Code.r c_towpathlaw01_NumBare_9
noncomputable def c_towpathlaw01_NumBare_13 : Code := Code.l c_towpathlaw01_NumBare_12
noncomputable def r_towpathlaw01_NumBare_13 : Array Oper := Code.ops c_towpathlaw01_NumBare_13
noncomputable def c_towpathlaw01_NumBare_15 : Code := Code.r c_towpathlaw01_NumBare_12
noncomputable def c_towpathlaw01_NumBare_16 : Code := Code.l c_towpathlaw01_NumBare_15
noncomputable def r_towpathlaw01_NumBare_16 : Array Oper := Code.ops c_towpathlaw01_NumBare_16
noncomputable def c_towpathlaw01_NumBare_18 : Code := Code.r c_towpathlaw01_NumBare_15
noncomputable def c_towpathlaw01_NumBare_19 : Code := Code.l c_towpathlaw01_NumBare_18
noncomputable def r_towpathlaw01_NumBare_19 : Array Oper := Code.ops c_towpathlaw01_NumBare_19
noncomputable def c_towpathlaw01_NumBare_21 : Code := Code.r c_towpathlaw01_NumBare_18
noncomputable def c_towpathlaw01_NumBare_22 : Code := Code.l c_towpathlaw01_NumBare_21
noncomputable def r_towpathlaw01_NumBare_22 : Array Oper := Code.ops c_towpathlaw01_NumBare_22
noncomputable def c_towpathlaw01_NumBare_24 : Code := Code.r c_towpathlaw01_NumBare_21
noncomputable def c_towpathlaw01_NumBare_25 : Code := Code.l c_towpathlaw01_NumBare_24
noncomputable def r_towpathlaw01_NumBare_25 : Array Oper := Code.ops c_towpathlaw01_NumBare_25
noncomputable def c_towpathlaw01_NumBare_27 : Code := Code.r c_towpathlaw01_NumBare_24
noncomputable def c_towpathlaw01_NumBare_28 : Code := Code.l c_towpathlaw01_NumBare_27
noncomputable def r_towpathlaw01_NumBare_28 : Array Oper := Code.ops c_towpathlaw01_NumBare_28
noncomputable def c_towpathlaw01_NumBare_30 : Code := Code.r c_towpathlaw01_NumBare_27
noncomputable def c_towpathlaw01_NumBare_31 : Code := Code.l c_towpathlaw01_NumBare_30
noncomputable def r_towpathlaw01_NumBare_31 : Array Oper := Code.ops c_towpathlaw01_NumBare_31
noncomputable def c_towpathlaw01_NumBare_33 : Code := Code.r c_towpathlaw01_NumBare_30
noncomputable def c_towpathlaw01_NumBare_34 : Code := Code.l c_towpathlaw01_NumBare_33
noncomputable def r_towpathlaw01_NumBare_34 : Array Oper := Code.ops c_towpathlaw01_NumBare_34
noncomputable def c_towpathlaw01_NumBare_36 : Code := Code.r c_towpathlaw01_NumBare_33

set_option maxRecDepth 100000 in
theorem S_towpathlaw01_NumBare {x : Int} {w : World} {R : Bool → World → Prop} (h : F_towpathlaw01_NumBare x R w) : C_towpathlaw01_NumBare x w R := by
  unfold F_towpathlaw01_NumBare at h
  unfold C_towpathlaw01_NumBare
  refine Calls.mono (calls_of_wpE (args := [Value.int .u64 x]) (R := fun v w' => ∃ (r0 : Bool), v = Value.bool r0 ∧ R r0 w') Try.func4 (c := c_towpathlaw01_NumBare_0) (by kernel_rfl) 163 (by kernel_rfl) (by kernel_rfl) [(0, Value.int .u64 x)] (by kernel_rfl) ?_) ?_
  · refine wpE_seq (x := c_towpathlaw01_NumBare_1) (y := c_towpathlaw01_NumBare_3) (by kernel_rfl) ?_
    refine wpE_region (id := 0) (ops := r_towpathlaw01_NumBare_1) (by kernel_rfl) ?_
    refine reg_run [.plain] 1 [(0, [], Value.int .u64 x)] (by kernel_rfl) (by kernel_rfl) ?_
    refine reg_end [(0, Value.int .u64 x)] (by kernel_rfl) (by kernel_rfl) ?_
    change WpE _ _ c_towpathlaw01_NumBare_3 _ _ _
    refine wpE_seq (x := c_towpathlaw01_NumBare_4) (y := c_towpathlaw01_NumBare_6) (by kernel_rfl) ?_
    refine wpE_region (id := 1) (ops := r_towpathlaw01_NumBare_4) (by kernel_rfl) ?_
    refine reg_run [.plain] 1 [(0, [], Value.int .u64 x), (24, [], Value.int .u64 x)] (by kernel_rfl) (by kernel_rfl) ?_
    refine reg_enter (op := (Go.Op.call (Go.Call.mk (Go.Callee.value (Go.Operand.func 26)) #[(Go.Operand.tmp 24)] #[42]))) (ty := 23) (dst := some 25) 26 #[Value.int .u64 x] (by kernel_rfl) (fun ww => by kernel_rfl) (Calls.mono h ?_)
    rintro _ w1 ⟨a_, ok1, rfl, h⟩
    refine ⟨_, rfl, ?_⟩
    refine reg_run [.plain, .plain, .plain, .plain, .plain] 7 [(0, [], Value.int .u64 x), (3, [], Value.int .i8 a_), (4, [], Value.bool ok1)] (by kernel_rfl) (by kernel_rfl) ?_
    refine reg_end [(0, Value.int .u64 x), (3, Value.int .i8 a_), (4, Value.bool ok1)] (by kernel_rfl) (by kernel_rfl) ?_
    change WpE _ _ c_towpathlaw01_NumBare_6 _ _ _
    refine wpE_seq (x := c_towpathlaw01_NumBare_7) (y := c_towpathlaw01_NumBare_9) (by kernel_rfl) ?_
    refine wpE_region (id := 2) (ops := r_towpathlaw01_NumBare_7) (by kernel_rfl) ?_
    refine reg_run [.plain] 1 [(0, [], Value.int .u64 x), (3, [], Value.int .i8 a_), (4, [], Value.bool ok1), (29, [], Value.int .u64 x)] (by kernel_rfl) (by kernel_rfl) ?_
    refine reg_enter (op := (Go.Op.call (Go.Call.mk (Go.Callee.value (Go.Operand.func 27)) #[(Go.Operand.tmp 29)] #[42]))) (ty := 26) (dst := some 30) 27 #[Value.int .u64 x] (by kernel_rfl) (fun ww => by kernel_rfl) (Calls.mono h ?_)
    rintro _ w2 ⟨b_, ok2, rfl, h⟩
    refine ⟨_, rfl, ?_⟩
    refine reg_run [.plain, .plain, .plain, .plain, .plain] 7 [(0, [], Value.int .u64 x), (3, [], Value.int .i8 a_), (4, [], Value.bool ok1), (5, [], Value.int .i16 b_), (6, [], Value.bool ok2)] (by kernel_rfl) (by kernel_rfl) ?_
    refine reg_end [(0, Value.int .u64 x), (3, Value.int .i8 a_), (4, Value.bool ok1), (5, Value.int .i16 b_), (6, Value.bool ok2)] (by kernel_rfl) (by kernel_rfl) ?_
    change WpE _ _ c_towpathlaw01_NumBare_9 _ _ _
    refine wpE_seq (x := c_towpathlaw01_NumBare_10) (y := c_towpathlaw01_NumBare_12) (by kernel_rfl) ?_
    refine wpE_region (id := 3) (ops := r_towpathlaw01_NumBare_10) (by kernel_rfl) ?_
    refine reg_run [.plain] 1 [(0, [], Value.int .u64 x), (3, [], Value.int .i8 a_), (4, [], Value.bool ok1), (5, [], Value.int .i16 b_), (6, [], Value.bool ok2), (34, [], Value.int .u64 x)] (by kernel_rfl) (by kernel_rfl) ?_
    refine reg_enter (op := (Go.Op.call (Go.Call.mk (Go.Callee.value (Go.Operand.func 28)) #[(Go.Operand.tmp 34)] #[42]))) (ty := 28) (dst := some 35) 28 #[Value.int .u64 x] (by kernel_rfl) (fun ww => by kernel_rfl) (Calls.mono h ?_)
    rintro _ w3 ⟨c, ok3, rfl, h⟩
    refine ⟨_, rfl, ?_⟩
    refine reg_run [.plain, .plain, .plain, .plain, .plain] 7 [(0, [], Value.int .u64 x), (3, [], Value.int .i8 a_), (4, [], Value.bool ok1), (5, [], Value.int .i16 b_), (6, [], Value.bool ok2), (7, [], Value.int .i32 c), (8, [], Value.bool ok3)] (by kernel_rfl) (by kernel_rfl) ?_
    refine reg_end [(0, Value.int .u64 x), (3, Value.int .i8 a_), (4, Value.bool ok1), (5, Value.int .i16 b_), (6, Value.bool ok2), (7, Value.int .i32 c), (8, Value.bool ok3)] (by kernel_rfl) (by kernel_rfl) ?_
    change WpE _ _ c_towpathlaw01_NumBare_12 _ _ _
    refine wpE_seq (x := c_towpathlaw01_NumBare_13) (y := c_towpathlaw01_NumBare_15) (by kernel_rfl) ?_
    refine wpE_region (id := 4) (ops := r_towpathlaw01_NumBare_13) (by kernel_rfl) ?_
    refine reg_run [.plain] 1 [(0, [], Value.int .u64 x), (3, [], Value.int .i8 a_), (4, [], Value.bool ok1), (5, [], Value.int .i16 b_), (6, [], Value.bool ok2), (7, [], Value.int .i32 c), (8, [], Value.bool ok3), (39, [], Value.int .u64 x)] (by kernel_rfl) (by kernel_rfl) ?_
    refine reg_enter (op := (Go.Op.call (Go.Call.mk (Go.Callee.value (Go.Operand.func 29)) #[(Go.Operand.tmp 39)] #[42]))) (ty := 30) (dst := some 40) 29 #[Value.int .u64 x] (by kernel_rfl) (fun ww => by kernel_rfl) (Calls.mono h ?_)
    rintro _ w4 ⟨d, ok4, rfl, h⟩
    refine ⟨_, rfl, ?_⟩
    refine reg_run [.plain, .plain, .plain, .plain, .plain] 7 [(0, [], Value.int .u64 x), (3, [], Value.int .i8 a_), (4, [], Value.bool ok1), (5, [], Value.int .i16 b_), (6, [], Value.bool ok2), (7, [], Value.int .i32 c), (8, [], Value.bool ok3), (9, [], Value.int .i64 d), (10, [], Value.bool ok4)] (by kernel_rfl) (by kernel_rfl) ?_
    refine reg_end [(0, Value.int .u64 x), (3, Value.int .i8 a_), (4, Value.bool ok1), (5, Value.int .i16 b_), (6, Value.bool ok2), (7, Value.int .i32 c), (8, Value.bool ok3), (9, Value.int .i64 d), (10, Value.bool ok4)] (by kernel_rfl) (by kernel_rfl) ?_
    change WpE _ _ c_towpathlaw01_NumBare_15 _ _ _
    refine wpE_seq (x := c_towpathlaw01_NumBare_16) (y := c_towpathlaw01_NumBare_18) (by kernel_rfl) ?_
    refine wpE_region (id := 5) (ops := r_towpathlaw01_NumBare_16) (by kernel_rfl) ?_
    refine reg_run [.plain] 1 [(0, [], Value.int .u64 x), (3, [], Value.int .i8 a_), (4, [], Value.bool ok1), (5, [], Value.int .i16 b_), (6, [], Value.bool ok2), (7, [], Value.int .i32 c), (8, [], Value.bool ok3), (9, [], Value.int .i64 d), (10, [], Value.bool ok4), (44, [], Value.int .u64 x)] (by kernel_rfl) (by kernel_rfl) ?_
    refine reg_enter (op := (Go.Op.call (Go.Call.mk (Go.Callee.value (Go.Operand.func 30)) #[(Go.Operand.tmp 44)] #[42]))) (ty := 32) (dst := some 45) 30 #[Value.int .u64 x] (by kernel_rfl) (fun ww => by kernel_rfl) (Calls.mono h ?_)
    rintro _ w5 ⟨e, ok5, rfl, h⟩
    refine ⟨_, rfl, ?_⟩
    refine reg_run [.plain, .plain, .plain, .plain, .plain] 7 [(0, [], Value.int .u64 x), (3, [], Value.int .i8 a_), (4, [], Value.bool ok1), (5, [], Value.int .i16 b_), (6, [], Value.bool ok2), (7, [], Value.int .i32 c), (8, [], Value.bool ok3), (9, [], Value.int .i64 d), (10, [], Value.bool ok4), (11, [], Value.int .i64 e), (12, [], Value.bool ok5)] (by kernel_rfl) (by kernel_rfl) ?_
    refine reg_end [(0, Value.int .u64 x), (3, Value.int .i8 a_), (4, Value.bool ok1), (5, Value.int .i16 b_), (6, Value.bool ok2), (7, Value.int .i32 c), (8, Value.bool ok3), (9, Value.int .i64 d), (10, Value.bool ok4), (11, Value.int .i64 e), (12, Value.bool ok5)] (by kernel_rfl) (by kernel_rfl) ?_
    change WpE _ _ c_towpathlaw01_NumBare_18 _ _ _
    refine wpE_seq (x := c_towpathlaw01_NumBare_19) (y := c_towpathlaw01_NumBare_21) (by kernel_rfl) ?_
    refine wpE_region (id := 6) (ops := r_towpathlaw01_NumBare_19) (by kernel_rfl) ?_
    refine reg_run [.plain] 1 [(0, [], Value.int .u64 x), (3, [], Value.int .i8 a_), (4, [], Value.bool ok1), (5, [], Value.int .i16 b_), (6, [], Value.bool ok2), (7, [], Value.int .i32 c), (8, [], Value.bool ok3), (9, [], Value.int .i64 d), (10, [], Value.bool ok4), (11, [], Value.int .i64 e), (12, [], Value.bool ok5), (49, [], Value.int .u64 x)] (by kernel_rfl) (by kernel_rfl) ?_
    refine reg_enter (op := (Go.Op.call (Go.Call.mk (Go.Callee.value (Go.Operand.func 31)) #[(Go.Operand.tmp 49)] #[42]))) (ty := 34) (dst := some 50) 31 #[Value.int .u64 x] (by kernel_rfl) (fun ww => by kernel_rfl) (Calls.mono h ?_)
    rintro _ w6 ⟨f, ok6, rfl, h⟩
    refine ⟨_, rfl, ?_⟩
    refine reg_run [.plain, .plain, .plain, .plain, .plain] 7 [(0, [], Value.int .u64 x), (3, [], Value.int .i8 a_), (4, [], Value.bool ok1), (5, [], Value.int .i16 b_), (6, [], Value.bool ok2), (7, [], Value.int .i32 c), (8, [], Value.bool ok3), (9, [], Value.int .i64 d), (10, [], Value.bool ok4), (11, [], Value.int .i64 e), (12, [], Value.bool ok5), (13, [], Value.int .u8 f), (14, [], Value.bool ok6)] (by kernel_rfl) (by kernel_rfl) ?_
    refine reg_end [(0, Value.int .u64 x), (3, Value.int .i8 a_), (4, Value.bool ok1), (5, Value.int .i16 b_), (6, Value.bool ok2), (7, Value.int .i32 c), (8, Value.bool ok3), (9, Value.int .i64 d), (10, Value.bool ok4), (11, Value.int .i64 e), (12, Value.bool ok5), (13, Value.int .u8 f), (14, Value.bool ok6)] (by kernel_rfl) (by kernel_rfl) ?_
    change WpE _ _ c_towpathlaw01_NumBare_21 _ _ _
    refine wpE_seq (x := c_towpathlaw01_NumBare_22) (y := c_towpathlaw01_NumBare_24) (by kernel_rfl) ?_
    refine wpE_region (id := 7) (ops := r_towpathlaw01_NumBare_22) (by kernel_rfl) ?_
    refine reg_run [.plain] 1 [(0, [], Value.int .u64 x), (3, [], Value.int .i8 a_), (4, [], Value.bool ok1), (5, [], Value.int .i16 b_), (6, [], Value.bool ok2), (7, [], Value.int .i32 c), (8, [], Value.bool ok3), (9, [], Value.int .i64 d), (10, [], Value.bool ok4), (11, [], Value.int .i64 e), (12, [], Value.bool ok5), (13, [], Value.int .u8 f), (14, [], Value.bool ok6), (54, [], Value.int .u64 x)] (by kernel_rfl) (by kernel_rfl) ?_
    refine reg_enter (op := (Go.Op.call (Go.Call.mk (Go.Callee.value (Go.Operand.func 32)) #[(Go.Operand.tmp 54)] #[42]))) (ty := 56) (dst := some 55) 32 #[Value.int .u64 x] (by kernel_rfl) (fun ww => by kernel_rfl) (Calls.mono h ?_)
    rintro _ w7 ⟨g, ok7, rfl, h⟩
    refine ⟨_, rfl, ?_⟩
    refine reg_run [.plain, .plain, .plain, .plain, .plain] 7 [(0, [], Value.int .u64 x), (3, [], Value.int .i8 a_), (4, [], Value.bool ok1), (5, [], Value.int .i16 b_), (6, [], Value.bool ok2), (7, [], Value.int .i32 c), (8, [], Value.bool ok3), (9, [], Value.int .i64 d), (10, [], Value.bool ok4), (11, [], Value.int .i64 e), (12, [], Value.bool ok5), (13, [], Value.int .u8 f), (14, [], Value.bool ok6), (15, [], Value.int .u16 g), (16, [], Value.bool ok7)] (by kernel_rfl) (by kernel_rfl) ?_
    refine reg_end [(0, Value.int .u64 x), (3, Value.int .i8 a_), (4, Value.bool ok1), (5, Value.int .i16 b_), (6, Value.bool ok2), (7, Value.int .i32 c), (8, Value.bool ok3), (9, Value.int .i64 d), (10, Value.bool ok4), (11, Value.int .i64 e), (12, Value.bool ok5), (13, Value.int .u8 f), (14, Value.bool ok6), (15, Value.int .u16 g), (16, Value.bool ok7)] (by kernel_rfl) (by kernel_rfl) ?_
    change WpE _ _ c_towpathlaw01_NumBare_24 _ _ _
    refine wpE_seq (x := c_towpathlaw01_NumBare_25) (y := c_towpathlaw01_NumBare_27) (by kernel_rfl) ?_
    refine wpE_region (id := 8) (ops := r_towpathlaw01_NumBare_25) (by kernel_rfl) ?_
    refine reg_run [.plain] 1 [(0, [], Value.int .u64 x), (3, [], Value.int .i8 a_), (4, [], Value.bool ok1), (5, [], Value.int .i16 b_), (6, [], Value.bool ok2), (7, [], Value.int .i32 c), (8, [], Value.bool ok3), (9, [], Value.int .i64 d), (10, [], Value.bool ok4), (11, [], Value.int .i64 e), (12, [], Value.bool ok5), (13, [], Value.int .u8 f), (14, [], Value.bool ok6), (15, [], Value.int .u16 g), (16, [], Value.bool ok7), (59, [], Value.int .u64 x)] (by kernel_rfl) (by kernel_rfl) ?_
    refine reg_enter (op := (Go.Op.call (Go.Call.mk (Go.Callee.value (Go.Operand.func 33)) #[(Go.Operand.tmp 59)] #[42]))) (ty := 40) (dst := some 60) 33 #[Value.int .u64 x] (by kernel_rfl) (fun ww => by kernel_rfl) (Calls.mono h ?_)
    rintro _ w8 ⟨h_, ok8, rfl, h⟩
    refine ⟨_, rfl, ?_⟩
    refine reg_run [.plain, .plain, .plain, .plain, .plain] 7 [(0, [], Value.int .u64 x), (3, [], Value.int .i8 a_), (4, [], Value.bool ok1), (5, [], Value.int .i16 b_), (6, [], Value.bool ok2), (7, [], Value.int .i32 c), (8, [], Value.bool ok3), (9, [], Value.int .i64 d), (10, [], Value.bool ok4), (11, [], Value.int .i64 e), (12, [], Value.bool ok5), (13, [], Value.int .u8 f), (14, [], Value.bool ok6), (15, [], Value.int .u16 g), (16, [], Value.bool ok7), (17, [], Value.int .u32 h_), (18, [], Value.bool ok8)] (by kernel_rfl) (by kernel_rfl) ?_
    refine reg_end [(0, Value.int .u64 x), (3, Value.int .i8 a_), (4, Value.bool ok1), (5, Value.int .i16 b_), (6, Value.bool ok2), (7, Value.int .i32 c), (8, Value.bool ok3), (9, Value.int .i64 d), (10, Value.bool ok4), (11, Value.int .i64 e), (12, Value.bool ok5), (13, Value.int .u8 f), (14, Value.bool ok6), (15, Value.int .u16 g), (16, Value.bool ok7), (17, Value.int .u32 h_), (18, Value.bool ok8)] (by kernel_rfl) (by kernel_rfl) ?_
    change WpE _ _ c_towpathlaw01_NumBare_27 _ _ _
    refine wpE_seq (x := c_towpathlaw01_NumBare_28) (y := c_towpathlaw01_NumBare_30) (by kernel_rfl) ?_
    refine wpE_region (id := 9) (ops := r_towpathlaw01_NumBare_28) (by kernel_rfl) ?_
    refine reg_run [.plain] 1 [(0, [], Value.int .u64 x), (3, [], Value.int .i8 a_), (4, [], Value.bool ok1), (5, [], Value.int .i16 b_), (6, [], Value.bool ok2), (7, [], Value.int .i32 c), (8, [], Value.bool ok3), (9, [], Value.int .i64 d), (10, [], Value.bool ok4), (11, [], Value.int .i64 e), (12, [], Value.bool ok5), (13, [], Value.int .u8 f), (14, [], Value.bool ok6), (15, [], Value.int .u16 g), (16, [], Value.bool ok7), (17, [], Value.int .u32 h_), (18, [], Value.bool ok8), (64, [], Value.int .u64 x)] (by kernel_rfl) (by kernel_rfl) ?_
    refine reg_enter (op := (Go.Op.call (Go.Call.mk (Go.Callee.value (Go.Operand.func 34)) #[(Go.Operand.tmp 64)] #[42]))) (ty := 43) (dst := some 65) 34 #[Value.int .u64 x] (by kernel_rfl) (fun ww => by kernel_rfl) (Calls.mono h ?_)
    rintro _ w9 ⟨i, ok9, rfl, h⟩
    refine ⟨_, rfl, ?_⟩
    refine reg_run [.plain, .plain, .plain, .plain, .plain] 7 [(0, [], Value.int .u64 x), (3, [], Value.int .i8 a_), (4, [], Value.bool ok1), (5, [], Value.int .i16 b_), (6, [], Value.bool ok2), (7, [], Value.int .i32 c), (8, [], Value.bool ok3), (9, [], Value.int .i64 d), (10, [], Value.bool ok4), (11, [], Value.int .i64 e), (12, [], Value.bool ok5), (13, [], Value.int .u8 f), (14, [], Value.bool ok6), (15, [], Value.int .u16 g), (16, [], Value.bool ok7), (17, [], Value.int .u32 h_), (18, [], Value.bool ok8), (19, [], Value.int .u64 i), (20, [], Value.bool ok9)] (by kernel_rfl) (by kernel_rfl) ?_
    refine reg_end [(0, Value.int .u64 x), (3, Value.int .i8 a_), (4, Value.bool ok1), (5, Value.int .i16 b_), (6, Value.bool ok2), (7, Value.int .i32 c), (8, Value.bool ok3), (9, Value.int .i64 d), (10, Value.bool ok4), (11, Value.int .i64 e), (12, Value.bool ok5), (13, Value.int .u8 f), (14, Value.bool ok6), (15, Value.int .u16 g), (16, Value.bool ok7), (17, Value.int .u32 h_), (18, Value.bool ok8), (19, Value.int .u64 i), (20, Value.bool ok9)] (by kernel_rfl) (by kernel_rfl) ?_
    change WpE _ _ c_towpathlaw01_NumBare_30 _ _ _
    refine wpE_seq (x := c_towpathlaw01_NumBare_31) (y := c_towpathlaw01_NumBare_33) (by kernel_rfl) ?_
    refine wpE_region (id := 10) (ops := r_towpathlaw01_NumBare_31) (by kernel_rfl) ?_
    refine reg_run [.plain, .plain] 2 [(0, [], Value.int .u64 x), (3, [], Value.int .i8 a_), (4, [], Value.bool ok1), (5, [], Value.int .i16 b_), (6, [], Value.bool ok2), (7, [], Value.int .i32 c), (8, [], Value.bool ok3), (9, [], Value.int .i64 d), (10, [], Value.bool ok4), (11, [], Value.int .i64 e), (12, [], Value.bool ok5), (13, [], Value.int .u8 f), (14, [], Value.bool ok6), (15, [], Value.int .u16 g), (16, [], Value.bool ok7), (17, [], Value.int .u32 h_), (18, [], Value.bool ok8), (19, [], Value.int .u64 i), (20, [], Value.bool ok9), (70, [], Value.int .u16 (IntKind.u16.wrap x))] (by kernel_rfl) (by kernel_rfl) ?_
    refine reg_enter (op := (Go.Op.call (Go.Call.mk (Go.Callee.value (Go.Operand.func 35)) #[(Go.Operand.tmp 70)] #[55]))) (ty := 23) (dst := some 71) 35 #[Value.int .u16 (IntKind.u16.wrap x)] (by kernel_rfl) (fun ww => by kernel_rfl) (Calls.mono h ?_)
    rintro _ w10 ⟨small, ok, rfl, h⟩
    refine ⟨_, rfl, ?_⟩
    refine reg_run [.plain, .plain, .plain, .plain, .plain] 8 [(0, [], Value.int .u64 x), (3, [], Value.int .i8 a_), (4, [], Value.bool ok1), (5, [], Value.int .i16 b_), (6, [], Value.bool ok2), (7, [], Value.int .i32 c), (8, [], Value.bool ok3), (9, [], Value.int .i64 d), (10, [], Value.bool ok4), (11, [], Value.int .i64 e), (12, [], Value.bool ok5), (13, [], Value.int .u8 f), (14, [], Value.bool ok6), (15, [], Value.int .u16 g), (16, [], Value.bool ok7), (17, [], Value.int .u32 h_), (18, [], Value.bool ok8), (19, [], Value.int .u64 i), (20, [], Value.bool ok9), (21, [], Value.int .i8 small), (22, [], Value.bool ok)] (by kernel_rfl) (by kernel_rfl) ?_
    refine reg_end [(0, Value.int .u64 x), (3, Value.int .i8 a_), (4, Value.bool ok1), (5, Value.int .i16 b_), (6, Value.bool ok2), (7, Value.int .i32 c), (8, Value.bool ok3), (9, Value.int .i64 d), (10, Value.bool ok4), (11, Value.int .i64 e), (12, Value.bool ok5), (13, Value.int .u8 f), (14, Value.bool ok6), (15, Value.int .u16 g), (16, Value.bool ok7), (17, Value.int .u32 h_), (18, Value.bool ok8), (19, Value.int .u64 i), (20, Value.bool ok9), (21, Value.int .i8 small), (22, Value.bool ok)] (by kernel_rfl) (by kernel_rfl) ?_
    change WpE _ _ c_towpathlaw01_NumBare_33 _ _ _
    refine wpE_seq (x := c_towpathlaw01_NumBare_34) (y := c_towpathlaw01_NumBare_36) (by kernel_rfl) ?_
    refine wpE_region (id := 11) (ops := r_towpathlaw01_NumBare_34) (by kernel_rfl) ?_
    refine reg_run [.plain, .plain, .plain, .plain, .plain] 5 [(0, [], Value.int .u64 x), (5, [], Value.int .i16 b_), (6, [], Value.bool ok2), (7, [], Value.int .i32 c), (8, [], Value.bool ok3), (9, [], Value.int .i64 d), (10, [], Value.bool ok4), (11, [], Value.int .i64 e), (12, [], Value.bool ok5), (13, [], Value.int .u8 f), (14, [], Value.bool ok6), (15, [], Value.int .u16 g), (16, [], Value.bool ok7), (17, [], Value.int .u32 h_), (18, [], Value.bool ok8), (19, [], Value.int .u64 i), (20, [], Value.bool ok9), (21, [], Value.int .i8 small), (22, [], Value.bool ok), (74, [], Value.bool ok1), (76, [], Value.int .u64 (IntKind.u64.wrap a_)), (77, [], Value.int .u64 x), (78, [], Value.int .u64 x)] (by kernel_rfl) (by kernel_rfl) ?_
    refine reg_enter (op := (Go.Op.call (Go.Call.mk (Go.Callee.value (Go.Operand.func 25)) #[(Go.Operand.const (Go.Value.bool false)), (Go.Operand.tmp 78), (Go.Operand.const (Go.Value.int Go.IntKind.i64 8)), (Go.Operand.const (Go.Value.bool true))] #[4, 42, 3, 4]))) (ty := 4) (dst := some 79) 25 #[Value.bool false, Value.int .u64 x, Value.int .i64 8, Value.bool true] (by kernel_rfl) (fun ww => by kernel_rfl) (Calls.mono h ?_)
    rintro _ w11 ⟨v79, rfl, h⟩
    refine ⟨_, rfl, ?_⟩
    refine reg_run [] 6 [(0, [], Value.int .u64 x), (5, [], Value.int .i16 b_), (6, [], Value.bool ok2), (7, [], Value.int .i32 c), (8, [], Value.bool ok3), (9, [], Value.int .i64 d), (10, [], Value.bool ok4), (11, [], Value.int .i64 e), (12, [], Value.bool ok5), (13, [], Value.int .u8 f), (14, [], Value.bool ok6), (15, [], Value.int .u16 g), (16, [], Value.bool ok7), (17, [], Value.int .u32 h_), (18, [], Value.bool ok8), (19, [], Value.int .u64 i), (20, [], Value.bool ok9), (21, [], Value.int .i8 small), (22, [], Value.bool ok), (74, [], Value.bool ok1), (76, [], Value.int .u64 (IntKind.u64.wrap a_)), (77, [], Value.int .u64 x), (79, [], Value.bool v79)] (by kernel_rfl) (by kernel_rfl) ?_
    refine reg_enter (op := (Go.Op.call (Go.Call.mk (Go.Callee.value (Go.Operand.func 36)) #[(Go.Operand.tmp 74), (Go.Operand.tmp 76), (Go.Operand.tmp 77), (Go.Operand.tmp 79)] #[4, 42, 42, 4]))) (ty := 4) (dst := some 80) 36 #[Value.bool ok1, Value.int .u64 (IntKind.u64.wrap a_), Value.int .u64 x, Value.bool v79] (by kernel_rfl) (fun ww => by kernel_rfl) (Calls.mono h ?_)
    rintro _ w12 ⟨v80, rfl, h⟩
    refine ⟨_, rfl, ?_⟩
    refine reg_run [.plain, .plain, .plain, .plain, .plain, .plain] 13 [(0, [], Value.int .u64 x), (7, [], Value.int .i32 c), (8, [], Value.bool ok3), (9, [], Value.int .i64 d), (10, [], Value.bool ok4), (11, [], Value.int .i64 e), (12, [], Value.bool ok5), (13, [], Value.int .u8 f), (14, [], Value.bool ok6), (15, [], Value.int .u16 g), (16, [], Value.bool ok7), (17, [], Value.int .u32 h_), (18, [], Value.bool ok8), (19, [], Value.int .u64 i), (20, [], Value.bool ok9), (21, [], Value.int .i8 small), (22, [], Value.bool ok), (81, [], Value.bool v80), (82, [(81, true)], Value.bool ok2), (84, [(81, true)], Value.int .u64 (IntKind.u64.wrap b_)), (85, [(81, true)], Value.int .u64 x), (86, [(81, true)], Value.int .u64 x)] (by kernel_rfl) (by kernel_rfl) ?_
    refine reg_split 81 v80 (by kernel_rfl) (fun hb => ?_) (fun hb => ?_)
    · replace h := h.1 hb
      refine reg_run [] 13 [(0, [], Value.int .u64 x), (7, [], Value.int .i32 c), (8, [], Value.bool ok3), (9, [], Value.int .i64 d), (10, [], Value.bool ok4), (11, [], Value.int .i64 e), (12, [], Value.bool ok5), (13, [], Value.int .u8 f), (14, [], Value.bool ok6), (15, [], Value.int .u16 g), (16, [], Value.bool ok7), (17, [], Value.int .u32 h_), (18, [], Value.bool ok8), (19, [], Value.int .u64 i), (20, [], Value.bool ok9), (21, [], Value.int .i8 small), (22, [], Value.bool ok), (81, [], Value.bool true), (82, [], Value.bool ok2), (84, [], Value.int .u64 (IntKind.u64.wrap b_)), (85, [], Value.int .u64 x), (86, [], Value.int .u64 x)] (by kernel_rfl) (by kernel_rfl) ?_
      refine reg_run [] 13 [(0, [], Value.int .u64 x), (7, [], Value.int .i32 c), (8, [], Value.bool ok3), (9, [], Value.int .i64 d), (10, [], Value.bool ok4), (11, [], Value.int .i64 e), (12, [], Value.bool ok5), (13, [], Value.int .u8 f), (14, [], Value.bool ok6), (15, [], Value.int .u16 g), (16, [], Value.bool ok7), (17, [], Value.int .u32 h_), (18, [], Value.bool ok8), (19, [], Value.int .u64 i), (20, [], Value.bool ok9), (21, [], Value.int .i8 small), (22, [], Value.bool ok), (81, [], Value.bool true), (82, [], Value.bool ok2), (84, [], Value.int .u64 (IntKind.u64.wrap b_)), (85, [], Value.int .u64 x), (86, [], Value.int .u64 x)] (by kernel_rfl) (by kernel_rfl) ?_
      refine reg_enter (op := (Go.Op.call (Go.Call.mk (Go.Callee.value (Go.Operand.func 25)) #[(Go.Operand.const (Go.Value.bool false)), (Go.Operand.tmp 86), (Go.Operand.const (Go.Value.int Go.IntKind.i64 16)), (Go.Operand.const (Go.Value.bool true))] #[4, 42, 3, 4]))) (ty := 4) (dst := some 87) 25 #[Value.bool false, Value.int .u64 x, Value.int .i64 16, Value.bool true] (by kernel_rfl) (fun ww => by kernel_rfl) (Calls.mono h ?_)
      rintro _ w13 ⟨v87, rfl, h⟩
      refine ⟨_, rfl, ?_⟩
      refine reg_run [] 14 [(0, [], Value.int .u64 x), (7, [], Value.int .i32 c), (8, [], Value.bool ok3), (9, [], Value.int .i64 d), (10, [], Value.bool ok4), (11, [], Value.int .i64 e), (12, [], Value.bool ok5), (13, [], Value.int .u8 f), (14, [], Value.bool ok6), (15, [], Value.int .u16 g), (16, [], Value.bool ok7), (17, [], Value.int .u32 h_), (18, [], Value.bool ok8), (19, [], Value.int .u64 i), (20, [], Value.bool ok9), (21, [], Value.int .i8 small), (22, [], Value.bool ok), (81, [], Value.bool true), (82, [], Value.bool ok2), (84, [], Value.int .u64 (IntKind.u64.wrap b_)), (85, [], Value.int .u64 x), (87, [], Value.bool v87)] (by kernel_rfl) (by kernel_rfl) ?_
      refine reg_enter (op := (Go.Op.call (Go.Call.mk (Go.Callee.value (Go.Operand.func 36)) #[(Go.Operand.tmp 82), (Go.Operand.tmp 84), (Go.Operand.tmp 85), (Go.Operand.tmp 87)] #[4, 42, 42, 4]))) (ty := 4) (dst := some 88) 36 #[Value.bool ok2, Value.int .u64 (IntKind.u64.wrap b_), Value.int .u64 x, Value.bool v87] (by kernel_rfl) (fun ww => by kernel_rfl) (Calls.mono h ?_)
      rintro _ w14 ⟨v88, rfl, h⟩
      refine ⟨_, rfl, ?_⟩
      refine reg_run [.plain, .plain, .plain, .plain, .plain, .plain, .plain] 22 [(0, [], Value.int .u64 x), (9, [], Value.int .i64 d), (10, [], Value.bool ok4), (11, [], Value.int .i64 e), (12, [], Value.bool ok5), (13, [], Value.int .u8 f), (14, [], Value.bool ok6), (15, [], Value.int .u16 g), (16, [], Value.bool ok7), (17, [], Value.int .u32 h_), (18, [], Value.bool ok8), (19, [], Value.int .u64 i), (20, [], Value.bool ok9), (21, [], Value.int .i8 small), (22, [], Value.bool ok), (90, [], Value.bool v88), (91, [(90, true)], Value.bool ok3), (93, [(90, true)], Value.int .u64 (IntKind.u64.wrap c)), (94, [(90, true)], Value.int .u64 x), (95, [(90, true)], Value.int .u64 x)] (by kernel_rfl) (by kernel_rfl) ?_
      refine reg_split 90 v88 (by kernel_rfl) (fun hb => ?_) (fun hb => ?_)
      · replace h := h.1 hb
        refine reg_run [] 22 [(0, [], Value.int .u64 x), (9, [], Value.int .i64 d), (10, [], Value.bool ok4), (11, [], Value.int .i64 e), (12, [], Value.bool ok5), (13, [], Value.int .u8 f), (14, [], Value.bool ok6), (15, [], Value.int .u16 g), (16, [], Value.bool ok7), (17, [], Value.int .u32 h_), (18, [], Value.bool ok8), (19, [], Value.int .u64 i), (20, [], Value.bool ok9), (21, [], Value.int .i8 small), (22, [], Value.bool ok), (90, [], Value.bool true), (91, [], Value.bool ok3), (93, [], Value.int .u64 (IntKind.u64.wrap c)), (94, [], Value.int .u64 x), (95, [], Value.int .u64 x)] (by kernel_rfl) (by kernel_rfl) ?_
        refine reg_run [] 22 [(0, [], Value.int .u64 x), (9, [], Value.int .i64 d), (10, [], Value.bool ok4), (11, [], Value.int .i64 e), (12, [], Value.bool ok5), (13, [], Value.int .u8 f), (14, [], Value.bool ok6), (15, [], Value.int .u16 g), (16, [], Value.bool ok7), (17, [], Value.int .u32 h_), (18, [], Value.bool ok8), (19, [], Value.int .u64 i), (20, [], Value.bool ok9), (21, [], Value.int .i8 small), (22, [], Value.bool ok), (90, [], Value.bool true), (91, [], Value.bool ok3), (93, [], Value.int .u64 (IntKind.u64.wrap c)), (94, [], Value.int .u64 x), (95, [], Value.int .u64 x)] (by kernel_rfl) (by kernel_rfl) ?_
        refine reg_enter (op := (Go.Op.call (Go.Call.mk (Go.Callee.value (Go.Operand.func 25)) #[(Go.Operand.const (Go.Value.bool false)), (Go.Operand.tmp 95), (Go.Operand.const (Go.Value.int Go.IntKind.i64 32)), (Go.Operand.const (Go.Value.bool true))] #[4, 42, 3, 4]))) (ty := 4) (dst := some 96) 25 #[Value.bool false, Value.int .u64 x, Value.int .i64 32, Value.bool true] (by kernel_rfl) (fun ww => by kernel_rfl) (Calls.mono h ?_)
        rintro _ w15 ⟨v96, rfl, h⟩
        refine ⟨_, rfl, ?_⟩
        refine reg_run [] 23 [(0, [], Value.int .u64 x), (9, [], Value.int .i64 d), (10, [], Value.bool ok4), (11, [], Value.int .i64 e), (12, [], Value.bool ok5), (13, [], Value.int .u8 f), (14, [], Value.bool ok6), (15, [], Value.int .u16 g), (16, [], Value.bool ok7), (17, [], Value.int .u32 h_), (18, [], Value.bool ok8), (19, [], Value.int .u64 i), (20, [], Value.bool ok9), (21, [], Value.int .i8 small), (22, [], Value.bool ok), (90, [], Value.bool true), (91, [], Value.bool ok3), (93, [], Value.int .u64 (IntKind.u64.wrap c)), (94, [], Value.int .u64 x), (96, [], Value.bool v96)] (by kernel_rfl) (by kernel_rfl) ?_
        refine reg_enter (op := (Go.Op.call (Go.Call.mk (Go.Callee.value (Go.Operand.func 36)) #[(Go.Operand.tmp 91), (Go.Operand.tmp 93), (Go.Operand.tmp 94), (Go.Operand.tmp 96)] #[4, 42, 42, 4]))) (ty := 4) (dst := some 97) 36 #[Value.bool ok3, Value.int .u64 (IntKind.u64.wrap c), Value.int .u64 x, Value.bool v96] (by kernel_rfl) (fun ww => by kernel_rfl) (Calls.mono h ?_)
        rintro _ w16 ⟨v97, rfl, h⟩
        refine ⟨_, rfl, ?_⟩
        refine reg_run [.plain, .plain, .plain, .plain, .plain, .plain, .plain] 31 [(0, [], Value.int .u64 x), (11, [], Value.int .i64 e), (12, [], Value.bool ok5), (13, [], Value.int .u8 f), (14, [], Value.bool ok6), (15, [], Value.int .u16 g), (16, [], Value.bool ok7), (17, [], Value.int .u32 h_), (18, [], Value.bool ok8), (19, [], Value.int .u64 i), (20, [], Value.bool ok9), (21, [], Value.int .i8 small), (22, [], Value.bool ok), (99, [], Value.bool v97), (100, [(99, true)], Value.bool ok4), (102, [(99, true)], Value.int .u64 (IntKind.u64.wrap d)), (103, [(99, true)], Value.int .u64 x), (104, [(99, true)], Value.int .u64 x)] (by kernel_rfl) (by kernel_rfl) ?_
        refine reg_split 99 v97 (by kernel_rfl) (fun hb => ?_) (fun hb => ?_)
        · replace h := h.1 hb
          refine reg_run [] 31 [(0, [], Value.int .u64 x), (11, [], Value.int .i64 e), (12, [], Value.bool ok5), (13, [], Value.int .u8 f), (14, [], Value.bool ok6), (15, [], Value.int .u16 g), (16, [], Value.bool ok7), (17, [], Value.int .u32 h_), (18, [], Value.bool ok8), (19, [], Value.int .u64 i), (20, [], Value.bool ok9), (21, [], Value.int .i8 small), (22, [], Value.bool ok), (99, [], Value.bool true), (100, [], Value.bool ok4), (102, [], Value.int .u64 (IntKind.u64.wrap d)), (103, [], Value.int .u64 x), (104, [], Value.int .u64 x)] (by kernel_rfl) (by kernel_rfl) ?_
          refine reg_run [] 31 [(0, [], Value.int .u64 x), (11, [], Value.int .i64 e), (12, [], Value.bool ok5), (13, [], Value.int .u8 f), (14, [], Value.bool ok6), (15, [], Value.int .u16 g), (16, [], Value.bool ok7), (17, [], Value.int .u32 h_), (18, [], Value.bool ok8), (19, [], Value.int .u64 i), (20, [], Value.bool ok9), (21, [], Value.int .i8 small), (22, [], Value.bool ok), (99, [], Value.bool true), (100, [], Value.bool ok4), (102, [], Value.int .u64 (IntKind.u64.wrap d)), (103, [], Value.int .u64 x), (104, [], Value.int .u64 x)] (by kernel_rfl) (by kernel_rfl) ?_
          refine reg_enter (op := (Go.Op.call (Go.Call.mk (Go.Callee.value (Go.Operand.func 25)) #[(Go.Operand.const (Go.Value.bool false)), (Go.Operand.tmp 104), (Go.Operand.const (Go.Value.int Go.IntKind.i64 64)), (Go.Operand.const (Go.Value.bool true))] #[4, 42, 3, 4]))) (ty := 4) (dst := some 105) 25 #[Value.bool false, Value.int .u64 x, Value.int .i64 64, Value.bool true] (by kernel_rfl) (fun ww => by kernel_rfl) (Calls.mono h ?_)
          rintro _ w17 ⟨v105, rfl, h⟩
          refine ⟨_, rfl, ?_⟩
          refine reg_run [] 32 [(0, [], Value.int .u64 x), (11, [], Value.int .i64 e), (12, [], Value.bool ok5), (13, [], Value.int .u8 f), (14, [], Value.bool ok6), (15, [], Value.int .u16 g), (16, [], Value.bool ok7), (17, [], Value.int .u32 h_), (18, [], Value.bool ok8), (19, [], Value.int .u64 i), (20, [], Value.bool ok9), (21, [], Value.int .i8 small), (22, [], Value.bool ok), (99, [], Value.bool true), (100, [], Value.bool ok4), (102, [], Value.int .u64 (IntKind.u64.wrap d)), (103, [], Value.int .u64 x), (105, [], Value.bool v105)] (by kernel_rfl) (by kernel_rfl) ?_
          refine reg_enter (op := (Go.Op.call (Go.Call.mk (Go.Callee.value (Go.Operand.func 36)) #[(Go.Operand.tmp 100), (Go.Operand.tmp 102), (Go.Operand.tmp 103), (Go.Operand.tmp 105)] #[4, 42, 42, 4]))) (ty := 4) (dst := some 106) 36 #[Value.bool ok4, Value.int .u64 (IntKind.u64.wrap d), Value.int .u64 x, Value.bool v105] (by kernel_rfl) (fun ww => by kernel_rfl) (Calls.mono h ?_)
          rintro _ w18 ⟨v106, rfl, h⟩
          refine ⟨_, rfl, ?_⟩
          refine reg_run [.plain, .plain, .plain, .plain, .plain, .plain, .plain] 40 [(0, [], Value.int .u64 x), (13, [], Value.int .u8 f), (14, [], Value.bool ok6), (15, [], Value.int .u16 g), (16, [], Value.bool ok7), (17, [], Value.int .u32 h_), (18, [], Value.bool ok8), (19, [], Value.int .u64 i), (20, [], Value.bool ok9), (21, [], Value.int .i8 small), (22, [], Value.bool ok), (108, [], Value.bool v106), (109, [(108, true)], Value.bool ok5), (111, [(108, true)], Value.int .u64 (IntKind.u64.wrap e)), (112, [(108, true)], Value.int .u64 x), (113, [(108, true)], Value.int .u64 x)] (by kernel_rfl) (by kernel_rfl) ?_
          refine reg_split 108 v106 (by kernel_rfl) (fun hb => ?_) (fun hb => ?_)
          · replace h := h.1 hb
            refine reg_run [] 40 [(0, [], Value.int .u64 x), (13, [], Value.int .u8 f), (14, [], Value.bool ok6), (15, [], Value.int .u16 g), (16, [], Value.bool ok7), (17, [], Value.int .u32 h_), (18, [], Value.bool ok8), (19, [], Value.int .u64 i), (20, [], Value.bool ok9), (21, [], Value.int .i8 small), (22, [], Value.bool ok), (108, [], Value.bool true), (109, [], Value.bool ok5), (111, [], Value.int .u64 (IntKind.u64.wrap e)), (112, [], Value.int .u64 x), (113, [], Value.int .u64 x)] (by kernel_rfl) (by kernel_rfl) ?_
            refine reg_run [] 40 [(0, [], Value.int .u64 x), (13, [], Value.int .u8 f), (14, [], Value.bool ok6), (15, [], Value.int .u16 g), (16, [], Value.bool ok7), (17, [], Value.int .u32 h_), (18, [], Value.bool ok8), (19, [], Value.int .u64 i), (20, [], Value.bool ok9), (21, [], Value.int .i8 small), (22, [], Value.bool ok), (108, [], Value.bool true), (109, [], Value.bool ok5), (111, [], Value.int .u64 (IntKind.u64.wrap e)), (112, [], Value.int .u64 x), (113, [], Value.int .u64 x)] (by kernel_rfl) (by kernel_rfl) ?_
            refine reg_enter (op := (Go.Op.call (Go.Call.mk (Go.Callee.value (Go.Operand.func 25)) #[(Go.Operand.const (Go.Value.bool false)), (Go.Operand.tmp 113), (Go.Operand.const (Go.Value.int Go.IntKind.i64 64)), (Go.Operand.const (Go.Value.bool true))] #[4, 42, 3, 4]))) (ty := 4) (dst := some 114) 25 #[Value.bool false, Value.int .u64 x, Value.int .i64 64, Value.bool true] (by kernel_rfl) (fun ww => by kernel_rfl) (Calls.mono h ?_)
            rintro _ w19 ⟨v114, rfl, h⟩
            refine ⟨_, rfl, ?_⟩
            refine reg_run [] 41 [(0, [], Value.int .u64 x), (13, [], Value.int .u8 f), (14, [], Value.bool ok6), (15, [], Value.int .u16 g), (16, [], Value.bool ok7), (17, [], Value.int .u32 h_), (18, [], Value.bool ok8), (19, [], Value.int .u64 i), (20, [], Value.bool ok9), (21, [], Value.int .i8 small), (22, [], Value.bool ok), (108, [], Value.bool true), (109, [], Value.bool ok5), (111, [], Value.int .u64 (IntKind.u64.wrap e)), (112, [], Value.int .u64 x), (114, [], Value.bool v114)] (by kernel_rfl) (by kernel_rfl) ?_
            refine reg_enter (op := (Go.Op.call (Go.Call.mk (Go.Callee.value (Go.Operand.func 36)) #[(Go.Operand.tmp 109), (Go.Operand.tmp 111), (Go.Operand.tmp 112), (Go.Operand.tmp 114)] #[4, 42, 42, 4]))) (ty := 4) (dst := some 115) 36 #[Value.bool ok5, Value.int .u64 (IntKind.u64.wrap e), Value.int .u64 x, Value.bool v114] (by kernel_rfl) (fun ww => by kernel_rfl) (Calls.mono h ?_)
            rintro _ w20 ⟨v115, rfl, h⟩
            refine ⟨_, rfl, ?_⟩
            refine reg_run [.plain, .plain, .plain, .plain, .plain, .plain, .plain] 49 [(0, [], Value.int .u64 x), (15, [], Value.int .u16 g), (16, [], Value.bool ok7), (17, [], Value.int .u32 h_), (18, [], Value.bool ok8), (19, [], Value.int .u64 i), (20, [], Value.bool ok9), (21, [], Value.int .i8 small), (22, [], Value.bool ok), (117, [], Value.bool v115), (118, [(117, true)], Value.bool ok6), (120, [(117, true)], Value.int .u64 (IntKind.u64.wrap f)), (121, [(117, true)], Value.int .u64 x), (122, [(117, true)], Value.int .u64 x)] (by kernel_rfl) (by kernel_rfl) ?_
            refine reg_split 117 v115 (by kernel_rfl) (fun hb => ?_) (fun hb => ?_)
            · replace h := h.1 hb
              refine reg_run [] 49 [(0, [], Value.int .u64 x), (15, [], Value.int .u16 g), (16, [], Value.bool ok7), (17, [], Value.int .u32 h_), (18, [], Value.bool ok8), (19, [], Value.int .u64 i), (20, [], Value.bool ok9), (21, [], Value.int .i8 small), (22, [], Value.bool ok), (117, [], Value.bool true), (118, [], Value.bool ok6), (120, [], Value.int .u64 (IntKind.u64.wrap f)), (121, [], Value.int .u64 x), (122, [], Value.int .u64 x)] (by kernel_rfl) (by kernel_rfl) ?_
              refine reg_run [] 49 [(0, [], Value.int .u64 x), (15, [], Value.int .u16 g), (16, [], Value.bool ok7), (17, [], Value.int .u32 h_), (18, [], Value.bool ok8), (19, [], Value.int .u64 i), (20, [], Value.bool ok9), (21, [], Value.int .i8 small), (22, [], Value.bool ok), (117, [], Value.bool true), (118, [], Value.bool ok6), (120, [], Value.int .u64 (IntKind.u64.wrap f)), (121, [], Value.int .u64 x), (122, [], Value.int .u64 x)] (by kernel_rfl) (by kernel_rfl) ?_
              refine reg_enter (op := (Go.Op.call (Go.Call.mk (Go.Callee.value (Go.Operand.func 25)) #[(Go.Operand.const (Go.Value.bool false)), (Go.Operand.tmp 122), (Go.Operand.const (Go.Value.int Go.IntKind.i64 8)), (Go.Operand.const (Go.Value.bool false))] #[4, 42, 3, 4]))) (ty := 4) (dst := some 123) 25 #[Value.bool false, Value.int .u64 x, Value.int .i64 8, Value.bool false] (by kernel_rfl) (fun ww => by kernel_rfl) (Calls.mono h ?_)
              rintro _ w21 ⟨v123, rfl, h⟩
              refine ⟨_, rfl, ?_⟩
              refine reg_run [] 50 [(0, [], Value.int .u64 x), (15, [], Value.int .u16 g), (16, [], Value.bool ok7), (17, [], Value.int .u32 h_), (18, [], Value.bool ok8), (19, [], Value.int .u64 i), (20, [], Value.bool ok9), (21, [], Value.int .i8 small), (22, [], Value.bool ok), (117, [], Value.bool true), (118, [], Value.bool ok6), (120, [], Value.int .u64 (IntKind.u64.wrap f)), (121, [], Value.int .u64 x), (123, [], Value.bool v123)] (by kernel_rfl) (by kernel_rfl) ?_
              refine reg_enter (op := (Go.Op.call (Go.Call.mk (Go.Callee.value (Go.Operand.func 36)) #[(Go.Operand.tmp 118), (Go.Operand.tmp 120), (Go.Operand.tmp 121), (Go.Operand.tmp 123)] #[4, 42, 42, 4]))) (ty := 4) (dst := some 124) 36 #[Value.bool ok6, Value.int .u64 (IntKind.u64.wrap f), Value.int .u64 x, Value.bool v123] (by kernel_rfl) (fun ww => by kernel_rfl) (Calls.mono h ?_)
              rintro _ w22 ⟨v124, rfl, h⟩
              refine ⟨_, rfl, ?_⟩
              refine reg_run [.plain, .plain, .plain, .plain, .plain, .plain, .plain] 58 [(0, [], Value.int .u64 x), (17, [], Value.int .u32 h_), (18, [], Value.bool ok8), (19, [], Value.int .u64 i), (20, [], Value.bool ok9), (21, [], Value.int .i8 small), (22, [], Value.bool ok), (126, [], Value.bool v124), (127, [(126, true)], Value.bool ok7), (129, [(126, true)], Value.int .u64 (IntKind.u64.wrap g)), (130, [(126, true)], Value.int .u64 x), (131, [(126, true)], Value.int .u64 x)] (by kernel_rfl) (by kernel_rfl) ?_
              refine reg_split 126 v124 (by kernel_rfl) (fun hb => ?_) (fun hb => ?_)
              · replace h := h.1 hb
                refine reg_run [] 58 [(0, [], Value.int .u64 x), (17, [], Value.int .u32 h_), (18, [], Value.bool ok8), (19, [], Value.int .u64 i), (20, [], Value.bool ok9), (21, [], Value.int .i8 small), (22, [], Value.bool ok), (126, [], Value.bool true), (127, [], Value.bool ok7), (129, [], Value.int .u64 (IntKind.u64.wrap g)), (130, [], Value.int .u64 x), (131, [], Value.int .u64 x)] (by kernel_rfl) (by kernel_rfl) ?_
                refine reg_run [] 58 [(0, [], Value.int .u64 x), (17, [], Value.int .u32 h_), (18, [], Value.bool ok8), (19, [], Value.int .u64 i), (20, [], Value.bool ok9), (21, [], Value.int .i8 small), (22, [], Value.bool ok), (126, [], Value.bool true), (127, [], Value.bool ok7), (129, [], Value.int .u64 (IntKind.u64.wrap g)), (130, [], Value.int .u64 x), (131, [], Value.int .u64 x)] (by kernel_rfl) (by kernel_rfl) ?_
                refine reg_enter (op := (Go.Op.call (Go.Call.mk (Go.Callee.value (Go.Operand.func 25)) #[(Go.Operand.const (Go.Value.bool false)), (Go.Operand.tmp 131), (Go.Operand.const (Go.Value.int Go.IntKind.i64 16)), (Go.Operand.const (Go.Value.bool false))] #[4, 42, 3, 4]))) (ty := 4) (dst := some 132) 25 #[Value.bool false, Value.int .u64 x, Value.int .i64 16, Value.bool false] (by kernel_rfl) (fun ww => by kernel_rfl) (Calls.mono h ?_)
                rintro _ w23 ⟨v132, rfl, h⟩
                refine ⟨_, rfl, ?_⟩
                refine reg_run [] 59 [(0, [], Value.int .u64 x), (17, [], Value.int .u32 h_), (18, [], Value.bool ok8), (19, [], Value.int .u64 i), (20, [], Value.bool ok9), (21, [], Value.int .i8 small), (22, [], Value.bool ok), (126, [], Value.bool true), (127, [], Value.bool ok7), (129, [], Value.int .u64 (IntKind.u64.wrap g)), (130, [], Value.int .u64 x), (132, [], Value.bool v132)] (by kernel_rfl) (by kernel_rfl) ?_
                refine reg_enter (op := (Go.Op.call (Go.Call.mk (Go.Callee.value (Go.Operand.func 36)) #[(Go.Operand.tmp 127), (Go.Operand.tmp 129), (Go.Operand.tmp 130), (Go.Operand.tmp 132)] #[4, 42, 42, 4]))) (ty := 4) (dst := some 133) 36 #[Value.bool ok7, Value.int .u64 (IntKind.u64.wrap g), Value.int .u64 x, Value.bool v132] (by kernel_rfl) (fun ww => by kernel_rfl) (Calls.mono h ?_)
                rintro _ w24 ⟨v133, rfl, h⟩
                refine ⟨_, rfl, ?_⟩
                refine reg_run [.plain, .plain, .plain, .plain, .plain, .plain, .plain] 67 [(0, [], Value.int .u64 x), (19, [], Value.int .u64 i), (20, [], Value.bool ok9), (21, [], Value.int .i8 small), (22, [], Value.bool ok), (135, [], Value.bool v133), (136, [(135, true)], Value.bool ok8), (138, [(135, true)], Value.int .u64 (IntKind.u64.wrap h_)), (139, [(135, true)], Value.int .u64 x), (140, [(135, true)], Value.int .u64 x)] (by kernel_rfl) (by kernel_rfl) ?_
                refine reg_split 135 v133 (by kernel_rfl) (fun hb => ?_) (fun hb => ?_)
                · replace h := h.1 hb
                  refine reg_run [] 67 [(0, [], Value.int .u64 x), (19, [], Value.int .u64 i), (20, [], Value.bool ok9), (21, [], Value.int .i8 small), (22, [], Value.bool ok), (135, [], Value.bool true), (136, [], Value.bool ok8), (138, [], Value.int .u64 (IntKind.u64.wrap h_)), (139, [], Value.int .u64 x), (140, [], Value.int .u64 x)] (by kernel_rfl) (by kernel_rfl) ?_
                  refine reg_run [] 67 [(0, [], Value.int .u64 x), (19, [], Value.int .u64 i), (20, [], Value.bool ok9), (21, [], Value.int .i8 small), (22, [], Value.bool ok), (135, [], Value.bool true), (136, [], Value.bool ok8), (138, [], Value.int .u64 (IntKind.u64.wrap h_)), (139, [], Value.int .u64 x), (140, [], Value.int .u64 x)] (by kernel_rfl) (by kernel_rfl) ?_
                  refine reg_enter (op := (Go.Op.call (Go.Call.mk (Go.Callee.value (Go.Operand.func 25)) #[(Go.Operand.const (Go.Value.bool false)), (Go.Operand.tmp 140), (Go.Operand.const (Go.Value.int Go.IntKind.i64 32)), (Go.Operand.const (Go.Value.bool false))] #[4, 42, 3, 4]))) (ty := 4) (dst := some 141) 25 #[Value.bool false, Value.int .u64 x, Value.int .i64 32, Value.bool false] (by kernel_rfl) (fun ww => by kernel_rfl) (Calls.mono h ?_)
                  rintro _ w25 ⟨v141, rfl, h⟩
                  refine ⟨_, rfl, ?_⟩
                  refine reg_run [] 68 [(0, [], Value.int .u64 x), (19, [], Value.int .u64 i), (20, [], Value.bool ok9), (21, [], Value.int .i8 small), (22, [], Value.bool ok), (135, [], Value.bool true), (136, [], Value.bool ok8), (138, [], Value.int .u64 (IntKind.u64.wrap h_)), (139, [], Value.int .u64 x), (141, [], Value.bool v141)] (by kernel_rfl) (by kernel_rfl) ?_
                  refine reg_enter (op := (Go.Op.call (Go.Call.mk (Go.Callee.value (Go.Operand.func 36)) #[(Go.Operand.tmp 136), (Go.Operand.tmp 138), (Go.Operand.tmp 139), (Go.Operand.tmp 141)] #[4, 42, 42, 4]))) (ty := 4) (dst := some 142) 36 #[Value.bool ok8, Value.int .u64 (IntKind.u64.wrap h_), Value.int .u64 x, Value.bool v141] (by kernel_rfl) (fun ww => by kernel_rfl) (Calls.mono h ?_)
                  rintro _ w26 ⟨v142, rfl, h⟩
                  refine ⟨_, rfl, ?_⟩
                  refine reg_run [.plain, .plain, .plain, .plain, .plain] 74 [(0, [], Value.int .u64 x), (21, [], Value.int .i8 small), (22, [], Value.bool ok), (144, [], Value.bool v142), (145, [(144, true)], Value.bool ok9), (146, [(144, true)], Value.int .u64 i), (147, [(144, true)], Value.int .u64 x)] (by kernel_rfl) (by kernel_rfl) ?_
                  refine reg_split 144 v142 (by kernel_rfl) (fun hb => ?_) (fun hb => ?_)
                  · replace h := h.1 hb
                    refine reg_run [] 74 [(0, [], Value.int .u64 x), (21, [], Value.int .i8 small), (22, [], Value.bool ok), (144, [], Value.bool true), (145, [], Value.bool ok9), (146, [], Value.int .u64 i), (147, [], Value.int .u64 x)] (by kernel_rfl) (by kernel_rfl) ?_
                    refine reg_run [] 74 [(0, [], Value.int .u64 x), (21, [], Value.int .i8 small), (22, [], Value.bool ok), (144, [], Value.bool true), (145, [], Value.bool ok9), (146, [], Value.int .u64 i), (147, [], Value.int .u64 x)] (by kernel_rfl) (by kernel_rfl) ?_
                    refine reg_enter (op := (Go.Op.call (Go.Call.mk (Go.Callee.value (Go.Operand.func 36)) #[(Go.Operand.tmp 145), (Go.Operand.tmp 146), (Go.Operand.tmp 147), (Go.Operand.const (Go.Value.bool true))] #[4, 42, 42, 4]))) (ty := 4) (dst := some 148) 36 #[Value.bool ok9, Value.int .u64 i, Value.int .u64 x, Value.bool true] (by kernel_rfl) (fun ww => by kernel_rfl) (Calls.mono h ?_)
                    rintro _ w27 ⟨v148, rfl, h⟩
                    refine ⟨_, rfl, ?_⟩
                    refine reg_run [.plain, .plain, .plain, .plain, .plain, .plain, .plain, .plain, .plain, .plain, .plain] 86 [(150, [], Value.bool v148), (151, [(150, true)], Value.bool ok), (153, [(150, true)], Value.int .u64 (IntKind.u64.wrap small)), (156, [(150, true)], Value.int .u64 (IntKind.u64.wrap (IntKind.u16.wrap x))), (159, [(150, true)], Value.int .u64 (IntKind.u64.wrap (IntKind.u16.wrap x)))] (by kernel_rfl) (by kernel_rfl) ?_
                    refine reg_split 150 v148 (by kernel_rfl) (fun hb => ?_) (fun hb => ?_)
                    · replace h := h.1 hb
                      refine reg_run [] 86 [(150, [], Value.bool true), (151, [], Value.bool ok), (153, [], Value.int .u64 (IntKind.u64.wrap small)), (156, [], Value.int .u64 (IntKind.u64.wrap (IntKind.u16.wrap x))), (159, [], Value.int .u64 (IntKind.u64.wrap (IntKind.u16.wrap x)))] (by kernel_rfl) (by kernel_rfl) ?_
                      refine reg_run [] 86 [(150, [], Value.bool true), (151, [], Value.bool ok), (153, [], Value.int .u64 (IntKind.u64.wrap small)), (156, [], Value.int .u64 (IntKind.u64.wrap (IntKind.u16.wrap x))), (159, [], Value.int .u64 (IntKind.u64.wrap (IntKind.u16.wrap x)))] (by kernel_rfl) (by kernel_rfl) ?_
                      refine reg_enter (op := (Go.Op.call (Go.Call.mk (Go.Callee.value (Go.Operand.func 25)) #[(Go.Operand.const (Go.Value.bool false)), (Go.Operand.tmp 159), (Go.Operand.const (Go.Value.int Go.IntKind.i64 8)), (Go.Operand.const (Go.Value.bool true))] #[4, 42, 3, 4]))) (ty := 4) (dst := some 160) 25 #[Value.bool false, Value.int .u64 (IntKind.u64.wrap (IntKind.u16.wrap x)), Value.int .i64 8, Value.bool true] (by kernel_rfl) (fun ww => by kernel_rfl) (Calls.mono h ?_)
                      rintro _ w28 ⟨v160, rfl, h⟩
                      refine ⟨_, rfl, ?_⟩
                      refine reg_run [] 87 [(150, [], Value.bool true), (151, [], Value.bool ok), (153, [], Value.int .u64 (IntKind.u64.wrap small)), (156, [], Value.int .u64 (IntKind.u64.wrap (IntKind.u16.wrap x))), (160, [], Value.bool v160)] (by kernel_rfl) (by kernel_rfl) ?_
                      refine reg_enter (op := (Go.Op.call (Go.Call.mk (Go.Callee.value (Go.Operand.func 36)) #[(Go.Operand.tmp 151), (Go.Operand.tmp 153), (Go.Operand.tmp 156), (Go.Operand.tmp 160)] #[4, 42, 42, 4]))) (ty := 4) (dst := some 161) 36 #[Value.bool ok, Value.int .u64 (IntKind.u64.wrap small), Value.int .u64 (IntKind.u64.wrap (IntKind.u16.wrap x)), Value.bool v160] (by kernel_rfl) (fun ww => by kernel_rfl) (Calls.mono h ?_)
                      rintro _ w29 ⟨v161, rfl, h⟩
                      refine ⟨_, rfl, ?_⟩
                      refine reg_run [.plain, .plain] 90 [(2, [], Value.bool v161)] (by kernel_rfl) (by kernel_rfl) ?_
                      refine reg_end [(2, Value.bool v161)] (by kernel_rfl) (by kernel_rfl) ?_
                      change WpE _ _ c_towpathlaw01_NumBare_36 _ _ _
                      refine wpE_ret (by kernel_rfl) ?_
                      repeat (first | refine seqQ_ret ?_ | refine blockQ_ret ?_ | refine loopQ_ret ?_ | refine cutQ_ret ?_)
                      exact retS (rs := [(Go.ResultVar.tmp 2)]) (v := Value.bool v161) (by kernel_rfl) (⟨by kernel_rfl, trivial⟩) ⟨v161, rfl, h⟩
                    · replace h := h.2 hb
                      refine reg_run [] 86 [(150, [], Value.bool false), (151, [], undef), (153, [], undef), (156, [], undef), (159, [], undef)] (by kernel_rfl) (by kernel_rfl) ?_
                      refine reg_run [.skip, .skip, .plain, .plain] 90 [(2, [], Value.bool false)] (by kernel_rfl) (by kernel_rfl) ?_
                      refine reg_end [(2, Value.bool false)] (by kernel_rfl) (by kernel_rfl) ?_
                      change WpE _ _ c_towpathlaw01_NumBare_36 _ _ _
                      refine wpE_ret (by kernel_rfl) ?_
                      repeat (first | refine seqQ_ret ?_ | refine blockQ_ret ?_ | refine loopQ_ret ?_ | refine cutQ_ret ?_)
                      exact retS (rs := [(Go.ResultVar.tmp 2)]) (v := Value.bool false) (by kernel_rfl) (⟨by kernel_rfl, trivial⟩) ⟨false, rfl, h⟩
                  · replace h := h.2 hb
                    refine reg_run [] 74 [(0, [], Value.int .u64 x), (21, [], Value.int .i8 small), (22, [], Value.bool ok), (144, [], Value.bool false), (145, [], undef), (146, [], undef), (147, [], undef)] (by kernel_rfl) (by kernel_rfl) ?_
                    refine reg_run [.skip, .plain, .plain, .skip, .skip, .skip, .skip, .skip, .skip, .skip, .skip, .skip, .skip, .skip, .plain, .plain] 90 [(2, [], Value.bool false)] (by kernel_rfl) (by kernel_rfl) ?_
                    refine reg_end [(2, Value.bool false)] (by kernel_rfl) (by kernel_rfl) ?_
                    change WpE _ _ c_towpathlaw01_NumBare_36 _ _ _
                    refine wpE_ret (by kernel_rfl) ?_
                    repeat (first | refine seqQ_ret ?_ | refine blockQ_ret ?_ | refine loopQ_ret ?_ | refine cutQ_ret ?_)
                    exact retS (rs := [(Go.ResultVar.tmp 2)]) (v := Value.bool false) (by kernel_rfl) (⟨by kernel_rfl, trivial⟩) ⟨false, rfl, h⟩
                · replace h := h.2 hb
                  refine reg_run [] 67 [(0, [], Value.int .u64 x), (19, [], Value.int .u64 i), (20, [], Value.bool ok9), (21, [], Value.int .i8 small), (22, [], Value.bool ok), (135, [], Value.bool false), (136, [], undef), (138, [], undef), (139, [], undef), (140, [], undef)] (by kernel_rfl) (by kernel_rfl) ?_
                  refine reg_run [.skip, .skip, .plain, .plain, .skip, .skip, .skip, .skip, .plain, .plain, .skip, .skip, .skip, .skip, .skip, .skip, .skip, .skip, .skip, .skip, .skip, .plain, .plain] 90 [(2, [], Value.bool false)] (by kernel_rfl) (by kernel_rfl) ?_
                  refine reg_end [(2, Value.bool false)] (by kernel_rfl) (by kernel_rfl) ?_
                  change WpE _ _ c_towpathlaw01_NumBare_36 _ _ _
                  refine wpE_ret (by kernel_rfl) ?_
                  repeat (first | refine seqQ_ret ?_ | refine blockQ_ret ?_ | refine loopQ_ret ?_ | refine cutQ_ret ?_)
                  exact retS (rs := [(Go.ResultVar.tmp 2)]) (v := Value.bool false) (by kernel_rfl) (⟨by kernel_rfl, trivial⟩) ⟨false, rfl, h⟩
              · replace h := h.2 hb
                refine reg_run [] 58 [(0, [], Value.int .u64 x), (17, [], Value.int .u32 h_), (18, [], Value.bool ok8), (19, [], Value.int .u64 i), (20, [], Value.bool ok9), (21, [], Value.int .i8 small), (22, [], Value.bool ok), (126, [], Value.bool false), (127, [], undef), (129, [], undef), (130, [], undef), (131, [], undef)] (by kernel_rfl) (by kernel_rfl) ?_
                refine reg_run [.skip, .skip, .plain, .plain, .skip, .skip, .skip, .skip, .skip, .skip, .skip, .plain, .plain, .skip, .skip, .skip, .skip, .plain, .plain, .skip, .skip, .skip, .skip, .skip, .skip, .skip, .skip, .skip, .skip, .skip, .plain, .plain] 90 [(2, [], Value.bool false)] (by kernel_rfl) (by kernel_rfl) ?_
                refine reg_end [(2, Value.bool false)] (by kernel_rfl) (by kernel_rfl) ?_
                change WpE _ _ c_towpathlaw01_NumBare_36 _ _ _
                refine wpE_ret (by kernel_rfl) ?_
                repeat (first | refine seqQ_ret ?_ | refine blockQ_ret ?_ | refine loopQ_ret ?_ | refine cutQ_ret ?_)
                exact retS (rs := [(Go.ResultVar.tmp 2)]) (v := Value.bool false) (by kernel_rfl) (⟨by kernel_rfl, trivial⟩) ⟨false, rfl, h⟩
            · replace h := h.2 hb
              refine reg_run [] 49 [(0, [], Value.int .u64 x), (15, [], Value.int .u16 g), (16, [], Value.bool ok7), (17, [], Value.int .u32 h_), (18, [], Value.bool ok8), (19, [], Value.int .u64 i), (20, [], Value.bool ok9), (21, [], Value.int .i8 small), (22, [], Value.bool ok), (117, [], Value.bool false), (118, [], undef), (120, [], undef), (121, [], undef), (122, [], undef)] (by kernel_rfl) (by kernel_rfl) ?_
              refine reg_run [.skip, .skip, .plain, .plain, .skip, .skip, .skip, .skip, .skip, .skip, .skip, .plain, .plain, .skip, .skip, .skip, .skip, .skip, .skip, .skip, .plain, .plain, .skip, .skip, .skip, .skip, .plain, .plain, .skip, .skip, .skip, .skip, .skip, .skip, .skip, .skip, .skip, .skip, .skip, .plain, .plain] 90 [(2, [], Value.bool false)] (by kernel_rfl) (by kernel_rfl) ?_
              refine reg_end [(2, Value.bool false)] (by kernel_rfl) (by kernel_rfl) ?_
              change WpE _ _ c_towpathlaw01_NumBare_36 _ _ _
              refine wpE_ret (by kernel_rfl) ?_
              repeat (first | refine seqQ_ret ?_ | refine blockQ_ret ?_ | refine loopQ_ret ?_ | refine cutQ_ret ?_)
              exact retS (rs := [(Go.ResultVar.tmp 2)]) (v := Value.bool false) (by kernel_rfl) (⟨by kernel_rfl, trivial⟩) ⟨false, rfl, h⟩
          · replace h := h.2 hb
            refine reg_run [] 40 [(0, [], Value.int .u64 x), (13, [], Value.int .u8 f), (14, [], Value.bool ok6), (15, [], Value.int .u16 g), (16, [], Value.bool ok7), (17, [], Value.int .u32 h_), (18, [], Value.bool ok8), (19, [], Value.int .u64 i), (20, [], Value.bool ok9), (21, [], Value.int .i8 small), (22, [], Value.bool ok), (108, [], Value.bool false), (109, [], undef), (111, [], undef), (112, [], undef), (113, [], undef)] (by kernel_rfl) (by kernel_rfl) ?_
            refine reg_run [.skip, .skip, .plain, .plain, .skip, .skip, .skip, .skip, .skip, .skip, .skip, .plain, .plain, .skip, .skip, .skip, .skip, .skip, .skip, .skip, .plain, .plain, .skip, .skip, .skip, .skip, .skip, .skip, .skip, .plain, .plain, .skip, .skip, .skip, .skip, .plain, .plain, .skip, .skip, .skip, .skip, .skip, .skip, .skip, .skip, .skip, .skip, .skip, .plain, .plain] 90 [(2, [], Value.bool false)] (by kernel_rfl) (by kernel_rfl) ?_
            refine reg_end [(2, Value.bool false)] (by kernel_rfl) (by kernel_rfl) ?_
            change WpE _ _ c_towpathlaw01_NumBare_36 _ _ _
            refine wpE_ret (by kernel_rfl) ?_
            repeat (first | refine seqQ_ret ?_ | refine blockQ_ret ?_ | refine loopQ_ret ?_ | refine cutQ_ret ?_)
            exact retS (rs := [(Go.ResultVar.tmp 2)]) (v := Value.bool false) (by kernel_rfl) (⟨by kernel_rfl, trivial⟩) ⟨false, rfl, h⟩
        · replace h := h.2 hb
          refine reg_run [] 31 [(0, [], Value.int .u64 x), (11, [], Value.int .i64 e), (12, [], Value.bool ok5), (13, [], Value.int .u8 f), (14, [], Value.bool ok6), (15, [], Value.int .u16 g), (16, [], Value.bool ok7), (17, [], Value.int .u32 h_), (18, [], Value.bool ok8), (19, [], Value.int .u64 i), (20, [], Value.bool ok9), (21, [], Value.int .i8 small), (22, [], Value.bool ok), (99, [], Value.bool false), (100, [], undef), (102, [], undef), (103, [], undef), (104, [], undef)] (by kernel_rfl) (by kernel_rfl) ?_
          refine reg_run [.skip, .skip, .plain, .plain, .skip, .skip, .skip, .skip, .skip, .skip, .skip, .plain, .plain, .skip, .skip, .skip, .skip, .skip, .skip, .skip, .plain, .plain, .skip, .skip, .skip, .skip, .skip, .skip, .skip, .plain, .plain, .skip, .skip, .skip, .skip, .skip, .skip, .skip, .plain, .plain, .skip, .skip, .skip, .skip, .plain, .plain, .skip, .skip, .skip, .skip, .skip, .skip, .skip, .skip, .skip, .skip, .skip, .plain, .plain] 90 [(2, [], Value.bool false)] (by kernel_rfl) (by kernel_rfl) ?_
          refine reg_end [(2, Value.bool false)] (by kernel_rfl) (by kernel_rfl) ?_
          change WpE _ _ c_towpathlaw01_NumBare_36 _ _ _
          refine wpE_ret (by kernel_rfl) ?_
          repeat (first | refine seqQ_ret ?_ | refine blockQ_ret ?_ | refine loopQ_ret ?_ | refine cutQ_ret ?_)
          exact retS (rs := [(Go.ResultVar.tmp 2)]) (v := Value.bool false) (by kernel_rfl) (⟨by kernel_rfl, trivial⟩) ⟨false, rfl, h⟩
      · replace h := h.2 hb
        refine reg_run [] 22 [(0, [], Value.int .u64 x), (9, [], Value.int .i64 d), (10, [], Value.bool ok4), (11, [], Value.int .i64 e), (12, [], Value.bool ok5), (13, [], Value.int .u8 f), (14, [], Value.bool ok6), (15, [], Value.int .u16 g), (16, [], Value.bool ok7), (17, [], Value.int .u32 h_), (18, [], Value.bool ok8), (19, [], Value.int .u64 i), (20, [], Value.bool ok9), (21, [], Value.int .i8 small), (22, [], Value.bool ok), (90, [], Value.bool false), (91, [], undef), (93, [], undef), (94, [], undef), (95, [], undef)] (by kernel_rfl) (by kernel_rfl) ?_
        refine reg_run [.skip, .skip, .plain, .plain, .skip, .skip, .skip, .skip, .skip, .skip, .skip, .plain, .plain, .skip, .skip, .skip, .skip, .skip, .skip, .skip, .plain, .plain, .skip, .skip, .skip, .skip, .skip, .skip, .skip, .plain, .plain, .skip, .skip, .skip, .skip, .skip, .skip, .skip, .plain, .plain, .skip, .skip, .skip, .skip, .skip, .skip, .skip, .plain, .plain, .skip, .skip, .skip, .skip, .plain, .plain, .skip, .skip, .skip, .skip, .skip, .skip, .skip, .skip, .skip, .skip, .skip, .plain, .plain] 90 [(2, [], Value.bool false)] (by kernel_rfl) (by kernel_rfl) ?_
        refine reg_end [(2, Value.bool false)] (by kernel_rfl) (by kernel_rfl) ?_
        change WpE _ _ c_towpathlaw01_NumBare_36 _ _ _
        refine wpE_ret (by kernel_rfl) ?_
        repeat (first | refine seqQ_ret ?_ | refine blockQ_ret ?_ | refine loopQ_ret ?_ | refine cutQ_ret ?_)
        exact retS (rs := [(Go.ResultVar.tmp 2)]) (v := Value.bool false) (by kernel_rfl) (⟨by kernel_rfl, trivial⟩) ⟨false, rfl, h⟩
    · replace h := h.2 hb
      refine reg_run [] 13 [(0, [], Value.int .u64 x), (7, [], Value.int .i32 c), (8, [], Value.bool ok3), (9, [], Value.int .i64 d), (10, [], Value.bool ok4), (11, [], Value.int .i64 e), (12, [], Value.bool ok5), (13, [], Value.int .u8 f), (14, [], Value.bool ok6), (15, [], Value.int .u16 g), (16, [], Value.bool ok7), (17, [], Value.int .u32 h_), (18, [], Value.bool ok8), (19, [], Value.int .u64 i), (20, [], Value.bool ok9), (21, [], Value.int .i8 small), (22, [], Value.bool ok), (81, [], Value.bool false), (82, [], undef), (84, [], undef), (85, [], undef), (86, [], undef)] (by kernel_rfl) (by kernel_rfl) ?_
      refine reg_run [.skip, .skip, .plain, .plain, .skip, .skip, .skip, .skip, .skip, .skip, .skip, .plain, .plain, .skip, .skip, .skip, .skip, .skip, .skip, .skip, .plain, .plain, .skip, .skip, .skip, .skip, .skip, .skip, .skip, .plain, .plain, .skip, .skip, .skip, .skip, .skip, .skip, .skip, .plain, .plain, .skip, .skip, .skip, .skip, .skip, .skip, .skip, .plain, .plain, .skip, .skip, .skip, .skip, .skip, .skip, .skip, .plain, .plain, .skip, .skip, .skip, .skip, .plain, .plain, .skip, .skip, .skip, .skip, .skip, .skip, .skip, .skip, .skip, .skip, .skip, .plain, .plain] 90 [(2, [], Value.bool false)] (by kernel_rfl) (by kernel_rfl) ?_
      refine reg_end [(2, Value.bool false)] (by kernel_rfl) (by kernel_rfl) ?_
      change WpE _ _ c_towpathlaw01_NumBare_36 _ _ _
      refine wpE_ret (by kernel_rfl) ?_
      repeat (first | refine seqQ_ret ?_ | refine blockQ_ret ?_ | refine loopQ_ret ?_ | refine cutQ_ret ?_)
      exact retS (rs := [(Go.ResultVar.tmp 2)]) (v := Value.bool false) (by kernel_rfl) (⟨by kernel_rfl, trivial⟩) ⟨false, rfl, h⟩
  · rintro e w' ⟨v, rfl, r0, rfl, h⟩; exact ⟨r0, rfl, h⟩

/-! ### towpath/towpathlaw03.SumKeys (function 5) -/
noncomputable def c_towpathlaw03_SumKeys_0 : Code := (Try.f5.body).getD Code.skip
noncomputable def c_towpathlaw03_SumKeys_1 : Code := Code.l c_towpathlaw03_SumKeys_0
noncomputable def r_towpathlaw03_SumKeys_1 : Array Oper := Code.ops c_towpathlaw03_SumKeys_1
noncomputable def c_towpathlaw03_SumKeys_3 : Code := Code.r c_towpathlaw03_SumKeys_0
noncomputable def c_towpathlaw03_SumKeys_4 : Code := Code.l c_towpathlaw03_SumKeys_3
noncomputable def r_towpathlaw03_SumKeys_4 : Array Oper := Code.ops c_towpathlaw03_SumKeys_4
noncomputable def c_towpathlaw03_SumKeys_6 : Code := Code.r c_towpathlaw03_SumKeys_3

set_option maxRecDepth 100000 in
theorem S_towpathlaw03_SumKeys {key : ByteArray} {w : World} {R : Bool → World → Prop} (h : F_towpathlaw03_SumKeys key R w) : C_towpathlaw03_SumKeys key w R := by
  unfold F_towpathlaw03_SumKeys at h
  unfold C_towpathlaw03_SumKeys
  refine Calls.mono (calls_of_wpE (args := [Value.string key]) (R := fun v w' => ∃ (r0 : Bool), v = Value.bool r0 ∧ R r0 w') Try.func5 (c := c_towpathlaw03_SumKeys_0) (by kernel_rfl) 14 (by kernel_rfl) (by kernel_rfl) [(0, Value.string key)] (by kernel_rfl) ?_) ?_
  · refine wpE_seq (x := c_towpathlaw03_SumKeys_1) (y := c_towpathlaw03_SumKeys_3) (by kernel_rfl) ?_
    refine wpE_region (id := 0) (ops := r_towpathlaw03_SumKeys_1) (by kernel_rfl) ?_
    refine reg_run [.plain] 1 [(0, [], Value.string key)] (by kernel_rfl) (by kernel_rfl) ?_
    refine reg_end [(0, Value.string key)] (by kernel_rfl) (by kernel_rfl) ?_
    change WpE _ _ c_towpathlaw03_SumKeys_3 _ _ _
    refine wpE_seq (x := c_towpathlaw03_SumKeys_4) (y := c_towpathlaw03_SumKeys_6) (by kernel_rfl) ?_
    refine wpE_region (id := 1) (ops := r_towpathlaw03_SumKeys_4) (by kernel_rfl) ?_
    refine reg_run [.plain, .plain] 2 [(0, [], Value.string key), (4, [], Value.int .i64 ((key.size : Nat) : Int))] (by kernel_rfl) (by kernel_rfl) ?_
    refine reg_new (op := (Go.Op.buildSlice 88 1 #[(0, (Go.Operand.tmp 4))])) (ty := 88) (dst := some 5) (fun bb => Value.slice (some ⟨bb, 0, none⟩) 1 1) (Obj.cells ([Value.int .i64 ((key.size : Nat) : Int)]).toArray ty_int (0, 0)) (by kernel_rfl) (by kernel_rfl) (fun b_ w1 hb hw => ?_)
    replace h := h b_ w1 hb hw
    clear hb hw
    refine reg_run [] 3 [(0, [], Value.string key), (5, [], Value.slice (some ⟨b_, 0, none⟩) 1 1)] (by kernel_rfl) (by kernel_rfl) ?_
    refine reg_enter (op := (Go.Op.call (Go.Call.mk (Go.Callee.value (Go.Operand.func 37)) #[(Go.Operand.tmp 5)] #[88]))) (ty := 4) (dst := some 6) 37 #[Value.slice (some ⟨b_, 0, none⟩) 1 1] (by kernel_rfl) (fun ww => by kernel_rfl) (Calls.mono h ?_)
    rintro _ w2 ⟨v6, rfl, h⟩
    refine ⟨_, rfl, ?_⟩
    refine reg_run [.plain, .plain] 6 [(0, [], Value.string key), (7, [], Value.bool v6), (8, [(7, false)], Value.string key)] (by kernel_rfl) (by kernel_rfl) ?_
    refine reg_split 7 v6 (by kernel_rfl) (fun hb => ?_) (fun hb => ?_)
    · replace h := h.1 hb
      refine reg_run [] 6 [(0, [], Value.string key), (7, [], Value.bool true), (8, [], undef)] (by kernel_rfl) (by kernel_rfl) ?_
      refine reg_run [.skip, .skip, .skip, .skip, .plain, .plain] 12 [(2, [], Value.bool true)] (by kernel_rfl) (by kernel_rfl) ?_
      refine reg_end [(2, Value.bool true)] (by kernel_rfl) (by kernel_rfl) ?_
      change WpE _ _ c_towpathlaw03_SumKeys_6 _ _ _
      refine wpE_ret (by kernel_rfl) ?_
      repeat (first | refine seqQ_ret ?_ | refine blockQ_ret ?_ | refine loopQ_ret ?_ | refine cutQ_ret ?_)
      exact retS (rs := [(Go.ResultVar.tmp 2)]) (v := Value.bool true) (by kernel_rfl) (⟨by kernel_rfl, trivial⟩) ⟨true, rfl, h⟩
    · replace h := h.2 hb
      refine reg_run [] 6 [(0, [], Value.string key), (7, [], Value.bool false), (8, [], Value.string key)] (by kernel_rfl) (by kernel_rfl) ?_
      refine reg_run [] 6 [(0, [], Value.string key), (7, [], Value.bool false), (8, [], Value.string key)] (by kernel_rfl) (by kernel_rfl) ?_
      refine reg_enter (op := (Go.Op.call (Go.Call.mk (Go.Callee.value (Go.Operand.func 38)) #[(Go.Operand.tmp 8)] #[9]))) (ty := 39) (dst := some 9) 38 #[Value.string key] (by kernel_rfl) (fun ww => by kernel_rfl) (Calls.mono h ?_)
      rintro _ w3 ⟨v9, rfl, h⟩
      refine ⟨_, rfl, ?_⟩
      refine reg_run [.sure] 8 [(7, [], Value.bool false), (9, [], Value.int .u32 v9), (10, [], Value.string key)] (by kernel_rfl) (by kernel_rfl) ?_
      refine reg_enter (op := (Go.Op.call (Go.Call.mk (Go.Callee.value (Go.Operand.func 39)) #[(Go.Operand.tmp 10)] #[9]))) (ty := 39) (dst := some 11) 39 #[Value.string key] (by kernel_rfl) (fun ww => by kernel_rfl) (Calls.mono h ?_)
      rintro _ w4 ⟨v11, rfl, h⟩
      refine ⟨_, rfl, ?_⟩
      refine reg_run [.sure, .plain, .plain] 12 [(2, [], Value.bool (v9 == v11))] (by kernel_rfl) (by kernel_rfl) ?_
      refine reg_end [(2, Value.bool (v9 == v11))] (by kernel_rfl) (by kernel_rfl) ?_
      change WpE _ _ c_towpathlaw03_SumKeys_6 _ _ _
      refine wpE_ret (by kernel_rfl) ?_
      repeat (first | refine seqQ_ret ?_ | refine blockQ_ret ?_ | refine loopQ_ret ?_ | refine cutQ_ret ?_)
      exact retS (rs := [(Go.ResultVar.tmp 2)]) (v := Value.bool (v9 == v11)) (by kernel_rfl) (⟨by kernel_rfl, trivial⟩) ⟨(v9 == v11), rfl, h⟩
  · rintro e w' ⟨v, rfl, r0, rfl, h⟩; exact ⟨r0, rfl, h⟩

/-! ### towpath/towpathlaw01.NumTurns (function 6) -/
noncomputable def c_towpathlaw01_NumTurns_0 : Code := (Try.f6.body).getD Code.skip
noncomputable def c_towpathlaw01_NumTurns_1 : Code := Code.l c_towpathlaw01_NumTurns_0
noncomputable def r_towpathlaw01_NumTurns_1 : Array Oper := Code.ops c_towpathlaw01_NumTurns_1
noncomputable def c_towpathlaw01_NumTurns_3 : Code := Code.r c_towpathlaw01_NumTurns_0
noncomputable def c_towpathlaw01_NumTurns_4 : Code := Code.l c_towpathlaw01_NumTurns_3
noncomputable def r_towpathlaw01_NumTurns_4 : Array Oper := Code.ops c_towpathlaw01_NumTurns_4
noncomputable def c_towpathlaw01_NumTurns_6 : Code := Code.r c_towpathlaw01_NumTurns_3

set_option maxRecDepth 100000 in
theorem S_towpathlaw01_NumTurns {x : Int} {n_ : Int} {y : Int} {w : World} {R : Bool → World → Prop} (h : F_towpathlaw01_NumTurns x n_ y R w) : C_towpathlaw01_NumTurns x n_ y w R := by
  unfold F_towpathlaw01_NumTurns at h
  unfold C_towpathlaw01_NumTurns
  refine Calls.mono (calls_of_wpE (args := [Value.int .u32 x, Value.int .i64 n_, Value.int .i64 y]) (R := fun v w' => ∃ (r0 : Bool), v = Value.bool r0 ∧ R r0 w') Try.func6 (c := c_towpathlaw01_NumTurns_0) (by kernel_rfl) 30 (by kernel_rfl) (by kernel_rfl) [(0, Value.int .u32 x), (1, Value.int .i64 n_), (2, Value.int .i64 y)] (by kernel_rfl) ?_) ?_
  · refine wpE_seq (x := c_towpathlaw01_NumTurns_1) (y := c_towpathlaw01_NumTurns_3) (by kernel_rfl) ?_
    refine wpE_region (id := 0) (ops := r_towpathlaw01_NumTurns_1) (by kernel_rfl) ?_
    refine reg_run [.plain] 1 [(0, [], Value.int .u32 x), (1, [], Value.int .i64 n_), (2, [], Value.int .i64 y)] (by kernel_rfl) (by kernel_rfl) ?_
    refine reg_end [(0, Value.int .u32 x), (1, Value.int .i64 n_), (2, Value.int .i64 y)] (by kernel_rfl) (by kernel_rfl) ?_
    change WpE _ _ c_towpathlaw01_NumTurns_3 _ _ _
    refine wpE_seq (x := c_towpathlaw01_NumTurns_4) (y := c_towpathlaw01_NumTurns_6) (by kernel_rfl) ?_
    refine wpE_region (id := 1) (ops := r_towpathlaw01_NumTurns_4) (by kernel_rfl) ?_
    refine reg_run [.plain, .plain] 2 [(0, [], Value.int .u32 x), (1, [], Value.int .i64 n_), (2, [], Value.int .i64 y), (7, [], Value.int .u32 x), (8, [], Value.int .i64 n_)] (by kernel_rfl) (by kernel_rfl) ?_
    refine reg_enter (op := (Go.Op.call (Go.Call.mk (Go.Callee.value (Go.Operand.func 40)) #[(Go.Operand.tmp 7), (Go.Operand.tmp 8)] #[39, 3]))) (ty := 39) (dst := some 9) 40 #[Value.int .u32 x, Value.int .i64 n_] (by kernel_rfl) (fun ww => by kernel_rfl) (Calls.mono h ?_)
    rintro _ w1 ⟨v9, rfl, h⟩
    refine ⟨_, rfl, ?_⟩
    refine reg_run [.plain, .plain] 5 [(2, [], Value.int .i64 y), (9, [], Value.int .u32 v9), (10, [], Value.int .u32 x), (11, [], Value.int .i64 n_)] (by kernel_rfl) (by kernel_rfl) ?_
    refine reg_enter (op := (Go.Op.call (Go.Call.mk (Go.Callee.value (Go.Operand.func 41)) #[(Go.Operand.tmp 10), (Go.Operand.tmp 11)] #[39, 3]))) (ty := 39) (dst := some 12) 41 #[Value.int .u32 x, Value.int .i64 n_] (by kernel_rfl) (fun ww => by kernel_rfl) (Calls.mono h ?_)
    rintro _ w2 ⟨v12, rfl, h⟩
    refine ⟨_, rfl, ?_⟩
    refine reg_run [.plain, .plain, .plain] 9 [(2, [], Value.int .i64 y), (14, [], Value.bool (v9 == v12)), (15, [(14, true)], Value.int .i64 y)] (by kernel_rfl) (by kernel_rfl) ?_
    refine reg_split 14 (v9 == v12) (by kernel_rfl) (fun hb => ?_) (fun hb => ?_)
    · replace h := h.1 hb
      refine reg_run [] 9 [(2, [], Value.int .i64 y), (14, [], Value.bool true), (15, [], Value.int .i64 y)] (by kernel_rfl) (by kernel_rfl) ?_
      refine reg_run [] 9 [(2, [], Value.int .i64 y), (14, [], Value.bool true), (15, [], Value.int .i64 y)] (by kernel_rfl) (by kernel_rfl) ?_
      refine reg_enter (op := (Go.Op.call (Go.Call.mk (Go.Callee.value (Go.Operand.func 42)) #[(Go.Operand.tmp 15)] #[2]))) (ty := 42) (dst := some 16) 42 #[Value.int .i64 y] (by kernel_rfl) (fun ww => by kernel_rfl) (Calls.mono h ?_)
      rintro _ w3 ⟨v16, rfl, h⟩
      refine ⟨_, rfl, ?_⟩
      refine reg_run [.sure] 11 [(2, [], Value.int .i64 y), (14, [], Value.bool true), (16, [], Value.int .u64 v16), (17, [], Value.int .i64 y)] (by kernel_rfl) (by kernel_rfl) ?_
      refine reg_enter (op := (Go.Op.call (Go.Call.mk (Go.Callee.value (Go.Operand.func 43)) #[(Go.Operand.tmp 17)] #[2]))) (ty := 42) (dst := some 18) 43 #[Value.int .i64 y] (by kernel_rfl) (fun ww => by kernel_rfl) (Calls.mono h ?_)
      rintro _ w4 ⟨v18, rfl, h⟩
      refine ⟨_, rfl, ?_⟩
      refine reg_run [.sure, .plain, .plain, .plain, .plain] 17 [(2, [], Value.int .i64 y), (21, [], Value.bool (v16 == v18)), (23, [(21, true)], Value.int .u64 (IntKind.u64.wrap y))] (by kernel_rfl) (by kernel_rfl) ?_
      refine reg_split 21 (v16 == v18) (by kernel_rfl) (fun hb => ?_) (fun hb => ?_)
      · replace h := h.1 hb
        refine reg_run [] 17 [(2, [], Value.int .i64 y), (21, [], Value.bool true), (23, [], Value.int .u64 (IntKind.u64.wrap y))] (by kernel_rfl) (by kernel_rfl) ?_
        refine reg_run [] 17 [(2, [], Value.int .i64 y), (21, [], Value.bool true), (23, [], Value.int .u64 (IntKind.u64.wrap y))] (by kernel_rfl) (by kernel_rfl) ?_
        refine reg_enter (op := (Go.Op.call (Go.Call.mk (Go.Callee.value (Go.Operand.func 44)) #[(Go.Operand.tmp 23)] #[42]))) (ty := 2) (dst := some 24) 44 #[Value.int .u64 (IntKind.u64.wrap y)] (by kernel_rfl) (fun ww => by kernel_rfl) (Calls.mono h ?_)
        rintro _ w5 ⟨v24, rfl, h⟩
        refine ⟨_, rfl, ?_⟩
        refine reg_run [.sure, .sure] 20 [(21, [], Value.bool true), (24, [], Value.int .i64 v24), (26, [], Value.int .u64 (IntKind.u64.wrap y))] (by kernel_rfl) (by kernel_rfl) ?_
        refine reg_enter (op := (Go.Op.call (Go.Call.mk (Go.Callee.value (Go.Operand.func 45)) #[(Go.Operand.tmp 26)] #[42]))) (ty := 2) (dst := some 27) 45 #[Value.int .u64 (IntKind.u64.wrap y)] (by kernel_rfl) (fun ww => by kernel_rfl) (Calls.mono h ?_)
        rintro _ w6 ⟨v27, rfl, h⟩
        refine ⟨_, rfl, ?_⟩
        refine reg_run [.sure, .plain, .plain] 24 [(6, [], Value.bool (v24 == v27))] (by kernel_rfl) (by kernel_rfl) ?_
        refine reg_end [(6, Value.bool (v24 == v27))] (by kernel_rfl) (by kernel_rfl) ?_
        change WpE _ _ c_towpathlaw01_NumTurns_6 _ _ _
        refine wpE_ret (by kernel_rfl) ?_
        repeat (first | refine seqQ_ret ?_ | refine blockQ_ret ?_ | refine loopQ_ret ?_ | refine cutQ_ret ?_)
        exact retS (rs := [(Go.ResultVar.tmp 6)]) (v := Value.bool (v24 == v27)) (by kernel_rfl) (⟨by kernel_rfl, trivial⟩) ⟨(v24 == v27), rfl, h⟩
      · replace h := h.2 hb
        refine reg_run [] 17 [(2, [], Value.int .i64 y), (21, [], Value.bool false), (23, [], undef)] (by kernel_rfl) (by kernel_rfl) ?_
        refine reg_run [.skip, .skip, .skip, .skip, .skip, .plain, .plain] 24 [(6, [], Value.bool false)] (by kernel_rfl) (by kernel_rfl) ?_
        refine reg_end [(6, Value.bool false)] (by kernel_rfl) (by kernel_rfl) ?_
        change WpE _ _ c_towpathlaw01_NumTurns_6 _ _ _
        refine wpE_ret (by kernel_rfl) ?_
        repeat (first | refine seqQ_ret ?_ | refine blockQ_ret ?_ | refine loopQ_ret ?_ | refine cutQ_ret ?_)
        exact retS (rs := [(Go.ResultVar.tmp 6)]) (v := Value.bool false) (by kernel_rfl) (⟨by kernel_rfl, trivial⟩) ⟨false, rfl, h⟩
    · replace h := h.2 hb
      refine reg_run [] 9 [(2, [], Value.int .i64 y), (14, [], Value.bool false), (15, [], undef)] (by kernel_rfl) (by kernel_rfl) ?_
      refine reg_run [.skip, .skip, .skip, .skip, .plain, .plain, .skip, .skip, .skip, .skip, .skip, .skip, .skip, .plain, .plain] 24 [(6, [], Value.bool false)] (by kernel_rfl) (by kernel_rfl) ?_
      refine reg_end [(6, Value.bool false)] (by kernel_rfl) (by kernel_rfl) ?_
      change WpE _ _ c_towpathlaw01_NumTurns_6 _ _ _
      refine wpE_ret (by kernel_rfl) ?_
      repeat (first | refine seqQ_ret ?_ | refine blockQ_ret ?_ | refine loopQ_ret ?_ | refine cutQ_ret ?_)
      exact retS (rs := [(Go.ResultVar.tmp 6)]) (v := Value.bool false) (by kernel_rfl) (⟨by kernel_rfl, trivial⟩) ⟨false, rfl, h⟩
  · rintro e w' ⟨v, rfl, r0, rfl, h⟩; exact ⟨r0, rfl, h⟩

/-! ### towpath/towpathlaw01.NumPlaces (function 7) -/
noncomputable def c_towpathlaw01_NumPlaces_0 : Code := (Try.f7.body).getD Code.skip
noncomputable def c_towpathlaw01_NumPlaces_1 : Code := Code.l c_towpathlaw01_NumPlaces_0
noncomputable def r_towpathlaw01_NumPlaces_1 : Array Oper := Code.ops c_towpathlaw01_NumPlaces_1
noncomputable def c_towpathlaw01_NumPlaces_3 : Code := Code.r c_towpathlaw01_NumPlaces_0
noncomputable def c_towpathlaw01_NumPlaces_4 : Code := Code.l c_towpathlaw01_NumPlaces_3
noncomputable def r_towpathlaw01_NumPlaces_4 : Array Oper := Code.ops c_towpathlaw01_NumPlaces_4
noncomputable def c_towpathlaw01_NumPlaces_6 : Code := Code.r c_towpathlaw01_NumPlaces_3
noncomputable def c_towpathlaw01_NumPlaces_7 : Code := Code.l c_towpathlaw01_NumPlaces_6
noncomputable def r_towpathlaw01_NumPlaces_7 : Array Oper := Code.ops c_towpathlaw01_NumPlaces_7
noncomputable def c_towpathlaw01_NumPlaces_9 : Code := Code.r c_towpathlaw01_NumPlaces_6
noncomputable def c_towpathlaw01_NumPlaces_10 : Code := Code.l c_towpathlaw01_NumPlaces_9
noncomputable def r_towpathlaw01_NumPlaces_10 : Array Oper := Code.ops c_towpathlaw01_NumPlaces_10
noncomputable def c_towpathlaw01_NumPlaces_12 : Code := Code.r c_towpathlaw01_NumPlaces_9
noncomputable def c_towpathlaw01_NumPlaces_13 : Code := Code.l c_towpathlaw01_NumPlaces_12
noncomputable def r_towpathlaw01_NumPlaces_13 : Array Oper := Code.ops c_towpathlaw01_NumPlaces_13
noncomputable def c_towpathlaw01_NumPlaces_15 : Code := Code.r c_towpathlaw01_NumPlaces_12
noncomputable def c_towpathlaw01_NumPlaces_16 : Code := Code.l c_towpathlaw01_NumPlaces_15
noncomputable def r_towpathlaw01_NumPlaces_16 : Array Oper := Code.ops c_towpathlaw01_NumPlaces_16
noncomputable def c_towpathlaw01_NumPlaces_18 : Code := Code.r c_towpathlaw01_NumPlaces_15

set_option maxRecDepth 100000 in
theorem S_towpathlaw01_NumPlaces {x : Int} {v : Int} {p : T_towpathlaw01_Place} {w : World} {R : Bool → World → Prop} (h : F_towpathlaw01_NumPlaces x v p R w) : C_towpathlaw01_NumPlaces x v p w R := by
  unfold F_towpathlaw01_NumPlaces at h
  unfold C_towpathlaw01_NumPlaces
  refine Calls.mono (calls_of_wpE (args := [Value.int .u64 x, Value.int .u64 v, Value.agg #[Value.int .i64 p.From, Value.int .i64 p.N]]) (R := fun v w' => ∃ (r0 : Bool), v = Value.bool r0 ∧ R r0 w') Try.func7 (c := c_towpathlaw01_NumPlaces_0) (by kernel_rfl) 71 (by kernel_rfl) (by kernel_rfl) [(0, Value.int .u64 x), (1, Value.int .u64 v), (2, Value.agg #[Value.int .i64 p.From, Value.int .i64 p.N])] (by kernel_rfl) ?_) ?_
  · refine wpE_seq (x := c_towpathlaw01_NumPlaces_1) (y := c_towpathlaw01_NumPlaces_3) (by kernel_rfl) ?_
    refine wpE_region (id := 0) (ops := r_towpathlaw01_NumPlaces_1) (by kernel_rfl) ?_
    refine reg_run [] 0 [(0, [], Value.int .u64 x), (1, [], Value.int .u64 v), (2, [], Value.agg #[Value.int .i64 p.From, Value.int .i64 p.N])] (by kernel_rfl) (by kernel_rfl) ?_
    refine reg_new (op := (Go.Op.box 70 (Go.Operand.tmp 2))) (ty := 0) (dst := some 5) (fun bb => Value.pointer (some ⟨bb, 0, none⟩)) (Obj.cells ([Value.int .i64 p.From, Value.int .i64 p.N]).toArray ty_towpathlaw01_Place (0, 0)) (by kernel_rfl) (by kernel_rfl) (fun b_ w1 hb hw => ?_)
    replace h := h b_ w1 hb hw
    clear hb hw
    refine reg_run [.plain] 2 [(0, [], Value.int .u64 x), (1, [], Value.int .u64 v), (5, [], Value.pointer (some ⟨b_, 0, none⟩))] (by kernel_rfl) (by kernel_rfl) ?_
    refine reg_end [(0, Value.int .u64 x), (1, Value.int .u64 v), (5, Value.pointer (some ⟨b_, 0, none⟩))] (by kernel_rfl) (by kernel_rfl) ?_
    change WpE _ _ c_towpathlaw01_NumPlaces_3 _ _ _
    refine wpE_seq (x := c_towpathlaw01_NumPlaces_4) (y := c_towpathlaw01_NumPlaces_6) (by kernel_rfl) ?_
    refine wpE_region (id := 1) (ops := r_towpathlaw01_NumPlaces_4) (by kernel_rfl) ?_
    refine reg_run [.plain, .plain] 2 [(0, [], Value.int .u64 x), (1, [], Value.int .u64 v), (5, [], Value.pointer (some ⟨b_, 0, none⟩)), (16, [], Value.int .u64 x), (17, [], Value.pointer (some ⟨b_, 0, none⟩))] (by kernel_rfl) (by kernel_rfl) ?_
    obtain ⟨v18, hc, h⟩ := h
    refine reg_load1 (t := 3) (a := (Go.Operand.tmp 17)) (b := b_) (o := 0) (ty := 3) (dst := some 18) (by kernel_rfl) (by kernel_rfl) (by kernel_rfl) hc ?_
    refine reg_run [.plain] 4 [(0, [], Value.int .u64 x), (1, [], Value.int .u64 v), (5, [], Value.pointer (some ⟨b_, 0, none⟩)), (16, [], Value.int .u64 x), (18, [], Value.int .i64 v18), (19, [], Value.pointer (some ⟨b_, 1, none⟩))] (by kernel_rfl) (by kernel_rfl) ?_
    obtain ⟨v20, hc, h⟩ := h
    refine reg_load1 (t := 3) (a := (Go.Operand.tmp 19)) (b := b_) (o := 1) (ty := 3) (dst := some 20) (by kernel_rfl) (by kernel_rfl) (by kernel_rfl) hc ?_
    refine reg_run [] 5 [(0, [], Value.int .u64 x), (1, [], Value.int .u64 v), (5, [], Value.pointer (some ⟨b_, 0, none⟩)), (16, [], Value.int .u64 x), (18, [], Value.int .i64 v18), (20, [], Value.int .i64 v20)] (by kernel_rfl) (by kernel_rfl) ?_
    refine reg_enter (op := (Go.Op.call (Go.Call.mk (Go.Callee.value (Go.Operand.func 46)) #[(Go.Operand.tmp 16), (Go.Operand.tmp 18), (Go.Operand.tmp 20)] #[42, 3, 3]))) (ty := 43) (dst := some 21) 46 #[Value.int .u64 x, Value.int .i64 v18, Value.int .i64 v20] (by kernel_rfl) (fun ww => by kernel_rfl) (Calls.mono h ?_)
    rintro _ w2 ⟨a_, ok, rfl, h⟩
    refine ⟨_, rfl, ?_⟩
    refine reg_run [.plain, .plain, .plain, .plain, .plain] 11 [(0, [], Value.int .u64 x), (1, [], Value.int .u64 v), (5, [], Value.pointer (some ⟨b_, 0, none⟩)), (7, [], Value.int .u64 a_), (8, [], Value.bool ok)] (by kernel_rfl) (by kernel_rfl) ?_
    refine reg_end [(0, Value.int .u64 x), (1, Value.int .u64 v), (5, Value.pointer (some ⟨b_, 0, none⟩)), (7, Value.int .u64 a_), (8, Value.bool ok)] (by kernel_rfl) (by kernel_rfl) ?_
    change WpE _ _ c_towpathlaw01_NumPlaces_6 _ _ _
    refine wpE_seq (x := c_towpathlaw01_NumPlaces_7) (y := c_towpathlaw01_NumPlaces_9) (by kernel_rfl) ?_
    refine wpE_region (id := 2) (ops := r_towpathlaw01_NumPlaces_7) (by kernel_rfl) ?_
    refine reg_run [.plain, .plain] 2 [(0, [], Value.int .u64 x), (1, [], Value.int .u64 v), (5, [], Value.pointer (some ⟨b_, 0, none⟩)), (7, [], Value.int .u64 a_), (8, [], Value.bool ok), (25, [], Value.int .u64 x), (26, [], Value.pointer (some ⟨b_, 0, none⟩))] (by kernel_rfl) (by kernel_rfl) ?_
    obtain ⟨v27, hc, h⟩ := h
    refine reg_load1 (t := 3) (a := (Go.Operand.tmp 26)) (b := b_) (o := 0) (ty := 3) (dst := some 27) (by kernel_rfl) (by kernel_rfl) (by kernel_rfl) hc ?_
    refine reg_run [.plain] 4 [(0, [], Value.int .u64 x), (1, [], Value.int .u64 v), (5, [], Value.pointer (some ⟨b_, 0, none⟩)), (7, [], Value.int .u64 a_), (8, [], Value.bool ok), (25, [], Value.int .u64 x), (27, [], Value.int .i64 v27), (28, [], Value.pointer (some ⟨b_, 1, none⟩))] (by kernel_rfl) (by kernel_rfl) ?_
    obtain ⟨v29, hc, h⟩ := h
    refine reg_load1 (t := 3) (a := (Go.Operand.tmp 28)) (b := b_) (o := 1) (ty := 3) (dst := some 29) (by kernel_rfl) (by kernel_rfl) (by kernel_rfl) hc ?_
    refine reg_run [.plain] 6 [(0, [], Value.int .u64 x), (1, [], Value.int .u64 v), (5, [], Value.pointer (some ⟨b_, 0, none⟩)), (7, [], Value.int .u64 a_), (8, [], Value.bool ok), (25, [], Value.int .u64 x), (27, [], Value.int .i64 v27), (29, [], Value.int .i64 v29), (30, [], Value.int .u64 v)] (by kernel_rfl) (by kernel_rfl) ?_
    refine reg_enter (op := (Go.Op.call (Go.Call.mk (Go.Callee.value (Go.Operand.func 47)) #[(Go.Operand.tmp 25), (Go.Operand.tmp 27), (Go.Operand.tmp 29), (Go.Operand.tmp 30)] #[42, 3, 3, 42]))) (ty := 43) (dst := some 31) 47 #[Value.int .u64 x, Value.int .i64 v27, Value.int .i64 v29, Value.int .u64 v] (by kernel_rfl) (fun ww => by kernel_rfl) (Calls.mono h ?_)
    rintro _ w3 ⟨b_1, is, rfl, h⟩
    refine ⟨_, rfl, ?_⟩
    refine reg_run [.plain, .plain, .plain, .plain, .plain] 12 [(0, [], Value.int .u64 x), (1, [], Value.int .u64 v), (5, [], Value.pointer (some ⟨b_, 0, none⟩)), (7, [], Value.int .u64 a_), (8, [], Value.bool ok), (9, [], Value.int .u64 b_1), (10, [], Value.bool is)] (by kernel_rfl) (by kernel_rfl) ?_
    refine reg_end [(0, Value.int .u64 x), (1, Value.int .u64 v), (5, Value.pointer (some ⟨b_, 0, none⟩)), (7, Value.int .u64 a_), (8, Value.bool ok), (9, Value.int .u64 b_1), (10, Value.bool is)] (by kernel_rfl) (by kernel_rfl) ?_
    change WpE _ _ c_towpathlaw01_NumPlaces_9 _ _ _
    refine wpE_seq (x := c_towpathlaw01_NumPlaces_10) (y := c_towpathlaw01_NumPlaces_12) (by kernel_rfl) ?_
    refine wpE_region (id := 3) (ops := r_towpathlaw01_NumPlaces_10) (by kernel_rfl) ?_
    refine reg_run [.plain, .plain] 2 [(0, [], Value.int .u64 x), (1, [], Value.int .u64 v), (5, [], Value.pointer (some ⟨b_, 0, none⟩)), (7, [], Value.int .u64 a_), (8, [], Value.bool ok), (9, [], Value.int .u64 b_1), (10, [], Value.bool is), (35, [], Value.int .u64 x), (36, [], Value.pointer (some ⟨b_, 0, none⟩))] (by kernel_rfl) (by kernel_rfl) ?_
    obtain ⟨v37, hc, h⟩ := h
    refine reg_load1 (t := 3) (a := (Go.Operand.tmp 36)) (b := b_) (o := 0) (ty := 3) (dst := some 37) (by kernel_rfl) (by kernel_rfl) (by kernel_rfl) hc ?_
    refine reg_run [.plain] 4 [(0, [], Value.int .u64 x), (1, [], Value.int .u64 v), (5, [], Value.pointer (some ⟨b_, 0, none⟩)), (7, [], Value.int .u64 a_), (8, [], Value.bool ok), (9, [], Value.int .u64 b_1), (10, [], Value.bool is), (35, [], Value.int .u64 x), (37, [], Value.int .i64 v37), (38, [], Value.pointer (some ⟨b_, 1, none⟩))] (by kernel_rfl) (by kernel_rfl) ?_
    obtain ⟨v39, hc, h⟩ := h
    refine reg_load1 (t := 3) (a := (Go.Operand.tmp 38)) (b := b_) (o := 1) (ty := 3) (dst := some 39) (by kernel_rfl) (by kernel_rfl) (by kernel_rfl) hc ?_
    refine reg_run [] 5 [(0, [], Value.int .u64 x), (1, [], Value.int .u64 v), (5, [], Value.pointer (some ⟨b_, 0, none⟩)), (7, [], Value.int .u64 a_), (8, [], Value.bool ok), (9, [], Value.int .u64 b_1), (10, [], Value.bool is), (35, [], Value.int .u64 x), (37, [], Value.int .i64 v37), (39, [], Value.int .i64 v39)] (by kernel_rfl) (by kernel_rfl) ?_
    refine reg_enter (op := (Go.Op.call (Go.Call.mk (Go.Callee.value (Go.Operand.func 48)) #[(Go.Operand.tmp 35), (Go.Operand.tmp 37), (Go.Operand.tmp 39)] #[42, 3, 3]))) (ty := 43) (dst := some 40) 48 #[Value.int .u64 x, Value.int .i64 v37, Value.int .i64 v39] (by kernel_rfl) (fun ww => by kernel_rfl) (Calls.mono h ?_)
    rintro _ w4 ⟨want, there, rfl, h⟩
    refine ⟨_, rfl, ?_⟩
    refine reg_run [.plain, .plain, .plain, .plain, .plain] 11 [(0, [], Value.int .u64 x), (1, [], Value.int .u64 v), (5, [], Value.pointer (some ⟨b_, 0, none⟩)), (7, [], Value.int .u64 a_), (8, [], Value.bool ok), (9, [], Value.int .u64 b_1), (10, [], Value.bool is), (11, [], Value.int .u64 want), (12, [], Value.bool there)] (by kernel_rfl) (by kernel_rfl) ?_
    refine reg_end [(0, Value.int .u64 x), (1, Value.int .u64 v), (5, Value.pointer (some ⟨b_, 0, none⟩)), (7, Value.int .u64 a_), (8, Value.bool ok), (9, Value.int .u64 b_1), (10, Value.bool is), (11, Value.int .u64 want), (12, Value.bool there)] (by kernel_rfl) (by kernel_rfl) ?_
    change WpE _ _ c_towpathlaw01_NumPlaces_12 _ _ _
    refine wpE_seq (x := c_towpathlaw01_NumPlaces_13) (y := c_towpathlaw01_NumPlaces_15) (by kernel_rfl) ?_
    refine wpE_region (id := 4) (ops := r_towpathlaw01_NumPlaces_13) (by kernel_rfl) ?_
    refine reg_run [.plain, .plain] 2 [(1, [], Value.int .u64 v), (5, [], Value.pointer (some ⟨b_, 0, none⟩)), (7, [], Value.int .u64 a_), (8, [], Value.bool ok), (9, [], Value.int .u64 b_1), (10, [], Value.bool is), (11, [], Value.int .u64 want), (12, [], Value.bool there), (44, [], Value.int .u64 x), (45, [], Value.pointer (some ⟨b_, 0, none⟩))] (by kernel_rfl) (by kernel_rfl) ?_
    obtain ⟨v46, hc, h⟩ := h
    refine reg_load1 (t := 3) (a := (Go.Operand.tmp 45)) (b := b_) (o := 0) (ty := 3) (dst := some 46) (by kernel_rfl) (by kernel_rfl) (by kernel_rfl) hc ?_
    refine reg_run [.plain] 4 [(1, [], Value.int .u64 v), (7, [], Value.int .u64 a_), (8, [], Value.bool ok), (9, [], Value.int .u64 b_1), (10, [], Value.bool is), (11, [], Value.int .u64 want), (12, [], Value.bool there), (44, [], Value.int .u64 x), (46, [], Value.int .i64 v46), (47, [], Value.pointer (some ⟨b_, 1, none⟩))] (by kernel_rfl) (by kernel_rfl) ?_
    obtain ⟨v48, hc, h⟩ := h
    refine reg_load1 (t := 3) (a := (Go.Operand.tmp 47)) (b := b_) (o := 1) (ty := 3) (dst := some 48) (by kernel_rfl) (by kernel_rfl) (by kernel_rfl) hc ?_
    refine reg_run [.plain] 6 [(7, [], Value.int .u64 a_), (8, [], Value.bool ok), (9, [], Value.int .u64 b_1), (10, [], Value.bool is), (11, [], Value.int .u64 want), (12, [], Value.bool there), (44, [], Value.int .u64 x), (46, [], Value.int .i64 v46), (48, [], Value.int .i64 v48), (49, [], Value.int .u64 v)] (by kernel_rfl) (by kernel_rfl) ?_
    refine reg_enter (op := (Go.Op.call (Go.Call.mk (Go.Callee.value (Go.Operand.func 49)) #[(Go.Operand.tmp 44), (Go.Operand.tmp 46), (Go.Operand.tmp 48), (Go.Operand.tmp 49)] #[42, 3, 3, 42]))) (ty := 43) (dst := some 50) 49 #[Value.int .u64 x, Value.int .i64 v46, Value.int .i64 v48, Value.int .u64 v] (by kernel_rfl) (fun ww => by kernel_rfl) (Calls.mono h ?_)
    rintro _ w5 ⟨put, may, rfl, h⟩
    refine ⟨_, rfl, ?_⟩
    refine reg_run [.plain, .plain, .plain, .plain, .plain] 12 [(7, [], Value.int .u64 a_), (8, [], Value.bool ok), (9, [], Value.int .u64 b_1), (10, [], Value.bool is), (11, [], Value.int .u64 want), (12, [], Value.bool there), (13, [], Value.int .u64 put), (14, [], Value.bool may)] (by kernel_rfl) (by kernel_rfl) ?_
    refine reg_end [(7, Value.int .u64 a_), (8, Value.bool ok), (9, Value.int .u64 b_1), (10, Value.bool is), (11, Value.int .u64 want), (12, Value.bool there), (13, Value.int .u64 put), (14, Value.bool may)] (by kernel_rfl) (by kernel_rfl) ?_
    change WpE _ _ c_towpathlaw01_NumPlaces_15 _ _ _
    refine wpE_seq (x := c_towpathlaw01_NumPlaces_16) (y := c_towpathlaw01_NumPlaces_18) (by kernel_rfl) ?_
    refine wpE_region (id := 5) (ops := r_towpathlaw01_NumPlaces_16) (by kernel_rfl) ?_
    refine reg_run [.plain, .plain, .plain, .plain, .plain, .plain, .plain, .pick, .plain, .plain, .plain, .plain, .pick, .plain, .plain, .plain, .plain, .pick, .plain] 19 [(6, [], Value.bool ((((a_ == want) && (ok == there)) && (b_1 == put)) && (is == may)))] (by kernel_rfl) (by kernel_rfl) ?_
    refine reg_end [(6, Value.bool ((((a_ == want) && (ok == there)) && (b_1 == put)) && (is == may)))] (by kernel_rfl) (by kernel_rfl) ?_
    change WpE _ _ c_towpathlaw01_NumPlaces_18 _ _ _
    refine wpE_ret (by kernel_rfl) ?_
    repeat (first | refine seqQ_ret ?_ | refine blockQ_ret ?_ | refine loopQ_ret ?_ | refine cutQ_ret ?_)
    exact retS (rs := [(Go.ResultVar.tmp 6)]) (v := Value.bool ((((a_ == want) && (ok == there)) && (b_1 == put)) && (is == may))) (by kernel_rfl) (⟨by kernel_rfl, trivial⟩) ⟨((((a_ == want) && (ok == there)) && (b_1 == put)) && (is == may)), rfl, h⟩
  · rintro e w' ⟨v, rfl, r0, rfl, h⟩; exact ⟨r0, rfl, h⟩

/-! ### towpath/towpathlaw03.SumBytes (function 8) -/
noncomputable def c_towpathlaw03_SumBytes_0 : Code := (Try.f8.body).getD Code.skip
noncomputable def c_towpathlaw03_SumBytes_1 : Code := Code.l c_towpathlaw03_SumBytes_0
noncomputable def r_towpathlaw03_SumBytes_1 : Array Oper := Code.ops c_towpathlaw03_SumBytes_1
noncomputable def c_towpathlaw03_SumBytes_3 : Code := Code.r c_towpathlaw03_SumBytes_0
noncomputable def c_towpathlaw03_SumBytes_4 : Code := Code.l c_towpathlaw03_SumBytes_3
noncomputable def c_towpathlaw03_SumBytes_5 : Code := Code.l c_towpathlaw03_SumBytes_4
noncomputable def r_towpathlaw03_SumBytes_5 : Array Oper := Code.ops c_towpathlaw03_SumBytes_5
noncomputable def c_towpathlaw03_SumBytes_7 : Code := Code.r c_towpathlaw03_SumBytes_4
noncomputable def c_towpathlaw03_SumBytes_8 : Code := Code.l c_towpathlaw03_SumBytes_7
noncomputable def c_towpathlaw03_SumBytes_9 : Code := Code.l c_towpathlaw03_SumBytes_8
noncomputable def r_towpathlaw03_SumBytes_9 : Array Oper := Code.ops c_towpathlaw03_SumBytes_9
noncomputable def c_towpathlaw03_SumBytes_11 : Code := Code.r c_towpathlaw03_SumBytes_8
noncomputable def c_towpathlaw03_SumBytes_12 : Code := Code.r c_towpathlaw03_SumBytes_7
noncomputable def c_towpathlaw03_SumBytes_13 : Code := Code.r c_towpathlaw03_SumBytes_3
noncomputable def c_towpathlaw03_SumBytes_14 : Code := Code.l c_towpathlaw03_SumBytes_13
noncomputable def r_towpathlaw03_SumBytes_14 : Array Oper := Code.ops c_towpathlaw03_SumBytes_14
noncomputable def c_towpathlaw03_SumBytes_16 : Code := Code.r c_towpathlaw03_SumBytes_13
noncomputable def c_towpathlaw03_SumBytes_17 : Code := Code.l c_towpathlaw03_SumBytes_16
noncomputable def r_towpathlaw03_SumBytes_17 : Array Oper := Code.ops c_towpathlaw03_SumBytes_17
noncomputable def c_towpathlaw03_SumBytes_19 : Code := Code.r c_towpathlaw03_SumBytes_16

set_option maxRecDepth 100000 in
theorem S_towpathlaw03_SumBytes {b_ : Slc} {before : Int} {w : World} {R : Bool → World → Prop} (h : F_towpathlaw03_SumBytes b_ before R w) : C_towpathlaw03_SumBytes b_ before w R := by
  unfold F_towpathlaw03_SumBytes at h
  unfold C_towpathlaw03_SumBytes
  refine Calls.mono (calls_of_wpE (args := [Value.slice b_.ptr b_.len b_.cap, Value.int .u32 before]) (R := fun v w' => ∃ (r0 : Bool), v = Value.bool r0 ∧ R r0 w') Try.func8 (c := c_towpathlaw03_SumBytes_0) (by kernel_rfl) 31 (by kernel_rfl) (by kernel_rfl) [(0, Value.slice b_.ptr b_.len b_.cap), (1, Value.int .u32 before)] (by kernel_rfl) ?_) ?_
  · refine wpE_seq (x := c_towpathlaw03_SumBytes_1) (y := c_towpathlaw03_SumBytes_3) (by kernel_rfl) ?_
    refine wpE_region (id := 0) (ops := r_towpathlaw03_SumBytes_1) (by kernel_rfl) ?_
    refine reg_run [.plain] 1 [(0, [], Value.slice b_.ptr b_.len b_.cap), (1, [], Value.int .u32 before)] (by kernel_rfl) (by kernel_rfl) ?_
    refine reg_end [(0, Value.slice b_.ptr b_.len b_.cap), (1, Value.int .u32 before)] (by kernel_rfl) (by kernel_rfl) ?_
    change WpE _ _ c_towpathlaw03_SumBytes_3 _ _ _
    refine wpE_seq (x := c_towpathlaw03_SumBytes_4) (y := c_towpathlaw03_SumBytes_13) (by kernel_rfl) ?_
    refine wpE_seq (x := c_towpathlaw03_SumBytes_5) (y := c_towpathlaw03_SumBytes_7) (by kernel_rfl) ?_
    refine wpE_region (id := 1) (ops := r_towpathlaw03_SumBytes_5) (by kernel_rfl) ?_
    refine reg_run [.plain, .plain] 2 [(0, [], Value.slice b_.ptr b_.len b_.cap), (1, [], Value.int .u32 before), (7, [], Value.int .i64 ((b_.len : Nat) : Int))] (by kernel_rfl) (by kernel_rfl) ?_
    refine reg_new (op := (Go.Op.buildSlice 88 1 #[(0, (Go.Operand.tmp 7))])) (ty := 88) (dst := some 8) (fun bb => Value.slice (some ⟨bb, 0, none⟩) 1 1) (Obj.cells ([Value.int .i64 ((b_.len : Nat) : Int)]).toArray ty_int (0, 0)) (by kernel_rfl) (by kernel_rfl) (fun b_1 w1 hb hw => ?_)
    replace h := h b_1 w1 hb hw
    clear hb hw
    refine reg_run [] 3 [(0, [], Value.slice b_.ptr b_.len b_.cap), (1, [], Value.int .u32 before), (8, [], Value.slice (some ⟨b_1, 0, none⟩) 1 1)] (by kernel_rfl) (by kernel_rfl) ?_
    refine reg_enter (op := (Go.Op.call (Go.Call.mk (Go.Callee.value (Go.Operand.func 37)) #[(Go.Operand.tmp 8)] #[88]))) (ty := 4) (dst := some 9) 37 #[Value.slice (some ⟨b_1, 0, none⟩) 1 1] (by kernel_rfl) (fun ww => by kernel_rfl) (Calls.mono h ?_)
    rintro _ w2 ⟨v9, rfl, h⟩
    refine ⟨_, rfl, ?_⟩
    refine reg_end [(0, Value.slice b_.ptr b_.len b_.cap), (1, Value.int .u32 before), (9, Value.bool v9)] (by kernel_rfl) (by kernel_rfl) ?_
    change WpE _ _ c_towpathlaw03_SumBytes_7 _ _ _
    refine wpE_cond (o := (Operand.tmp 9)) (b := v9) (x := c_towpathlaw03_SumBytes_8) (y := c_towpathlaw03_SumBytes_12) (by kernel_rfl) (by kernel_rfl) (fun hb => ?_) (fun hb => ?_)
    · replace h := h.1 hb
      refine wpE_seq (x := c_towpathlaw03_SumBytes_9) (y := c_towpathlaw03_SumBytes_11) (by kernel_rfl) ?_
      refine wpE_region (id := 2) (ops := r_towpathlaw03_SumBytes_9) (by kernel_rfl) ?_
      refine reg_run [.plain] 1 [(4, [], Value.bool true)] (by kernel_rfl) (by kernel_rfl) ?_
      refine reg_end [(4, Value.bool true)] (by kernel_rfl) (by kernel_rfl) ?_
      change WpE _ _ c_towpathlaw03_SumBytes_11 _ _ _
      refine wpE_ret (by kernel_rfl) ?_
      repeat (first | refine seqQ_ret ?_ | refine blockQ_ret ?_ | refine loopQ_ret ?_ | refine cutQ_ret ?_)
      exact retS (rs := [(Go.ResultVar.tmp 4)]) (v := Value.bool true) (by kernel_rfl) (⟨by kernel_rfl, trivial⟩) ⟨true, rfl, h⟩
    · replace h := h.2 hb
      refine wpE_skip (by kernel_rfl) ?_
      change WpE _ _ c_towpathlaw03_SumBytes_13 _ _ _
      refine wpE_seq (x := c_towpathlaw03_SumBytes_14) (y := c_towpathlaw03_SumBytes_16) (by kernel_rfl) ?_
      refine wpE_region (id := 3) (ops := r_towpathlaw03_SumBytes_14) (by kernel_rfl) ?_
      refine reg_run [.plain] 1 [(0, [], Value.slice b_.ptr b_.len b_.cap), (1, [], Value.int .u32 before), (10, [], Value.slice b_.ptr b_.len b_.cap)] (by kernel_rfl) (by kernel_rfl) ?_
      refine reg_enter (op := (Go.Op.call (Go.Call.mk (Go.Callee.value (Go.Operand.func 50)) #[(Go.Operand.tmp 10)] #[74]))) (ty := 74) (dst := some 11) 50 #[Value.slice b_.ptr b_.len b_.cap] (by kernel_rfl) (fun ww => by kernel_rfl) (Calls.mono h ?_)
      rintro _ w3 ⟨v11, rfl, h⟩
      refine ⟨_, rfl, ?_⟩
      refine reg_run [.plain] 3 [(0, [], Value.slice b_.ptr b_.len b_.cap), (1, [], Value.int .u32 before), (5, [], Value.slice v11.ptr v11.len v11.cap)] (by kernel_rfl) (by kernel_rfl) ?_
      refine reg_end [(0, Value.slice b_.ptr b_.len b_.cap), (1, Value.int .u32 before), (5, Value.slice v11.ptr v11.len v11.cap)] (by kernel_rfl) (by kernel_rfl) ?_
      change WpE _ _ c_towpathlaw03_SumBytes_16 _ _ _
      refine wpE_seq (x := c_towpathlaw03_SumBytes_17) (y := c_towpathlaw03_SumBytes_19) (by kernel_rfl) ?_
      refine wpE_region (id := 4) (ops := r_towpathlaw03_SumBytes_17) (by kernel_rfl) ?_
      refine reg_run [.plain] 1 [(0, [], Value.slice b_.ptr b_.len b_.cap), (1, [], Value.int .u32 before), (5, [], Value.slice v11.ptr v11.len v11.cap), (12, [], Value.slice v11.ptr v11.len v11.cap)] (by kernel_rfl) (by kernel_rfl) ?_
      refine reg_enter (op := (Go.Op.call (Go.Call.mk (Go.Callee.value (Go.Operand.func 51)) #[(Go.Operand.tmp 12)] #[74]))) (ty := 39) (dst := some 13) 51 #[Value.slice v11.ptr v11.len v11.cap] (by kernel_rfl) (fun ww => by kernel_rfl) (Calls.mono h ?_)
      rintro _ w4 ⟨v13, rfl, h⟩
      refine ⟨_, rfl, ?_⟩
      refine reg_run [.plain] 3 [(0, [], Value.slice b_.ptr b_.len b_.cap), (1, [], Value.int .u32 before), (5, [], Value.slice v11.ptr v11.len v11.cap), (13, [], Value.int .u32 v13), (14, [], Value.slice b_.ptr b_.len b_.cap)] (by kernel_rfl) (by kernel_rfl) ?_
      refine reg_enter (op := (Go.Op.call (Go.Call.mk (Go.Callee.value (Go.Operand.func 52)) #[(Go.Operand.tmp 14)] #[74]))) (ty := 39) (dst := some 15) 52 #[Value.slice b_.ptr b_.len b_.cap] (by kernel_rfl) (fun ww => by kernel_rfl) (Calls.mono h ?_)
      rintro _ w5 ⟨v15, rfl, h⟩
      refine ⟨_, rfl, ?_⟩
      refine reg_run [.plain, .plain, .plain, .plain] 8 [(0, [], Value.slice b_.ptr b_.len b_.cap), (1, [], Value.int .u32 before), (5, [], Value.slice v11.ptr v11.len v11.cap), (17, [], Value.bool (v13 == v15)), (18, [(17, true)], Value.int .u32 before), (19, [(17, true)], Value.slice v11.ptr v11.len v11.cap)] (by kernel_rfl) (by kernel_rfl) ?_
      refine reg_split 17 (v13 == v15) (by kernel_rfl) (fun hb => ?_) (fun hb => ?_)
      · replace h := h.1 hb
        refine reg_run [] 8 [(0, [], Value.slice b_.ptr b_.len b_.cap), (1, [], Value.int .u32 before), (5, [], Value.slice v11.ptr v11.len v11.cap), (17, [], Value.bool true), (18, [], Value.int .u32 before), (19, [], Value.slice v11.ptr v11.len v11.cap)] (by kernel_rfl) (by kernel_rfl) ?_
        refine reg_run [] 8 [(0, [], Value.slice b_.ptr b_.len b_.cap), (1, [], Value.int .u32 before), (5, [], Value.slice v11.ptr v11.len v11.cap), (17, [], Value.bool true), (18, [], Value.int .u32 before), (19, [], Value.slice v11.ptr v11.len v11.cap)] (by kernel_rfl) (by kernel_rfl) ?_
        refine reg_enter (op := (Go.Op.call (Go.Call.mk (Go.Callee.value (Go.Operand.func 53)) #[(Go.Operand.tmp 18), (Go.Operand.tmp 19)] #[39, 74]))) (ty := 39) (dst := some 20) 53 #[Value.int .u32 before, Value.slice v11.ptr v11.len v11.cap] (by kernel_rfl) (fun ww => by kernel_rfl) (Calls.mono h ?_)
        rintro _ w6 ⟨v20, rfl, h⟩
        refine ⟨_, rfl, ?_⟩
        refine reg_run [.sure, .sure] 11 [(0, [], Value.slice b_.ptr b_.len b_.cap), (5, [], Value.slice v11.ptr v11.len v11.cap), (17, [], Value.bool true), (20, [], Value.int .u32 v20), (21, [], Value.int .u32 before), (22, [], Value.slice b_.ptr b_.len b_.cap)] (by kernel_rfl) (by kernel_rfl) ?_
        refine reg_enter (op := (Go.Op.call (Go.Call.mk (Go.Callee.value (Go.Operand.func 54)) #[(Go.Operand.tmp 21), (Go.Operand.tmp 22)] #[39, 74]))) (ty := 39) (dst := some 23) 54 #[Value.int .u32 before, Value.slice b_.ptr b_.len b_.cap] (by kernel_rfl) (fun ww => by kernel_rfl) (Calls.mono h ?_)
        rintro _ w7 ⟨v23, rfl, h⟩
        refine ⟨_, rfl, ?_⟩
        refine reg_run [.sure, .plain, .plain, .plain, .plain] 17 [(26, [], Value.bool (v20 == v23)), (27, [(26, true)], Value.slice v11.ptr v11.len v11.cap), (28, [(26, true)], Value.slice b_.ptr b_.len b_.cap)] (by kernel_rfl) (by kernel_rfl) ?_
        refine reg_split 26 (v20 == v23) (by kernel_rfl) (fun hb => ?_) (fun hb => ?_)
        · replace h := h.1 hb
          refine reg_run [] 17 [(26, [], Value.bool true), (27, [], Value.slice v11.ptr v11.len v11.cap), (28, [], Value.slice b_.ptr b_.len b_.cap)] (by kernel_rfl) (by kernel_rfl) ?_
          refine reg_run [] 17 [(26, [], Value.bool true), (27, [], Value.slice v11.ptr v11.len v11.cap), (28, [], Value.slice b_.ptr b_.len b_.cap)] (by kernel_rfl) (by kernel_rfl) ?_
          refine reg_enter (op := (Go.Op.call (Go.Call.mk (Go.Callee.value (Go.Operand.func 55)) #[(Go.Operand.tmp 27), (Go.Operand.tmp 28)] #[74, 74]))) (ty := 4) (dst := some 29) 55 #[Value.slice v11.ptr v11.len v11.cap, Value.slice b_.ptr b_.len b_.cap] (by kernel_rfl) (fun ww => by kernel_rfl) (Calls.mono h ?_)
          rintro _ w8 ⟨v29, rfl, h⟩
          refine ⟨_, rfl, ?_⟩
          refine reg_run [.plain, .plain] 20 [(4, [], Value.bool v29)] (by kernel_rfl) (by kernel_rfl) ?_
          refine reg_end [(4, Value.bool v29)] (by kernel_rfl) (by kernel_rfl) ?_
          change WpE _ _ c_towpathlaw03_SumBytes_19 _ _ _
          refine wpE_ret (by kernel_rfl) ?_
          repeat (first | refine seqQ_ret ?_ | refine blockQ_ret ?_ | refine loopQ_ret ?_ | refine cutQ_ret ?_)
          exact retS (rs := [(Go.ResultVar.tmp 4)]) (v := Value.bool v29) (by kernel_rfl) (⟨by kernel_rfl, trivial⟩) ⟨v29, rfl, h⟩
        · replace h := h.2 hb
          refine reg_run [] 17 [(26, [], Value.bool false), (27, [], undef), (28, [], undef)] (by kernel_rfl) (by kernel_rfl) ?_
          refine reg_run [.skip, .plain, .plain] 20 [(4, [], Value.bool false)] (by kernel_rfl) (by kernel_rfl) ?_
          refine reg_end [(4, Value.bool false)] (by kernel_rfl) (by kernel_rfl) ?_
          change WpE _ _ c_towpathlaw03_SumBytes_19 _ _ _
          refine wpE_ret (by kernel_rfl) ?_
          repeat (first | refine seqQ_ret ?_ | refine blockQ_ret ?_ | refine loopQ_ret ?_ | refine cutQ_ret ?_)
          exact retS (rs := [(Go.ResultVar.tmp 4)]) (v := Value.bool false) (by kernel_rfl) (⟨by kernel_rfl, trivial⟩) ⟨false, rfl, h⟩
      · replace h := h.2 hb
        refine reg_run [] 8 [(0, [], Value.slice b_.ptr b_.len b_.cap), (1, [], Value.int .u32 before), (5, [], Value.slice v11.ptr v11.len v11.cap), (17, [], Value.bool false), (18, [], undef), (19, [], undef)] (by kernel_rfl) (by kernel_rfl) ?_
        refine reg_run [.skip, .skip, .skip, .skip, .skip, .plain, .plain, .skip, .skip, .skip, .plain, .plain] 20 [(4, [], Value.bool false)] (by kernel_rfl) (by kernel_rfl) ?_
        refine reg_end [(4, Value.bool false)] (by kernel_rfl) (by kernel_rfl) ?_
        change WpE _ _ c_towpathlaw03_SumBytes_19 _ _ _
        refine wpE_ret (by kernel_rfl) ?_
        repeat (first | refine seqQ_ret ?_ | refine blockQ_ret ?_ | refine loopQ_ret ?_ | refine cutQ_ret ?_)
        exact retS (rs := [(Go.ResultVar.tmp 4)]) (v := Value.bool false) (by kernel_rfl) (⟨by kernel_rfl, trivial⟩) ⟨false, rfl, h⟩
  · rintro e w' ⟨v, rfl, r0, rfl, h⟩; exact ⟨r0, rfl, h⟩

/-! ### towpath/towpathlaw03.SumJoins (function 9) -/
noncomputable def c_towpathlaw03_SumJoins_0 : Code := (Try.f9.body).getD Code.skip
noncomputable def c_towpathlaw03_SumJoins_1 : Code := Code.l c_towpathlaw03_SumJoins_0
noncomputable def r_towpathlaw03_SumJoins_1 : Array Oper := Code.ops c_towpathlaw03_SumJoins_1
noncomputable def c_towpathlaw03_SumJoins_3 : Code := Code.r c_towpathlaw03_SumJoins_0
noncomputable def c_towpathlaw03_SumJoins_4 : Code := Code.l c_towpathlaw03_SumJoins_3
noncomputable def c_towpathlaw03_SumJoins_5 : Code := Code.l c_towpathlaw03_SumJoins_4
noncomputable def r_towpathlaw03_SumJoins_5 : Array Oper := Code.ops c_towpathlaw03_SumJoins_5
noncomputable def c_towpathlaw03_SumJoins_7 : Code := Code.r c_towpathlaw03_SumJoins_4
noncomputable def c_towpathlaw03_SumJoins_8 : Code := Code.l c_towpathlaw03_SumJoins_7
noncomputable def c_towpathlaw03_SumJoins_9 : Code := Code.l c_towpathlaw03_SumJoins_8
noncomputable def r_towpathlaw03_SumJoins_9 : Array Oper := Code.ops c_towpathlaw03_SumJoins_9
noncomputable def c_towpathlaw03_SumJoins_11 : Code := Code.r c_towpathlaw03_SumJoins_8
noncomputable def c_towpathlaw03_SumJoins_12 : Code := Code.r c_towpathlaw03_SumJoins_7
noncomputable def c_towpathlaw03_SumJoins_13 : Code := Code.r c_towpathlaw03_SumJoins_3
noncomputable def c_towpathlaw03_SumJoins_14 : Code := Code.l c_towpathlaw03_SumJoins_13
noncomputable def r_towpathlaw03_SumJoins_14 : Array Oper := Code.ops c_towpathlaw03_SumJoins_14
noncomputable def c_towpathlaw03_SumJoins_16 : Code := Code.r c_towpathlaw03_SumJoins_13
noncomputable def c_towpathlaw03_SumJoins_17 : Code := Code.l c_towpathlaw03_SumJoins_16
noncomputable def r_towpathlaw03_SumJoins_17 : Array Oper := Code.ops c_towpathlaw03_SumJoins_17
noncomputable def c_towpathlaw03_SumJoins_19 : Code := Code.r c_towpathlaw03_SumJoins_16
noncomputable def c_towpathlaw03_SumJoins_20 : Code := Code.l c_towpathlaw03_SumJoins_19
noncomputable def r_towpathlaw03_SumJoins_20 : Array Oper := Code.ops c_towpathlaw03_SumJoins_20
noncomputable def c_towpathlaw03_SumJoins_22 : Code := Code.r c_towpathlaw03_SumJoins_19
noncomputable def c_towpathlaw03_SumJoins_23 : Code := Code.l c_towpathlaw03_SumJoins_22
noncomputable def r_towpathlaw03_SumJoins_23 : Array Oper := Code.ops c_towpathlaw03_SumJoins_23
noncomputable def c_towpathlaw03_SumJoins_25 : Code := Code.r c_towpathlaw03_SumJoins_22

set_option maxRecDepth 100000 in
theorem S_towpathlaw03_SumJoins {a_ : Slc} {b_ : Slc} {sum0 : Int} {w : World} {R : Bool → World → Prop} (h : F_towpathlaw03_SumJoins a_ b_ sum0 R w) : C_towpathlaw03_SumJoins a_ b_ sum0 w R := by
  unfold F_towpathlaw03_SumJoins at h
  unfold C_towpathlaw03_SumJoins
  refine Calls.mono (calls_of_wpE (args := [Value.slice a_.ptr a_.len a_.cap, Value.slice b_.ptr b_.len b_.cap, Value.int .u32 sum0]) (R := fun v w' => ∃ (r0 : Bool), v = Value.bool r0 ∧ R r0 w') Try.func9 (c := c_towpathlaw03_SumJoins_0) (by kernel_rfl) 49 (by kernel_rfl) (by kernel_rfl) [(0, Value.slice a_.ptr a_.len a_.cap), (1, Value.slice b_.ptr b_.len b_.cap), (2, Value.int .u32 sum0)] (by kernel_rfl) ?_) ?_
  · refine wpE_seq (x := c_towpathlaw03_SumJoins_1) (y := c_towpathlaw03_SumJoins_3) (by kernel_rfl) ?_
    refine wpE_region (id := 0) (ops := r_towpathlaw03_SumJoins_1) (by kernel_rfl) ?_
    refine reg_run [.plain] 1 [(0, [], Value.slice a_.ptr a_.len a_.cap), (1, [], Value.slice b_.ptr b_.len b_.cap), (2, [], Value.int .u32 sum0)] (by kernel_rfl) (by kernel_rfl) ?_
    refine reg_end [(0, Value.slice a_.ptr a_.len a_.cap), (1, Value.slice b_.ptr b_.len b_.cap), (2, Value.int .u32 sum0)] (by kernel_rfl) (by kernel_rfl) ?_
    change WpE _ _ c_towpathlaw03_SumJoins_3 _ _ _
    refine wpE_seq (x := c_towpathlaw03_SumJoins_4) (y := c_towpathlaw03_SumJoins_13) (by kernel_rfl) ?_
    refine wpE_seq_cut (x := c_towpathlaw03_SumJoins_5) (y := c_towpathlaw03_SumJoins_7) (by kernel_rfl) (fun l w => ∃ (t17 : Bool), l = [(0, Value.slice a_.ptr a_.len a_.cap), (1, Value.slice b_.ptr b_.len b_.cap), (2, Value.int .u32 sum0), (17, Value.bool t17)] ∧ F_towpathlaw03_SumJoins_k0 a_ b_ sum0 R t17 w) ?_ ?_
    · refine wpE_region (id := 1) (ops := r_towpathlaw03_SumJoins_5) (by kernel_rfl) ?_
      refine reg_run [] 0 [(0, [], Value.slice a_.ptr a_.len a_.cap), (1, [], Value.slice b_.ptr b_.len b_.cap), (2, [], Value.int .u32 sum0)] (by kernel_rfl) (by kernel_rfl) ?_
      refine reg_enter (op := (Go.Op.call (Go.Call.mk (Go.Callee.value (Go.Operand.func 56)) #[] #[]))) (ty := 4) (dst := some 8) 56 #[] (by kernel_rfl) (fun ww => by kernel_rfl) (Calls.mono h ?_)
      rintro _ w12 ⟨v8, rfl, h⟩
      refine ⟨_, rfl, ?_⟩
      refine reg_run [.plain, .plain, .plain, .plain, .plain, .plain] 7 [(0, [], Value.slice a_.ptr a_.len a_.cap), (1, [], Value.slice b_.ptr b_.len b_.cap), (2, [], Value.int .u32 sum0), (10, [], Value.bool (!v8)), (12, [(10, false)], Value.int .i64 ((a_.len : Nat) : Int)), (14, [(10, false)], Value.int .i64 ((b_.len : Nat) : Int))] (by kernel_rfl) (by kernel_rfl) ?_
      refine reg_split 10 (!v8) (by kernel_rfl) (fun hb => ?_) (fun hb => ?_)
      · replace h := h.1 hb
        refine reg_run [] 7 [(0, [], Value.slice a_.ptr a_.len a_.cap), (1, [], Value.slice b_.ptr b_.len b_.cap), (2, [], Value.int .u32 sum0), (10, [], Value.bool true), (12, [], undef), (14, [], undef)] (by kernel_rfl) (by kernel_rfl) ?_
        refine reg_run [.skip, .skip, .plain] 10 [(0, [], Value.slice a_.ptr a_.len a_.cap), (1, [], Value.slice b_.ptr b_.len b_.cap), (2, [], Value.int .u32 sum0), (17, [], Value.bool true)] (by kernel_rfl) (by kernel_rfl) ?_
        refine reg_end [(0, Value.slice a_.ptr a_.len a_.cap), (1, Value.slice b_.ptr b_.len b_.cap), (2, Value.int .u32 sum0), (17, Value.bool true)] (by kernel_rfl) (by kernel_rfl) ?_
        exact ⟨[(0, Value.slice a_.ptr a_.len a_.cap), (1, Value.slice b_.ptr b_.len b_.cap), (2, Value.int .u32 sum0), (17, Value.bool true)], Sub.mk (by kernel_rfl), true, rfl, h⟩
      · replace h := h.2 hb
        refine reg_run [] 7 [(0, [], Value.slice a_.ptr a_.len a_.cap), (1, [], Value.slice b_.ptr b_.len b_.cap), (2, [], Value.int .u32 sum0), (10, [], Value.bool false), (12, [], Value.int .i64 ((a_.len : Nat) : Int)), (14, [], Value.int .i64 ((b_.len : Nat) : Int))] (by kernel_rfl) (by kernel_rfl) ?_
        refine reg_run [] 7 [(0, [], Value.slice a_.ptr a_.len a_.cap), (1, [], Value.slice b_.ptr b_.len b_.cap), (2, [], Value.int .u32 sum0), (10, [], Value.bool false), (12, [], Value.int .i64 ((a_.len : Nat) : Int)), (14, [], Value.int .i64 ((b_.len : Nat) : Int))] (by kernel_rfl) (by kernel_rfl) ?_
        refine reg_new (op := (Go.Op.buildSlice 88 2 #[(0, (Go.Operand.tmp 12)), (1, (Go.Operand.tmp 14))])) (ty := 88) (dst := some 15) (fun bb => Value.slice (some ⟨bb, 0, none⟩) 2 2) (Obj.cells ([Value.int .i64 ((a_.len : Nat) : Int), Value.int .i64 ((b_.len : Nat) : Int)]).toArray ty_int (0, 0)) (by kernel_rfl) (by kernel_rfl) (fun b_1 w13 hb hw => ?_)
        replace h := h b_1 w13 hb hw
        clear hb hw
        refine reg_run [] 8 [(0, [], Value.slice a_.ptr a_.len a_.cap), (1, [], Value.slice b_.ptr b_.len b_.cap), (2, [], Value.int .u32 sum0), (10, [], Value.bool false), (15, [], Value.slice (some ⟨b_1, 0, none⟩) 2 2)] (by kernel_rfl) (by kernel_rfl) ?_
        refine reg_enter (op := (Go.Op.call (Go.Call.mk (Go.Callee.value (Go.Operand.func 37)) #[(Go.Operand.tmp 15)] #[88]))) (ty := 4) (dst := some 16) 37 #[Value.slice (some ⟨b_1, 0, none⟩) 2 2] (by kernel_rfl) (fun ww => by kernel_rfl) (Calls.mono h ?_)
        rintro _ w14 ⟨v16, rfl, h⟩
        refine ⟨_, rfl, ?_⟩
        refine reg_run [.plain] 10 [(0, [], Value.slice a_.ptr a_.len a_.cap), (1, [], Value.slice b_.ptr b_.len b_.cap), (2, [], Value.int .u32 sum0), (17, [], Value.bool v16)] (by kernel_rfl) (by kernel_rfl) ?_
        refine reg_end [(0, Value.slice a_.ptr a_.len a_.cap), (1, Value.slice b_.ptr b_.len b_.cap), (2, Value.int .u32 sum0), (17, Value.bool v16)] (by kernel_rfl) (by kernel_rfl) ?_
        exact ⟨[(0, Value.slice a_.ptr a_.len a_.cap), (1, Value.slice b_.ptr b_.len b_.cap), (2, Value.int .u32 sum0), (17, Value.bool v16)], Sub.mk (by kernel_rfl), v16, rfl, h⟩
    · rintro _ w1 ⟨t17, rfl, h⟩
      unfold F_towpathlaw03_SumJoins_k0 at h
      refine wpE_cond (o := (Operand.tmp 17)) (b := t17) (x := c_towpathlaw03_SumJoins_8) (y := c_towpathlaw03_SumJoins_12) (by kernel_rfl) (by kernel_rfl) (fun hb => ?_) (fun hb => ?_)
      · replace h := h.1 hb
        refine wpE_seq (x := c_towpathlaw03_SumJoins_9) (y := c_towpathlaw03_SumJoins_11) (by kernel_rfl) ?_
        refine wpE_region (id := 2) (ops := r_towpathlaw03_SumJoins_9) (by kernel_rfl) ?_
        refine reg_run [] 0 [] (by kernel_rfl) (by kernel_rfl) ?_
        refine reg_enter (op := (Go.Op.call (Go.Call.mk (Go.Callee.value (Go.Operand.func 56)) #[] #[]))) (ty := 4) (dst := some 18) 56 #[] (by kernel_rfl) (fun ww => by kernel_rfl) (Calls.mono h ?_)
        rintro _ w2 ⟨v18, rfl, h⟩
        refine ⟨_, rfl, ?_⟩
        refine reg_run [.plain] 2 [(6, [], Value.bool v18)] (by kernel_rfl) (by kernel_rfl) ?_
        refine reg_end [(6, Value.bool v18)] (by kernel_rfl) (by kernel_rfl) ?_
        change WpE _ _ c_towpathlaw03_SumJoins_11 _ _ _
        refine wpE_ret (by kernel_rfl) ?_
        repeat (first | refine seqQ_ret ?_ | refine blockQ_ret ?_ | refine loopQ_ret ?_ | refine cutQ_ret ?_)
        exact retS (rs := [(Go.ResultVar.tmp 6)]) (v := Value.bool v18) (by kernel_rfl) (⟨by kernel_rfl, trivial⟩) ⟨v18, rfl, h⟩
      · replace h := h.2 hb
        refine wpE_skip (by kernel_rfl) ?_
        change WpE _ _ c_towpathlaw03_SumJoins_13 _ _ _
        refine wpE_seq (x := c_towpathlaw03_SumJoins_14) (y := c_towpathlaw03_SumJoins_16) (by kernel_rfl) ?_
        refine wpE_region (id := 3) (ops := r_towpathlaw03_SumJoins_14) (by kernel_rfl) ?_
        refine reg_run [.plain] 1 [(0, [], Value.slice a_.ptr a_.len a_.cap), (1, [], Value.slice b_.ptr b_.len b_.cap), (2, [], Value.int .u32 sum0), (7, [], Value.slice none 0 0)] (by kernel_rfl) (by kernel_rfl) ?_
        refine reg_end [(0, Value.slice a_.ptr a_.len a_.cap), (1, Value.slice b_.ptr b_.len b_.cap), (2, Value.int .u32 sum0), (7, Value.slice none 0 0)] (by kernel_rfl) (by kernel_rfl) ?_
        change WpE _ _ c_towpathlaw03_SumJoins_16 _ _ _
        refine wpE_seq (x := c_towpathlaw03_SumJoins_17) (y := c_towpathlaw03_SumJoins_19) (by kernel_rfl) ?_
        refine wpE_region (id := 4) (ops := r_towpathlaw03_SumJoins_17) (by kernel_rfl) ?_
        refine reg_run [.plain, .plain] 2 [(0, [], Value.slice a_.ptr a_.len a_.cap), (1, [], Value.slice b_.ptr b_.len b_.cap), (2, [], Value.int .u32 sum0), (7, [], Value.slice none 0 0), (19, [], Value.slice none 0 0), (20, [], Value.slice a_.ptr a_.len a_.cap)] (by kernel_rfl) (by kernel_rfl) ?_
        obtain ⟨src, hs, h⟩ := h
        refine reg_append (t := 74) (tx := 74) (e := 5) (a := (Go.Operand.tmp 19)) (xo := (Go.Operand.tmp 20)) (s := (Slc.mk none 0 0)) (x := a_) (sz := 1) (by_ := 1) (zs := [Value.int .u8 0]) (ty := 74) (dst := some 21) src (by kernel_rfl) (by kernel_rfl) (by kernel_rfl) (by kernel_rfl) (by kernel_rfl) (by kernel_rfl) (by kernel_rfl) (by kernel_rfl) (by kernel_rfl) hs (AppendW.mono h (fun both w3 h => ?_))
        refine reg_run [.plain] 4 [(0, [], Value.slice a_.ptr a_.len a_.cap), (1, [], Value.slice b_.ptr b_.len b_.cap), (2, [], Value.int .u32 sum0), (7, [], Value.slice both.ptr both.len both.cap)] (by kernel_rfl) (by kernel_rfl) ?_
        refine reg_end [(0, Value.slice a_.ptr a_.len a_.cap), (1, Value.slice b_.ptr b_.len b_.cap), (2, Value.int .u32 sum0), (7, Value.slice both.ptr both.len both.cap)] (by kernel_rfl) (by kernel_rfl) ?_
        change WpE _ _ c_towpathlaw03_SumJoins_19 _ _ _
        refine wpE_seq (x := c_towpathlaw03_SumJoins_20) (y := c_towpathlaw03_SumJoins_22) (by kernel_rfl) ?_
        refine wpE_region (id := 5) (ops := r_towpathlaw03_SumJoins_20) (by kernel_rfl) ?_
        refine reg_run [.plain, .plain] 2 [(0, [], Value.slice a_.ptr a_.len a_.cap), (1, [], Value.slice b_.ptr b_.len b_.cap), (2, [], Value.int .u32 sum0), (7, [], Value.slice both.ptr both.len both.cap), (22, [], Value.slice both.ptr both.len both.cap), (23, [], Value.slice b_.ptr b_.len b_.cap)] (by kernel_rfl) (by kernel_rfl) ?_
        obtain ⟨src, hs, h⟩ := h
        refine reg_append (t := 74) (tx := 74) (e := 5) (a := (Go.Operand.tmp 22)) (xo := (Go.Operand.tmp 23)) (s := both) (x := b_) (sz := 1) (by_ := 1) (zs := [Value.int .u8 0]) (ty := 74) (dst := some 24) src (by kernel_rfl) (by kernel_rfl) (by kernel_rfl) (by kernel_rfl) (by kernel_rfl) (by kernel_rfl) (by kernel_rfl) (by kernel_rfl) (by kernel_rfl) hs (AppendW.mono h (fun both1 w4 h => ?_))
        refine reg_run [.plain] 4 [(0, [], Value.slice a_.ptr a_.len a_.cap), (1, [], Value.slice b_.ptr b_.len b_.cap), (2, [], Value.int .u32 sum0), (7, [], Value.slice both1.ptr both1.len both1.cap)] (by kernel_rfl) (by kernel_rfl) ?_
        refine reg_end [(0, Value.slice a_.ptr a_.len a_.cap), (1, Value.slice b_.ptr b_.len b_.cap), (2, Value.int .u32 sum0), (7, Value.slice both1.ptr both1.len both1.cap)] (by kernel_rfl) (by kernel_rfl) ?_
        change WpE _ _ c_towpathlaw03_SumJoins_22 _ _ _
        refine wpE_seq (x := c_towpathlaw03_SumJoins_23) (y := c_towpathlaw03_SumJoins_25) (by kernel_rfl) ?_
        refine wpE_region (id := 6) (ops := r_towpathlaw03_SumJoins_23) (by kernel_rfl) ?_
        refine reg_run [.plain] 1 [(0, [], Value.slice a_.ptr a_.len a_.cap), (1, [], Value.slice b_.ptr b_.len b_.cap), (2, [], Value.int .u32 sum0), (7, [], Value.slice both1.ptr both1.len both1.cap), (25, [], Value.slice a_.ptr a_.len a_.cap)] (by kernel_rfl) (by kernel_rfl) ?_
        refine reg_enter (op := (Go.Op.call (Go.Call.mk (Go.Callee.value (Go.Operand.func 51)) #[(Go.Operand.tmp 25)] #[74]))) (ty := 39) (dst := some 26) 51 #[Value.slice a_.ptr a_.len a_.cap] (by kernel_rfl) (fun ww => by kernel_rfl) (Calls.mono h ?_)
        rintro _ w5 ⟨v26, rfl, h⟩
        refine ⟨_, rfl, ?_⟩
        refine reg_run [.plain] 3 [(0, [], Value.slice a_.ptr a_.len a_.cap), (1, [], Value.slice b_.ptr b_.len b_.cap), (2, [], Value.int .u32 sum0), (7, [], Value.slice both1.ptr both1.len both1.cap), (26, [], Value.int .u32 v26), (27, [], Value.slice b_.ptr b_.len b_.cap)] (by kernel_rfl) (by kernel_rfl) ?_
        refine reg_enter (op := (Go.Op.call (Go.Call.mk (Go.Callee.value (Go.Operand.func 53)) #[(Go.Operand.tmp 26), (Go.Operand.tmp 27)] #[39, 74]))) (ty := 39) (dst := some 28) 53 #[Value.int .u32 v26, Value.slice b_.ptr b_.len b_.cap] (by kernel_rfl) (fun ww => by kernel_rfl) (Calls.mono h ?_)
        rintro _ w6 ⟨v28, rfl, h⟩
        refine ⟨_, rfl, ?_⟩
        refine reg_run [.plain] 5 [(0, [], Value.slice a_.ptr a_.len a_.cap), (1, [], Value.slice b_.ptr b_.len b_.cap), (2, [], Value.int .u32 sum0), (7, [], Value.slice both1.ptr both1.len both1.cap), (28, [], Value.int .u32 v28), (29, [], Value.slice both1.ptr both1.len both1.cap)] (by kernel_rfl) (by kernel_rfl) ?_
        refine reg_enter (op := (Go.Op.call (Go.Call.mk (Go.Callee.value (Go.Operand.func 51)) #[(Go.Operand.tmp 29)] #[74]))) (ty := 39) (dst := some 30) 51 #[Value.slice both1.ptr both1.len both1.cap] (by kernel_rfl) (fun ww => by kernel_rfl) (Calls.mono h ?_)
        rintro _ w7 ⟨v30, rfl, h⟩
        refine ⟨_, rfl, ?_⟩
        refine reg_run [.plain, .plain, .plain, .plain] 10 [(1, [], Value.slice b_.ptr b_.len b_.cap), (2, [], Value.int .u32 sum0), (7, [], Value.slice both1.ptr both1.len both1.cap), (32, [], Value.bool (v28 == v30)), (33, [(32, true)], Value.int .u32 sum0), (34, [(32, true)], Value.slice a_.ptr a_.len a_.cap)] (by kernel_rfl) (by kernel_rfl) ?_
        refine reg_split 32 (v28 == v30) (by kernel_rfl) (fun hb => ?_) (fun hb => ?_)
        · replace h := h.1 hb
          refine reg_run [] 10 [(1, [], Value.slice b_.ptr b_.len b_.cap), (2, [], Value.int .u32 sum0), (7, [], Value.slice both1.ptr both1.len both1.cap), (32, [], Value.bool true), (33, [], Value.int .u32 sum0), (34, [], Value.slice a_.ptr a_.len a_.cap)] (by kernel_rfl) (by kernel_rfl) ?_
          refine reg_run [] 10 [(1, [], Value.slice b_.ptr b_.len b_.cap), (2, [], Value.int .u32 sum0), (7, [], Value.slice both1.ptr both1.len both1.cap), (32, [], Value.bool true), (33, [], Value.int .u32 sum0), (34, [], Value.slice a_.ptr a_.len a_.cap)] (by kernel_rfl) (by kernel_rfl) ?_
          refine reg_enter (op := (Go.Op.call (Go.Call.mk (Go.Callee.value (Go.Operand.func 53)) #[(Go.Operand.tmp 33), (Go.Operand.tmp 34)] #[39, 74]))) (ty := 39) (dst := some 35) 53 #[Value.int .u32 sum0, Value.slice a_.ptr a_.len a_.cap] (by kernel_rfl) (fun ww => by kernel_rfl) (Calls.mono h ?_)
          rintro _ w8 ⟨v35, rfl, h⟩
          refine ⟨_, rfl, ?_⟩
          refine reg_run [.sure] 12 [(2, [], Value.int .u32 sum0), (7, [], Value.slice both1.ptr both1.len both1.cap), (32, [], Value.bool true), (35, [], Value.int .u32 v35), (36, [], Value.slice b_.ptr b_.len b_.cap)] (by kernel_rfl) (by kernel_rfl) ?_
          refine reg_enter (op := (Go.Op.call (Go.Call.mk (Go.Callee.value (Go.Operand.func 53)) #[(Go.Operand.tmp 35), (Go.Operand.tmp 36)] #[39, 74]))) (ty := 39) (dst := some 37) 53 #[Value.int .u32 v35, Value.slice b_.ptr b_.len b_.cap] (by kernel_rfl) (fun ww => by kernel_rfl) (Calls.mono h ?_)
          rintro _ w9 ⟨v37, rfl, h⟩
          refine ⟨_, rfl, ?_⟩
          refine reg_run [.sure, .sure] 15 [(2, [], Value.int .u32 sum0), (32, [], Value.bool true), (37, [], Value.int .u32 v37), (38, [], Value.int .u32 sum0), (39, [], Value.slice both1.ptr both1.len both1.cap)] (by kernel_rfl) (by kernel_rfl) ?_
          refine reg_enter (op := (Go.Op.call (Go.Call.mk (Go.Callee.value (Go.Operand.func 53)) #[(Go.Operand.tmp 38), (Go.Operand.tmp 39)] #[39, 74]))) (ty := 39) (dst := some 40) 53 #[Value.int .u32 sum0, Value.slice both1.ptr both1.len both1.cap] (by kernel_rfl) (fun ww => by kernel_rfl) (Calls.mono h ?_)
          rintro _ w10 ⟨v40, rfl, h⟩
          refine ⟨_, rfl, ?_⟩
          refine reg_run [.sure, .plain, .plain, .plain] 20 [(2, [], Value.int .u32 sum0), (43, [], Value.bool (v37 == v40)), (44, [(43, true)], Value.int .u32 sum0)] (by kernel_rfl) (by kernel_rfl) ?_
          refine reg_split 43 (v37 == v40) (by kernel_rfl) (fun hb => ?_) (fun hb => ?_)
          · replace h := h.1 hb
            refine reg_run [] 20 [(2, [], Value.int .u32 sum0), (43, [], Value.bool true), (44, [], Value.int .u32 sum0)] (by kernel_rfl) (by kernel_rfl) ?_
            refine reg_run [] 20 [(2, [], Value.int .u32 sum0), (43, [], Value.bool true), (44, [], Value.int .u32 sum0)] (by kernel_rfl) (by kernel_rfl) ?_
            refine reg_enter (op := (Go.Op.call (Go.Call.mk (Go.Callee.value (Go.Operand.func 53)) #[(Go.Operand.tmp 44), (Go.Operand.const (Go.Value.slice none 0 0))] #[39, 74]))) (ty := 39) (dst := some 45) 53 #[Value.int .u32 sum0, Value.slice none 0 0] (by kernel_rfl) (fun ww => by kernel_rfl) (Calls.mono h ?_)
            rintro _ w11 ⟨v45, rfl, h⟩
            refine ⟨_, rfl, ?_⟩
            refine reg_run [.sure, .sure, .plain, .plain] 25 [(6, [], Value.bool (v45 == sum0))] (by kernel_rfl) (by kernel_rfl) ?_
            refine reg_end [(6, Value.bool (v45 == sum0))] (by kernel_rfl) (by kernel_rfl) ?_
            change WpE _ _ c_towpathlaw03_SumJoins_25 _ _ _
            refine wpE_ret (by kernel_rfl) ?_
            repeat (first | refine seqQ_ret ?_ | refine blockQ_ret ?_ | refine loopQ_ret ?_ | refine cutQ_ret ?_)
            exact retS (rs := [(Go.ResultVar.tmp 6)]) (v := Value.bool (v45 == sum0)) (by kernel_rfl) (⟨by kernel_rfl, trivial⟩) ⟨(v45 == sum0), rfl, h⟩
          · replace h := h.2 hb
            refine reg_run [] 20 [(2, [], Value.int .u32 sum0), (43, [], Value.bool false), (44, [], undef)] (by kernel_rfl) (by kernel_rfl) ?_
            refine reg_run [.skip, .skip, .skip, .plain, .plain] 25 [(6, [], Value.bool false)] (by kernel_rfl) (by kernel_rfl) ?_
            refine reg_end [(6, Value.bool false)] (by kernel_rfl) (by kernel_rfl) ?_
            change WpE _ _ c_towpathlaw03_SumJoins_25 _ _ _
            refine wpE_ret (by kernel_rfl) ?_
            repeat (first | refine seqQ_ret ?_ | refine blockQ_ret ?_ | refine loopQ_ret ?_ | refine cutQ_ret ?_)
            exact retS (rs := [(Go.ResultVar.tmp 6)]) (v := Value.bool false) (by kernel_rfl) (⟨by kernel_rfl, trivial⟩) ⟨false, rfl, h⟩
        · replace h := h.2 hb
          refine reg_run [] 10 [(1, [], Value.slice b_.ptr b_.len b_.cap), (2, [], Value.int .u32 sum0), (7, [], Value.slice both1.ptr both1.len both1.cap), (32, [], Value.bool false), (33, [], undef), (34, [], undef)] (by kernel_rfl) (by kernel_rfl) ?_
          refine reg_run [.skip, .skip, .skip, .skip, .skip, .skip, .skip, .plain, .plain, .skip, .skip, .skip, .skip, .plain, .plain] 25 [(6, [], Value.bool false)] (by kernel_rfl) (by kernel_rfl) ?_
          refine reg_end [(6, Value.bool false)] (by kernel_rfl) (by kernel_rfl) ?_
          change WpE _ _ c_towpathlaw03_SumJoins_25 _ _ _
          refine wpE_ret (by kernel_rfl) ?_
          repeat (first | refine seqQ_ret ?_ | refine blockQ_ret ?_ | refine loopQ_ret ?_ | refine cutQ_ret ?_)
          exact retS (rs := [(Go.ResultVar.tmp 6)]) (v := Value.bool false) (by kernel_rfl) (⟨by kernel_rfl, trivial⟩) ⟨false, rfl, h⟩
  · rintro e w' ⟨v, rfl, r0, rfl, h⟩; exact ⟨r0, rfl, h⟩

/-! ### towpath/towpathlaw01.NumBack (function 11) -/
noncomputable def c_towpathlaw01_NumBack_0 : Code := (Try.f11.body).getD Code.skip
noncomputable def c_towpathlaw01_NumBack_1 : Code := Code.l c_towpathlaw01_NumBack_0
noncomputable def r_towpathlaw01_NumBack_1 : Array Oper := Code.ops c_towpathlaw01_NumBack_1
noncomputable def c_towpathlaw01_NumBack_3 : Code := Code.r c_towpathlaw01_NumBack_0
noncomputable def c_towpathlaw01_NumBack_4 : Code := Code.l c_towpathlaw01_NumBack_3
noncomputable def r_towpathlaw01_NumBack_4 : Array Oper := Code.ops c_towpathlaw01_NumBack_4
noncomputable def c_towpathlaw01_NumBack_6 : Code := Code.r c_towpathlaw01_NumBack_3
noncomputable def c_towpathlaw01_NumBack_7 : Code := Code.l c_towpathlaw01_NumBack_6
noncomputable def r_towpathlaw01_NumBack_7 : Array Oper := Code.ops c_towpathlaw01_NumBack_7
noncomputable def c_towpathlaw01_NumBack_9 : Code := Code.r c_towpathlaw01_NumBack_6
noncomputable def c_towpathlaw01_NumBack_10 : Code := Code.l c_towpathlaw01_NumBack_9
noncomputable def r_towpathlaw01_NumBack_10 : Array Oper := Code.ops c_towpathlaw01_NumBack_10
noncomputable def c_towpathlaw01_NumBack_12 : Code := Code.r c_towpathlaw01_NumBack_9
noncomputable def c_towpathlaw01_NumBack_13 : Code := Code.l c_towpathlaw01_NumBack_12
noncomputable def r_towpathlaw01_NumBack_13 : Array Oper := Code.ops c_towpathlaw01_NumBack_13
noncomputable def c_towpathlaw01_NumBack_15 : Code := Code.r c_towpathlaw01_NumBack_12
noncomputable def c_towpathlaw01_NumBack_16 : Code := Code.l c_towpathlaw01_NumBack_15
noncomputable def r_towpathlaw01_NumBack_16 : Array Oper := Code.ops c_towpathlaw01_NumBack_16
noncomputable def c_towpathlaw01_NumBack_18 : Code := Code.r c_towpathlaw01_NumBack_15

set_option maxRecDepth 100000 in
theorem S_towpathlaw01_NumBack {x : Int} {y : Int} {w : World} {R : Bool → World → Prop} (h : F_towpathlaw01_NumBack x y R w) : C_towpathlaw01_NumBack x y w R := by
  unfold F_towpathlaw01_NumBack at h
  unfold C_towpathlaw01_NumBack
  refine Calls.mono (calls_of_wpE (args := [Value.int .i64 x, Value.int .u64 y]) (R := fun v w' => ∃ (r0 : Bool), v = Value.bool r0 ∧ R r0 w') Try.func11 (c := c_towpathlaw01_NumBack_0) (by kernel_rfl) 72 (by kernel_rfl) (by kernel_rfl) [(0, Value.int .i64 x), (1, Value.int .u64 y)] (by kernel_rfl) ?_) ?_
  · refine wpE_seq (x := c_towpathlaw01_NumBack_1) (y := c_towpathlaw01_NumBack_3) (by kernel_rfl) ?_
    refine wpE_region (id := 0) (ops := r_towpathlaw01_NumBack_1) (by kernel_rfl) ?_
    refine reg_run [.plain] 1 [(0, [], Value.int .i64 x), (1, [], Value.int .u64 y)] (by kernel_rfl) (by kernel_rfl) ?_
    refine reg_end [(0, Value.int .i64 x), (1, Value.int .u64 y)] (by kernel_rfl) (by kernel_rfl) ?_
    change WpE _ _ c_towpathlaw01_NumBack_3 _ _ _
    refine wpE_seq (x := c_towpathlaw01_NumBack_4) (y := c_towpathlaw01_NumBack_6) (by kernel_rfl) ?_
    refine wpE_region (id := 1) (ops := r_towpathlaw01_NumBack_4) (by kernel_rfl) ?_
    refine reg_run [.plain] 1 [(0, [], Value.int .i64 x), (1, [], Value.int .u64 y), (14, [], Value.int .i64 x)] (by kernel_rfl) (by kernel_rfl) ?_
    refine reg_enter (op := (Go.Op.call (Go.Call.mk (Go.Callee.value (Go.Operand.func 15)) #[(Go.Operand.tmp 14)] #[2]))) (ty := 26) (dst := some 15) 15 #[Value.int .i64 x] (by kernel_rfl) (fun ww => by kernel_rfl) (Calls.mono h ?_)
    rintro _ w1 ⟨a_, ok, rfl, h⟩
    refine ⟨_, rfl, ?_⟩
    refine reg_run [.plain, .plain, .plain, .plain, .plain] 7 [(0, [], Value.int .i64 x), (1, [], Value.int .u64 y), (5, [], Value.int .i16 a_), (6, [], Value.bool ok)] (by kernel_rfl) (by kernel_rfl) ?_
    refine reg_end [(0, Value.int .i64 x), (1, Value.int .u64 y), (5, Value.int .i16 a_), (6, Value.bool ok)] (by kernel_rfl) (by kernel_rfl) ?_
    change WpE _ _ c_towpathlaw01_NumBack_6 _ _ _
    refine wpE_seq (x := c_towpathlaw01_NumBack_7) (y := c_towpathlaw01_NumBack_9) (by kernel_rfl) ?_
    refine wpE_region (id := 2) (ops := r_towpathlaw01_NumBack_7) (by kernel_rfl) ?_
    refine reg_run [.plain] 1 [(0, [], Value.int .i64 x), (1, [], Value.int .u64 y), (6, [], Value.bool ok), (19, [], Value.int .i16 a_)] (by kernel_rfl) (by kernel_rfl) ?_
    refine reg_enter (op := (Go.Op.call (Go.Call.mk (Go.Callee.value (Go.Operand.func 57)) #[(Go.Operand.tmp 19)] #[25]))) (ty := 30) (dst := some 20) 57 #[Value.int .i16 a_] (by kernel_rfl) (fun ww => by kernel_rfl) (Calls.mono h ?_)
    rintro _ w2 ⟨back, is, rfl, h⟩
    refine ⟨_, rfl, ?_⟩
    refine reg_run [.plain, .plain, .plain, .plain, .plain] 7 [(0, [], Value.int .i64 x), (1, [], Value.int .u64 y), (6, [], Value.bool ok), (7, [], Value.int .i64 back), (8, [], Value.bool is)] (by kernel_rfl) (by kernel_rfl) ?_
    refine reg_end [(0, Value.int .i64 x), (1, Value.int .u64 y), (6, Value.bool ok), (7, Value.int .i64 back), (8, Value.bool is)] (by kernel_rfl) (by kernel_rfl) ?_
    change WpE _ _ c_towpathlaw01_NumBack_9 _ _ _
    refine wpE_seq (x := c_towpathlaw01_NumBack_10) (y := c_towpathlaw01_NumBack_12) (by kernel_rfl) ?_
    refine wpE_region (id := 3) (ops := r_towpathlaw01_NumBack_10) (by kernel_rfl) ?_
    refine reg_run [.plain] 1 [(0, [], Value.int .i64 x), (1, [], Value.int .u64 y), (6, [], Value.bool ok), (7, [], Value.int .i64 back), (8, [], Value.bool is), (24, [], Value.int .u64 y)] (by kernel_rfl) (by kernel_rfl) ?_
    refine reg_enter (op := (Go.Op.call (Go.Call.mk (Go.Callee.value (Go.Operand.func 33)) #[(Go.Operand.tmp 24)] #[42]))) (ty := 40) (dst := some 25) 33 #[Value.int .u64 y] (by kernel_rfl) (fun ww => by kernel_rfl) (Calls.mono h ?_)
    rintro _ w3 ⟨b_, fit, rfl, h⟩
    refine ⟨_, rfl, ?_⟩
    refine reg_run [.plain, .plain, .plain, .plain, .plain] 7 [(0, [], Value.int .i64 x), (1, [], Value.int .u64 y), (6, [], Value.bool ok), (7, [], Value.int .i64 back), (8, [], Value.bool is), (9, [], Value.int .u32 b_), (10, [], Value.bool fit)] (by kernel_rfl) (by kernel_rfl) ?_
    refine reg_end [(0, Value.int .i64 x), (1, Value.int .u64 y), (6, Value.bool ok), (7, Value.int .i64 back), (8, Value.bool is), (9, Value.int .u32 b_), (10, Value.bool fit)] (by kernel_rfl) (by kernel_rfl) ?_
    change WpE _ _ c_towpathlaw01_NumBack_12 _ _ _
    refine wpE_seq (x := c_towpathlaw01_NumBack_13) (y := c_towpathlaw01_NumBack_15) (by kernel_rfl) ?_
    refine wpE_region (id := 4) (ops := r_towpathlaw01_NumBack_13) (by kernel_rfl) ?_
    refine reg_run [.plain] 1 [(0, [], Value.int .i64 x), (1, [], Value.int .u64 y), (6, [], Value.bool ok), (7, [], Value.int .i64 back), (8, [], Value.bool is), (10, [], Value.bool fit), (29, [], Value.int .u32 b_)] (by kernel_rfl) (by kernel_rfl) ?_
    refine reg_enter (op := (Go.Op.call (Go.Call.mk (Go.Callee.value (Go.Operand.func 58)) #[(Go.Operand.tmp 29)] #[39]))) (ty := 43) (dst := some 30) 58 #[Value.int .u32 b_] (by kernel_rfl) (fun ww => by kernel_rfl) (Calls.mono h ?_)
    rintro _ w4 ⟨again_, yes, rfl, h⟩
    refine ⟨_, rfl, ?_⟩
    refine reg_run [.plain, .plain, .plain, .plain, .plain] 7 [(0, [], Value.int .i64 x), (1, [], Value.int .u64 y), (6, [], Value.bool ok), (7, [], Value.int .i64 back), (8, [], Value.bool is), (10, [], Value.bool fit), (11, [], Value.int .u64 again_), (12, [], Value.bool yes)] (by kernel_rfl) (by kernel_rfl) ?_
    refine reg_end [(0, Value.int .i64 x), (1, Value.int .u64 y), (6, Value.bool ok), (7, Value.int .i64 back), (8, Value.bool is), (10, Value.bool fit), (11, Value.int .u64 again_), (12, Value.bool yes)] (by kernel_rfl) (by kernel_rfl) ?_
    change WpE _ _ c_towpathlaw01_NumBack_15 _ _ _
    refine wpE_seq (x := c_towpathlaw01_NumBack_16) (y := c_towpathlaw01_NumBack_18) (by kernel_rfl) ?_
    refine wpE_region (id := 5) (ops := r_towpathlaw01_NumBack_16) (by kernel_rfl) ?_
    refine reg_run [] 0 [(0, [], Value.int .i64 x), (1, [], Value.int .u64 y), (6, [], Value.bool ok), (7, [], Value.int .i64 back), (8, [], Value.bool is), (10, [], Value.bool fit), (11, [], Value.int .u64 again_), (12, [], Value.bool yes)] (by kernel_rfl) (by kernel_rfl) ?_
    refine reg_enter (op := (Go.Op.call (Go.Call.mk (Go.Callee.value (Go.Operand.func 59)) #[] #[]))) (ty := 4) (dst := some 33) 59 #[] (by kernel_rfl) (fun ww => by kernel_rfl) (Calls.mono h ?_)
    rintro _ w5 ⟨v33, rfl, h⟩
    refine ⟨_, rfl, ?_⟩
    refine reg_run [.plain, .plain, .pick, .plain, .plain, .pick, .plain, .plain, .plain, .plain, .plain, .plain, .plain, .pick, .pick, .plain, .plain, .plain, .plain, .plain, .plain, .plain, .pick, .pick, .plain, .plain] 27 [(0, [], Value.int .i64 x), (1, [], Value.int .u64 y), (58, [], Value.bool ((((v33 && is) && yes) && ((!ok) || (back == x))) && ((!fit) || (again_ == y)))), (59, [(58, true)], Value.int .i64 x)] (by kernel_rfl) (by kernel_rfl) ?_
    refine reg_split 58 ((((v33 && is) && yes) && ((!ok) || (back == x))) && ((!fit) || (again_ == y))) (by kernel_rfl) (fun hb => ?_) (fun hb => ?_)
    · replace h := h.1 hb
      refine reg_run [] 27 [(0, [], Value.int .i64 x), (1, [], Value.int .u64 y), (58, [], Value.bool true), (59, [], Value.int .i64 x)] (by kernel_rfl) (by kernel_rfl) ?_
      refine reg_run [] 27 [(0, [], Value.int .i64 x), (1, [], Value.int .u64 y), (58, [], Value.bool true), (59, [], Value.int .i64 x)] (by kernel_rfl) (by kernel_rfl) ?_
      refine reg_enter (op := (Go.Op.call (Go.Call.mk (Go.Callee.value (Go.Operand.func 42)) #[(Go.Operand.tmp 59)] #[2]))) (ty := 42) (dst := some 60) 42 #[Value.int .i64 x] (by kernel_rfl) (fun ww => by kernel_rfl) (Calls.mono h ?_)
      rintro _ w6 ⟨v60, rfl, h⟩
      refine ⟨_, rfl, ?_⟩
      refine reg_run [] 28 [(0, [], Value.int .i64 x), (1, [], Value.int .u64 y), (58, [], Value.bool true), (60, [], Value.int .u64 v60)] (by kernel_rfl) (by kernel_rfl) ?_
      refine reg_enter (op := (Go.Op.call (Go.Call.mk (Go.Callee.value (Go.Operand.func 44)) #[(Go.Operand.tmp 60)] #[42]))) (ty := 2) (dst := some 61) 44 #[Value.int .u64 v60] (by kernel_rfl) (fun ww => by kernel_rfl) (Calls.mono h ?_)
      rintro _ w7 ⟨v61, rfl, h⟩
      refine ⟨_, rfl, ?_⟩
      refine reg_run [.sure, .sure, .plain, .plain, .plain] 34 [(1, [], Value.int .u64 y), (65, [], Value.bool (v61 == x)), (66, [(65, true)], Value.int .u64 y)] (by kernel_rfl) (by kernel_rfl) ?_
      refine reg_split 65 (v61 == x) (by kernel_rfl) (fun hb => ?_) (fun hb => ?_)
      · replace h := h.1 hb
        refine reg_run [] 34 [(1, [], Value.int .u64 y), (65, [], Value.bool true), (66, [], Value.int .u64 y)] (by kernel_rfl) (by kernel_rfl) ?_
        refine reg_run [] 34 [(1, [], Value.int .u64 y), (65, [], Value.bool true), (66, [], Value.int .u64 y)] (by kernel_rfl) (by kernel_rfl) ?_
        refine reg_enter (op := (Go.Op.call (Go.Call.mk (Go.Callee.value (Go.Operand.func 44)) #[(Go.Operand.tmp 66)] #[42]))) (ty := 2) (dst := some 67) 44 #[Value.int .u64 y] (by kernel_rfl) (fun ww => by kernel_rfl) (Calls.mono h ?_)
        rintro _ w8 ⟨v67, rfl, h⟩
        refine ⟨_, rfl, ?_⟩
        refine reg_run [] 35 [(1, [], Value.int .u64 y), (65, [], Value.bool true), (67, [], Value.int .i64 v67)] (by kernel_rfl) (by kernel_rfl) ?_
        refine reg_enter (op := (Go.Op.call (Go.Call.mk (Go.Callee.value (Go.Operand.func 42)) #[(Go.Operand.tmp 67)] #[2]))) (ty := 42) (dst := some 68) 42 #[Value.int .i64 v67] (by kernel_rfl) (fun ww => by kernel_rfl) (Calls.mono h ?_)
        rintro _ w9 ⟨v68, rfl, h⟩
        refine ⟨_, rfl, ?_⟩
        refine reg_run [.sure, .sure, .plain, .plain] 40 [(4, [], Value.bool (v68 == y))] (by kernel_rfl) (by kernel_rfl) ?_
        refine reg_end [(4, Value.bool (v68 == y))] (by kernel_rfl) (by kernel_rfl) ?_
        change WpE _ _ c_towpathlaw01_NumBack_18 _ _ _
        refine wpE_ret (by kernel_rfl) ?_
        repeat (first | refine seqQ_ret ?_ | refine blockQ_ret ?_ | refine loopQ_ret ?_ | refine cutQ_ret ?_)
        exact retS (rs := [(Go.ResultVar.tmp 4)]) (v := Value.bool (v68 == y)) (by kernel_rfl) (⟨by kernel_rfl, trivial⟩) ⟨(v68 == y), rfl, h⟩
      · replace h := h.2 hb
        refine reg_run [] 34 [(1, [], Value.int .u64 y), (65, [], Value.bool false), (66, [], undef)] (by kernel_rfl) (by kernel_rfl) ?_
        refine reg_run [.skip, .skip, .skip, .skip, .plain, .plain] 40 [(4, [], Value.bool false)] (by kernel_rfl) (by kernel_rfl) ?_
        refine reg_end [(4, Value.bool false)] (by kernel_rfl) (by kernel_rfl) ?_
        change WpE _ _ c_towpathlaw01_NumBack_18 _ _ _
        refine wpE_ret (by kernel_rfl) ?_
        repeat (first | refine seqQ_ret ?_ | refine blockQ_ret ?_ | refine loopQ_ret ?_ | refine cutQ_ret ?_)
        exact retS (rs := [(Go.ResultVar.tmp 4)]) (v := Value.bool false) (by kernel_rfl) (⟨by kernel_rfl, trivial⟩) ⟨false, rfl, h⟩
    · replace h := h.2 hb
      refine reg_run [] 27 [(0, [], Value.int .i64 x), (1, [], Value.int .u64 y), (58, [], Value.bool false), (59, [], undef)] (by kernel_rfl) (by kernel_rfl) ?_
      refine reg_run [.skip, .skip, .skip, .skip, .plain, .plain, .skip, .skip, .skip, .skip, .skip, .plain, .plain] 40 [(4, [], Value.bool false)] (by kernel_rfl) (by kernel_rfl) ?_
      refine reg_end [(4, Value.bool false)] (by kernel_rfl) (by kernel_rfl) ?_
      change WpE _ _ c_towpathlaw01_NumBack_18 _ _ _
      refine wpE_ret (by kernel_rfl) ?_
      repeat (first | refine seqQ_ret ?_ | refine blockQ_ret ?_ | refine loopQ_ret ?_ | refine cutQ_ret ?_)
      exact retS (rs := [(Go.ResultVar.tmp 4)]) (v := Value.bool false) (by kernel_rfl) (⟨by kernel_rfl, trivial⟩) ⟨false, rfl, h⟩
  · rintro e w' ⟨v, rfl, r0, rfl, h⟩; exact ⟨r0, rfl, h⟩

/-! ### towpath/towpathlaw01.NumSets (function 12) -/
noncomputable def c_towpathlaw01_NumSets_0 : Code := (Try.f12.body).getD Code.skip
noncomputable def c_towpathlaw01_NumSets_1 : Code := Code.l c_towpathlaw01_NumSets_0
noncomputable def r_towpathlaw01_NumSets_1 : Array Oper := Code.ops c_towpathlaw01_NumSets_1
noncomputable def c_towpathlaw01_NumSets_3 : Code := Code.r c_towpathlaw01_NumSets_0
noncomputable def c_towpathlaw01_NumSets_4 : Code := Code.l c_towpathlaw01_NumSets_3
noncomputable def r_towpathlaw01_NumSets_4 : Array Oper := Code.ops c_towpathlaw01_NumSets_4
noncomputable def c_towpathlaw01_NumSets_6 : Code := Code.r c_towpathlaw01_NumSets_3
noncomputable def c_towpathlaw01_NumSets_7 : Code := Code.l c_towpathlaw01_NumSets_6
noncomputable def c_towpathlaw01_NumSets_8 : Code := Code.l c_towpathlaw01_NumSets_7
noncomputable def r_towpathlaw01_NumSets_8 : Array Oper := Code.ops c_towpathlaw01_NumSets_8
noncomputable def c_towpathlaw01_NumSets_10 : Code := Code.r c_towpathlaw01_NumSets_7
noncomputable def c_towpathlaw01_NumSets_11 : Code := Code.l c_towpathlaw01_NumSets_10
noncomputable def c_towpathlaw01_NumSets_12 : Code := Code.l c_towpathlaw01_NumSets_11
noncomputable def r_towpathlaw01_NumSets_12 : Array Oper := Code.ops c_towpathlaw01_NumSets_12
noncomputable def c_towpathlaw01_NumSets_14 : Code := Code.r c_towpathlaw01_NumSets_11
noncomputable def c_towpathlaw01_NumSets_15 : Code := Code.r c_towpathlaw01_NumSets_10
noncomputable def c_towpathlaw01_NumSets_16 : Code := Code.r c_towpathlaw01_NumSets_6
noncomputable def c_towpathlaw01_NumSets_17 : Code := Code.l c_towpathlaw01_NumSets_16
noncomputable def r_towpathlaw01_NumSets_17 : Array Oper := Code.ops c_towpathlaw01_NumSets_17
noncomputable def c_towpathlaw01_NumSets_19 : Code := Code.r c_towpathlaw01_NumSets_16
noncomputable def c_towpathlaw01_NumSets_20 : Code := Code.l c_towpathlaw01_NumSets_19
noncomputable def r_towpathlaw01_NumSets_20 : Array Oper := Code.ops c_towpathlaw01_NumSets_20
noncomputable def c_towpathlaw01_NumSets_22 : Code := Code.r c_towpathlaw01_NumSets_19
noncomputable def c_towpathlaw01_NumSets_23 : Code := Code.l c_towpathlaw01_NumSets_22
noncomputable def r_towpathlaw01_NumSets_23 : Array Oper := Code.ops c_towpathlaw01_NumSets_23
noncomputable def c_towpathlaw01_NumSets_25 : Code := Code.r c_towpathlaw01_NumSets_22
noncomputable def c_towpathlaw01_NumSets_26 : Code := Code.l c_towpathlaw01_NumSets_25
noncomputable def r_towpathlaw01_NumSets_26 : Array Oper := Code.ops c_towpathlaw01_NumSets_26
noncomputable def c_towpathlaw01_NumSets_28 : Code := Code.r c_towpathlaw01_NumSets_25
noncomputable def c_towpathlaw01_NumSets_29 : Code := Code.l c_towpathlaw01_NumSets_28
noncomputable def r_towpathlaw01_NumSets_29 : Array Oper := Code.ops c_towpathlaw01_NumSets_29
noncomputable def c_towpathlaw01_NumSets_31 : Code := Code.r c_towpathlaw01_NumSets_28
noncomputable def c_towpathlaw01_NumSets_32 : Code := Code.l c_towpathlaw01_NumSets_31
noncomputable def r_towpathlaw01_NumSets_32 : Array Oper := Code.ops c_towpathlaw01_NumSets_32
noncomputable def c_towpathlaw01_NumSets_34 : Code := Code.r c_towpathlaw01_NumSets_31
noncomputable def c_towpathlaw01_NumSets_35 : Code := Code.l c_towpathlaw01_NumSets_34
noncomputable def r_towpathlaw01_NumSets_35 : Array Oper := Code.ops c_towpathlaw01_NumSets_35
noncomputable def c_towpathlaw01_NumSets_37 : Code := Code.r c_towpathlaw01_NumSets_34

set_option maxRecDepth 100000 in
theorem S_towpathlaw01_NumSets {x : Int} {v : Int} {p : T_towpathlaw01_Place} {w : World} {R : Bool → World → Prop} (h : F_towpathlaw01_NumSets x v p R w) : C_towpathlaw01_NumSets x v p w R := by
  unfold F_towpathlaw01_NumSets at h
  unfold C_towpathlaw01_NumSets
  refine Calls.mono (calls_of_wpE (args := [Value.int .u64 x, Value.int .u64 v, Value.agg #[Value.int .i64 p.From, Value.int .i64 p.N]]) (R := fun v w' => ∃ (r0 : Bool), v = Value.bool r0 ∧ R r0 w') Try.func12 (c := c_towpathlaw01_NumSets_0) (by kernel_rfl) 112 (by kernel_rfl) (by kernel_rfl) [(0, Value.int .u64 x), (1, Value.int .u64 v), (2, Value.agg #[Value.int .i64 p.From, Value.int .i64 p.N])] (by kernel_rfl) ?_) ?_
  · refine wpE_seq (x := c_towpathlaw01_NumSets_1) (y := c_towpathlaw01_NumSets_3) (by kernel_rfl) ?_
    refine wpE_region (id := 0) (ops := r_towpathlaw01_NumSets_1) (by kernel_rfl) ?_
    refine reg_run [] 0 [(0, [], Value.int .u64 x), (1, [], Value.int .u64 v), (2, [], Value.agg #[Value.int .i64 p.From, Value.int .i64 p.N])] (by kernel_rfl) (by kernel_rfl) ?_
    refine reg_new (op := (Go.Op.box 70 (Go.Operand.tmp 2))) (ty := 0) (dst := some 5) (fun bb => Value.pointer (some ⟨bb, 0, none⟩)) (Obj.cells ([Value.int .i64 p.From, Value.int .i64 p.N]).toArray ty_towpathlaw01_Place (0, 0)) (by kernel_rfl) (by kernel_rfl) (fun b_ w1 hb hw => ?_)
    replace h := h b_ w1 hb hw
    clear hb hw
    refine reg_run [.plain] 2 [(0, [], Value.int .u64 x), (1, [], Value.int .u64 v), (5, [], Value.pointer (some ⟨b_, 0, none⟩))] (by kernel_rfl) (by kernel_rfl) ?_
    refine reg_end [(0, Value.int .u64 x), (1, Value.int .u64 v), (5, Value.pointer (some ⟨b_, 0, none⟩))] (by kernel_rfl) (by kernel_rfl) ?_
    change WpE _ _ c_towpathlaw01_NumSets_3 _ _ _
    refine wpE_seq (x := c_towpathlaw01_NumSets_4) (y := c_towpathlaw01_NumSets_6) (by kernel_rfl) ?_
    refine wpE_region (id := 1) (ops := r_towpathlaw01_NumSets_4) (by kernel_rfl) ?_
    refine reg_run [.plain, .plain] 2 [(0, [], Value.int .u64 x), (1, [], Value.int .u64 v), (5, [], Value.pointer (some ⟨b_, 0, none⟩)), (21, [], Value.int .u64 x), (22, [], Value.pointer (some ⟨b_, 0, none⟩))] (by kernel_rfl) (by kernel_rfl) ?_
    obtain ⟨v23, hc, h⟩ := h
    refine reg_load1 (t := 3) (a := (Go.Operand.tmp 22)) (b := b_) (o := 0) (ty := 3) (dst := some 23) (by kernel_rfl) (by kernel_rfl) (by kernel_rfl) hc ?_
    refine reg_run [.plain] 4 [(0, [], Value.int .u64 x), (1, [], Value.int .u64 v), (5, [], Value.pointer (some ⟨b_, 0, none⟩)), (21, [], Value.int .u64 x), (23, [], Value.int .i64 v23), (24, [], Value.pointer (some ⟨b_, 1, none⟩))] (by kernel_rfl) (by kernel_rfl) ?_
    obtain ⟨v25, hc, h⟩ := h
    refine reg_load1 (t := 3) (a := (Go.Operand.tmp 24)) (b := b_) (o := 1) (ty := 3) (dst := some 25) (by kernel_rfl) (by kernel_rfl) (by kernel_rfl) hc ?_
    refine reg_run [.plain] 6 [(0, [], Value.int .u64 x), (1, [], Value.int .u64 v), (5, [], Value.pointer (some ⟨b_, 0, none⟩)), (21, [], Value.int .u64 x), (23, [], Value.int .i64 v23), (25, [], Value.int .i64 v25), (26, [], Value.int .u64 v)] (by kernel_rfl) (by kernel_rfl) ?_
    refine reg_enter (op := (Go.Op.call (Go.Call.mk (Go.Callee.value (Go.Operand.func 47)) #[(Go.Operand.tmp 21), (Go.Operand.tmp 23), (Go.Operand.tmp 25), (Go.Operand.tmp 26)] #[42, 3, 3, 42]))) (ty := 43) (dst := some 27) 47 #[Value.int .u64 x, Value.int .i64 v23, Value.int .i64 v25, Value.int .u64 v] (by kernel_rfl) (fun ww => by kernel_rfl) (Calls.mono h ?_)
    rintro _ w2 ⟨y, ok, rfl, h⟩
    refine ⟨_, rfl, ?_⟩
    refine reg_run [.plain, .plain, .plain, .plain, .plain] 12 [(0, [], Value.int .u64 x), (1, [], Value.int .u64 v), (5, [], Value.pointer (some ⟨b_, 0, none⟩)), (7, [], Value.int .u64 y), (8, [], Value.bool ok)] (by kernel_rfl) (by kernel_rfl) ?_
    refine reg_end [(0, Value.int .u64 x), (1, Value.int .u64 v), (5, Value.pointer (some ⟨b_, 0, none⟩)), (7, Value.int .u64 y), (8, Value.bool ok)] (by kernel_rfl) (by kernel_rfl) ?_
    change WpE _ _ c_towpathlaw01_NumSets_6 _ _ _
    refine wpE_seq (x := c_towpathlaw01_NumSets_7) (y := c_towpathlaw01_NumSets_16) (by kernel_rfl) ?_
    refine wpE_seq (x := c_towpathlaw01_NumSets_8) (y := c_towpathlaw01_NumSets_10) (by kernel_rfl) ?_
    refine wpE_region (id := 2) (ops := r_towpathlaw01_NumSets_8) (by kernel_rfl) ?_
    refine reg_run [.plain, .plain] 2 [(0, [], Value.int .u64 x), (1, [], Value.int .u64 v), (5, [], Value.pointer (some ⟨b_, 0, none⟩)), (7, [], Value.int .u64 y), (31, [], Value.bool (!ok))] (by kernel_rfl) (by kernel_rfl) ?_
    refine reg_end [(0, Value.int .u64 x), (1, Value.int .u64 v), (5, Value.pointer (some ⟨b_, 0, none⟩)), (7, Value.int .u64 y), (31, Value.bool (!ok))] (by kernel_rfl) (by kernel_rfl) ?_
    change WpE _ _ c_towpathlaw01_NumSets_10 _ _ _
    refine wpE_cond (o := (Operand.tmp 31)) (b := (!ok)) (x := c_towpathlaw01_NumSets_11) (y := c_towpathlaw01_NumSets_15) (by kernel_rfl) (by kernel_rfl) (fun hb => ?_) (fun hb => ?_)
    · replace h := h.1 hb
      refine wpE_seq (x := c_towpathlaw01_NumSets_12) (y := c_towpathlaw01_NumSets_14) (by kernel_rfl) ?_
      refine wpE_region (id := 3) (ops := r_towpathlaw01_NumSets_12) (by kernel_rfl) ?_
      refine reg_run [] 0 [(7, [], Value.int .u64 y)] (by kernel_rfl) (by kernel_rfl) ?_
      refine reg_enter (op := (Go.Op.call (Go.Call.mk (Go.Callee.value (Go.Operand.func 59)) #[] #[]))) (ty := 4) (dst := some 32) 59 #[] (by kernel_rfl) (fun ww => by kernel_rfl) (Calls.mono h ?_)
      rintro _ w3 ⟨v32, rfl, h⟩
      refine ⟨_, rfl, ?_⟩
      refine reg_run [.plain, .plain, .plain, .pick, .plain] 6 [(6, [], Value.bool (v32 && (y == 0)))] (by kernel_rfl) (by kernel_rfl) ?_
      refine reg_end [(6, Value.bool (v32 && (y == 0)))] (by kernel_rfl) (by kernel_rfl) ?_
      change WpE _ _ c_towpathlaw01_NumSets_14 _ _ _
      refine wpE_ret (by kernel_rfl) ?_
      repeat (first | refine seqQ_ret ?_ | refine blockQ_ret ?_ | refine loopQ_ret ?_ | refine cutQ_ret ?_)
      exact retS (rs := [(Go.ResultVar.tmp 6)]) (v := Value.bool (v32 && (y == 0))) (by kernel_rfl) (⟨by kernel_rfl, trivial⟩) ⟨(v32 && (y == 0)), rfl, h⟩
    · replace h := h.2 hb
      refine wpE_skip (by kernel_rfl) ?_
      change WpE _ _ c_towpathlaw01_NumSets_16 _ _ _
      refine wpE_seq (x := c_towpathlaw01_NumSets_17) (y := c_towpathlaw01_NumSets_19) (by kernel_rfl) ?_
      refine wpE_region (id := 4) (ops := r_towpathlaw01_NumSets_17) (by kernel_rfl) ?_
      refine reg_run [.plain, .plain] 2 [(0, [], Value.int .u64 x), (1, [], Value.int .u64 v), (5, [], Value.pointer (some ⟨b_, 0, none⟩)), (7, [], Value.int .u64 y), (38, [], Value.int .u64 y), (39, [], Value.pointer (some ⟨b_, 0, none⟩))] (by kernel_rfl) (by kernel_rfl) ?_
      obtain ⟨v40, hc, h⟩ := h
      refine reg_load1 (t := 3) (a := (Go.Operand.tmp 39)) (b := b_) (o := 0) (ty := 3) (dst := some 40) (by kernel_rfl) (by kernel_rfl) (by kernel_rfl) hc ?_
      refine reg_run [.plain] 4 [(0, [], Value.int .u64 x), (1, [], Value.int .u64 v), (5, [], Value.pointer (some ⟨b_, 0, none⟩)), (7, [], Value.int .u64 y), (38, [], Value.int .u64 y), (40, [], Value.int .i64 v40), (41, [], Value.pointer (some ⟨b_, 1, none⟩))] (by kernel_rfl) (by kernel_rfl) ?_
      obtain ⟨v42, hc, h⟩ := h
      refine reg_load1 (t := 3) (a := (Go.Operand.tmp 41)) (b := b_) (o := 1) (ty := 3) (dst := some 42) (by kernel_rfl) (by kernel_rfl) (by kernel_rfl) hc ?_
      refine reg_run [] 5 [(0, [], Value.int .u64 x), (1, [], Value.int .u64 v), (5, [], Value.pointer (some ⟨b_, 0, none⟩)), (7, [], Value.int .u64 y), (38, [], Value.int .u64 y), (40, [], Value.int .i64 v40), (42, [], Value.int .i64 v42)] (by kernel_rfl) (by kernel_rfl) ?_
      refine reg_enter (op := (Go.Op.call (Go.Call.mk (Go.Callee.value (Go.Operand.func 46)) #[(Go.Operand.tmp 38), (Go.Operand.tmp 40), (Go.Operand.tmp 42)] #[42, 3, 3]))) (ty := 43) (dst := some 43) 46 #[Value.int .u64 y, Value.int .i64 v40, Value.int .i64 v42] (by kernel_rfl) (fun ww => by kernel_rfl) (Calls.mono h ?_)
      rintro _ w4 ⟨got, is, rfl, h⟩
      refine ⟨_, rfl, ?_⟩
      refine reg_run [.plain, .plain, .plain, .plain, .plain] 11 [(0, [], Value.int .u64 x), (1, [], Value.int .u64 v), (5, [], Value.pointer (some ⟨b_, 0, none⟩)), (7, [], Value.int .u64 y), (9, [], Value.int .u64 got), (10, [], Value.bool is)] (by kernel_rfl) (by kernel_rfl) ?_
      refine reg_end [(0, Value.int .u64 x), (1, Value.int .u64 v), (5, Value.pointer (some ⟨b_, 0, none⟩)), (7, Value.int .u64 y), (9, Value.int .u64 got), (10, Value.bool is)] (by kernel_rfl) (by kernel_rfl) ?_
      change WpE _ _ c_towpathlaw01_NumSets_19 _ _ _
      refine wpE_seq (x := c_towpathlaw01_NumSets_20) (y := c_towpathlaw01_NumSets_22) (by kernel_rfl) ?_
      refine wpE_region (id := 5) (ops := r_towpathlaw01_NumSets_20) (by kernel_rfl) ?_
      refine reg_run [.plain, .plain] 2 [(0, [], Value.int .u64 x), (1, [], Value.int .u64 v), (5, [], Value.pointer (some ⟨b_, 0, none⟩)), (7, [], Value.int .u64 y), (9, [], Value.int .u64 got), (10, [], Value.bool is), (47, [], Value.int .u64 y), (48, [], Value.pointer (some ⟨b_, 0, none⟩))] (by kernel_rfl) (by kernel_rfl) ?_
      obtain ⟨v49, hc, h⟩ := h
      refine reg_load1 (t := 3) (a := (Go.Operand.tmp 48)) (b := b_) (o := 0) (ty := 3) (dst := some 49) (by kernel_rfl) (by kernel_rfl) (by kernel_rfl) hc ?_
      refine reg_run [] 3 [(0, [], Value.int .u64 x), (1, [], Value.int .u64 v), (5, [], Value.pointer (some ⟨b_, 0, none⟩)), (7, [], Value.int .u64 y), (9, [], Value.int .u64 got), (10, [], Value.bool is), (47, [], Value.int .u64 y), (49, [], Value.int .i64 v49)] (by kernel_rfl) (by kernel_rfl) ?_
      refine reg_enter (op := (Go.Op.call (Go.Call.mk (Go.Callee.value (Go.Operand.func 46)) #[(Go.Operand.tmp 47), (Go.Operand.const (Go.Value.int Go.IntKind.i64 0)), (Go.Operand.tmp 49)] #[42, 3, 3]))) (ty := 43) (dst := some 50) 46 #[Value.int .u64 y, Value.int .i64 0, Value.int .i64 v49] (by kernel_rfl) (fun ww => by kernel_rfl) (Calls.mono h ?_)
      rintro _ w5 ⟨low, one, rfl, h⟩
      refine ⟨_, rfl, ?_⟩
      refine reg_run [.plain, .plain, .plain, .plain, .plain] 9 [(0, [], Value.int .u64 x), (1, [], Value.int .u64 v), (5, [], Value.pointer (some ⟨b_, 0, none⟩)), (7, [], Value.int .u64 y), (9, [], Value.int .u64 got), (10, [], Value.bool is), (11, [], Value.int .u64 low), (12, [], Value.bool one)] (by kernel_rfl) (by kernel_rfl) ?_
      refine reg_end [(0, Value.int .u64 x), (1, Value.int .u64 v), (5, Value.pointer (some ⟨b_, 0, none⟩)), (7, Value.int .u64 y), (9, Value.int .u64 got), (10, Value.bool is), (11, Value.int .u64 low), (12, Value.bool one)] (by kernel_rfl) (by kernel_rfl) ?_
      change WpE _ _ c_towpathlaw01_NumSets_22 _ _ _
      refine wpE_seq (x := c_towpathlaw01_NumSets_23) (y := c_towpathlaw01_NumSets_25) (by kernel_rfl) ?_
      refine wpE_region (id := 6) (ops := r_towpathlaw01_NumSets_23) (by kernel_rfl) ?_
      refine reg_run [.plain, .plain] 2 [(0, [], Value.int .u64 x), (1, [], Value.int .u64 v), (5, [], Value.pointer (some ⟨b_, 0, none⟩)), (7, [], Value.int .u64 y), (9, [], Value.int .u64 got), (10, [], Value.bool is), (11, [], Value.int .u64 low), (12, [], Value.bool one), (54, [], Value.int .u64 x), (55, [], Value.pointer (some ⟨b_, 0, none⟩))] (by kernel_rfl) (by kernel_rfl) ?_
      obtain ⟨v56, hc, h⟩ := h
      refine reg_load1 (t := 3) (a := (Go.Operand.tmp 55)) (b := b_) (o := 0) (ty := 3) (dst := some 56) (by kernel_rfl) (by kernel_rfl) (by kernel_rfl) hc ?_
      refine reg_run [] 3 [(0, [], Value.int .u64 x), (1, [], Value.int .u64 v), (5, [], Value.pointer (some ⟨b_, 0, none⟩)), (7, [], Value.int .u64 y), (9, [], Value.int .u64 got), (10, [], Value.bool is), (11, [], Value.int .u64 low), (12, [], Value.bool one), (54, [], Value.int .u64 x), (56, [], Value.int .i64 v56)] (by kernel_rfl) (by kernel_rfl) ?_
      refine reg_enter (op := (Go.Op.call (Go.Call.mk (Go.Callee.value (Go.Operand.func 46)) #[(Go.Operand.tmp 54), (Go.Operand.const (Go.Value.int Go.IntKind.i64 0)), (Go.Operand.tmp 56)] #[42, 3, 3]))) (ty := 43) (dst := some 57) 46 #[Value.int .u64 x, Value.int .i64 0, Value.int .i64 v56] (by kernel_rfl) (fun ww => by kernel_rfl) (Calls.mono h ?_)
      rintro _ w6 ⟨was, two, rfl, h⟩
      refine ⟨_, rfl, ?_⟩
      refine reg_run [.plain, .plain, .plain, .plain, .plain] 9 [(0, [], Value.int .u64 x), (1, [], Value.int .u64 v), (5, [], Value.pointer (some ⟨b_, 0, none⟩)), (7, [], Value.int .u64 y), (9, [], Value.int .u64 got), (10, [], Value.bool is), (11, [], Value.int .u64 low), (12, [], Value.bool one), (13, [], Value.int .u64 was), (14, [], Value.bool two)] (by kernel_rfl) (by kernel_rfl) ?_
      refine reg_end [(0, Value.int .u64 x), (1, Value.int .u64 v), (5, Value.pointer (some ⟨b_, 0, none⟩)), (7, Value.int .u64 y), (9, Value.int .u64 got), (10, Value.bool is), (11, Value.int .u64 low), (12, Value.bool one), (13, Value.int .u64 was), (14, Value.bool two)] (by kernel_rfl) (by kernel_rfl) ?_
      change WpE _ _ c_towpathlaw01_NumSets_25 _ _ _
      refine wpE_seq (x := c_towpathlaw01_NumSets_26) (y := c_towpathlaw01_NumSets_28) (by kernel_rfl) ?_
      refine wpE_region (id := 7) (ops := r_towpathlaw01_NumSets_26) (by kernel_rfl) ?_
      refine reg_run [.plain] 1 [(0, [], Value.int .u64 x), (1, [], Value.int .u64 v), (5, [], Value.pointer (some ⟨b_, 0, none⟩)), (7, [], Value.int .u64 y), (9, [], Value.int .u64 got), (10, [], Value.bool is), (11, [], Value.int .u64 low), (12, [], Value.bool one), (13, [], Value.int .u64 was), (14, [], Value.bool two), (60, [], Value.pointer (some ⟨b_, 0, none⟩))] (by kernel_rfl) (by kernel_rfl) ?_
      obtain ⟨v61, hc, h⟩ := h
      refine reg_load1 (t := 3) (a := (Go.Operand.tmp 60)) (b := b_) (o := 0) (ty := 3) (dst := some 61) (by kernel_rfl) (by kernel_rfl) (by kernel_rfl) hc ?_
      refine reg_run [.plain] 3 [(0, [], Value.int .u64 x), (1, [], Value.int .u64 v), (7, [], Value.int .u64 y), (9, [], Value.int .u64 got), (10, [], Value.bool is), (11, [], Value.int .u64 low), (12, [], Value.bool one), (13, [], Value.int .u64 was), (14, [], Value.bool two), (61, [], Value.int .i64 v61), (62, [], Value.pointer (some ⟨b_, 1, none⟩))] (by kernel_rfl) (by kernel_rfl) ?_
      obtain ⟨v63, hc, h⟩ := h
      refine reg_load1 (t := 3) (a := (Go.Operand.tmp 62)) (b := b_) (o := 1) (ty := 3) (dst := some 63) (by kernel_rfl) (by kernel_rfl) (by kernel_rfl) hc ?_
      refine reg_run [.plain, .plain] 6 [(0, [], Value.int .u64 x), (1, [], Value.int .u64 v), (7, [], Value.int .u64 y), (9, [], Value.int .u64 got), (10, [], Value.bool is), (11, [], Value.int .u64 low), (12, [], Value.bool one), (13, [], Value.int .u64 was), (14, [], Value.bool two), (15, [], Value.int .i64 (IntKind.i64.wrap (v61 + v63)))] (by kernel_rfl) (by kernel_rfl) ?_
      refine reg_end [(0, Value.int .u64 x), (1, Value.int .u64 v), (7, Value.int .u64 y), (9, Value.int .u64 got), (10, Value.bool is), (11, Value.int .u64 low), (12, Value.bool one), (13, Value.int .u64 was), (14, Value.bool two), (15, Value.int .i64 (IntKind.i64.wrap (v61 + v63)))] (by kernel_rfl) (by kernel_rfl) ?_
      change WpE _ _ c_towpathlaw01_NumSets_28 _ _ _
      refine wpE_seq (x := c_towpathlaw01_NumSets_29) (y := c_towpathlaw01_NumSets_31) (by kernel_rfl) ?_
      refine wpE_region (id := 8) (ops := r_towpathlaw01_NumSets_29) (by kernel_rfl) ?_
      refine reg_run [.plain, .plain, .plain, .plain] 4 [(0, [], Value.int .u64 x), (1, [], Value.int .u64 v), (9, [], Value.int .u64 got), (10, [], Value.bool is), (11, [], Value.int .u64 low), (12, [], Value.bool one), (13, [], Value.int .u64 was), (14, [], Value.bool two), (15, [], Value.int .i64 (IntKind.i64.wrap (v61 + v63))), (66, [], Value.int .u64 y), (67, [], Value.int .i64 (IntKind.i64.wrap (v61 + v63))), (69, [], Value.int .i64 (IntKind.i64.wrap (64 - (IntKind.i64.wrap (v61 + v63)))))] (by kernel_rfl) (by kernel_rfl) ?_
      refine reg_enter (op := (Go.Op.call (Go.Call.mk (Go.Callee.value (Go.Operand.func 46)) #[(Go.Operand.tmp 66), (Go.Operand.tmp 67), (Go.Operand.tmp 69)] #[42, 3, 3]))) (ty := 43) (dst := some 70) 46 #[Value.int .u64 y, Value.int .i64 (IntKind.i64.wrap (v61 + v63)), Value.int .i64 (IntKind.i64.wrap (64 - (IntKind.i64.wrap (v61 + v63))))] (by kernel_rfl) (fun ww => by kernel_rfl) (Calls.mono h ?_)
      rintro _ w7 ⟨high, three, rfl, h⟩
      refine ⟨_, rfl, ?_⟩
      refine reg_run [.plain, .plain, .plain, .plain, .plain] 10 [(0, [], Value.int .u64 x), (1, [], Value.int .u64 v), (9, [], Value.int .u64 got), (10, [], Value.bool is), (11, [], Value.int .u64 low), (12, [], Value.bool one), (13, [], Value.int .u64 was), (14, [], Value.bool two), (15, [], Value.int .i64 (IntKind.i64.wrap (v61 + v63))), (16, [], Value.int .u64 high), (17, [], Value.bool three)] (by kernel_rfl) (by kernel_rfl) ?_
      refine reg_end [(0, Value.int .u64 x), (1, Value.int .u64 v), (9, Value.int .u64 got), (10, Value.bool is), (11, Value.int .u64 low), (12, Value.bool one), (13, Value.int .u64 was), (14, Value.bool two), (15, Value.int .i64 (IntKind.i64.wrap (v61 + v63))), (16, Value.int .u64 high), (17, Value.bool three)] (by kernel_rfl) (by kernel_rfl) ?_
      change WpE _ _ c_towpathlaw01_NumSets_31 _ _ _
      refine wpE_seq (x := c_towpathlaw01_NumSets_32) (y := c_towpathlaw01_NumSets_34) (by kernel_rfl) ?_
      refine wpE_region (id := 9) (ops := r_towpathlaw01_NumSets_32) (by kernel_rfl) ?_
      refine reg_run [.plain, .plain, .plain, .plain] 4 [(1, [], Value.int .u64 v), (9, [], Value.int .u64 got), (10, [], Value.bool is), (11, [], Value.int .u64 low), (12, [], Value.bool one), (13, [], Value.int .u64 was), (14, [], Value.bool two), (16, [], Value.int .u64 high), (17, [], Value.bool three), (74, [], Value.int .u64 x), (75, [], Value.int .i64 (IntKind.i64.wrap (v61 + v63))), (77, [], Value.int .i64 (IntKind.i64.wrap (64 - (IntKind.i64.wrap (v61 + v63)))))] (by kernel_rfl) (by kernel_rfl) ?_
      refine reg_enter (op := (Go.Op.call (Go.Call.mk (Go.Callee.value (Go.Operand.func 46)) #[(Go.Operand.tmp 74), (Go.Operand.tmp 75), (Go.Operand.tmp 77)] #[42, 3, 3]))) (ty := 43) (dst := some 78) 46 #[Value.int .u64 x, Value.int .i64 (IntKind.i64.wrap (v61 + v63)), Value.int .i64 (IntKind.i64.wrap (64 - (IntKind.i64.wrap (v61 + v63))))] (by kernel_rfl) (fun ww => by kernel_rfl) (Calls.mono h ?_)
      rintro _ w8 ⟨old, four, rfl, h⟩
      refine ⟨_, rfl, ?_⟩
      refine reg_run [.plain, .plain, .plain, .plain, .plain] 10 [(1, [], Value.int .u64 v), (9, [], Value.int .u64 got), (10, [], Value.bool is), (11, [], Value.int .u64 low), (12, [], Value.bool one), (13, [], Value.int .u64 was), (14, [], Value.bool two), (16, [], Value.int .u64 high), (17, [], Value.bool three), (18, [], Value.int .u64 old), (19, [], Value.bool four)] (by kernel_rfl) (by kernel_rfl) ?_
      refine reg_end [(1, Value.int .u64 v), (9, Value.int .u64 got), (10, Value.bool is), (11, Value.int .u64 low), (12, Value.bool one), (13, Value.int .u64 was), (14, Value.bool two), (16, Value.int .u64 high), (17, Value.bool three), (18, Value.int .u64 old), (19, Value.bool four)] (by kernel_rfl) (by kernel_rfl) ?_
      change WpE _ _ c_towpathlaw01_NumSets_34 _ _ _
      refine wpE_seq (x := c_towpathlaw01_NumSets_35) (y := c_towpathlaw01_NumSets_37) (by kernel_rfl) ?_
      refine wpE_region (id := 10) (ops := r_towpathlaw01_NumSets_35) (by kernel_rfl) ?_
      refine reg_run [] 0 [(1, [], Value.int .u64 v), (9, [], Value.int .u64 got), (10, [], Value.bool is), (11, [], Value.int .u64 low), (12, [], Value.bool one), (13, [], Value.int .u64 was), (14, [], Value.bool two), (16, [], Value.int .u64 high), (17, [], Value.bool three), (18, [], Value.int .u64 old), (19, [], Value.bool four)] (by kernel_rfl) (by kernel_rfl) ?_
      refine reg_enter (op := (Go.Op.call (Go.Call.mk (Go.Callee.value (Go.Operand.func 59)) #[] #[]))) (ty := 4) (dst := some 81) 59 #[] (by kernel_rfl) (fun ww => by kernel_rfl) (Calls.mono h ?_)
      rintro _ w9 ⟨v81, rfl, h⟩
      refine ⟨_, rfl, ?_⟩
      refine reg_run [.plain, .plain, .pick, .plain, .plain, .pick, .plain, .plain, .pick, .plain, .plain, .pick, .plain, .plain, .pick, .plain, .plain, .plain, .plain, .pick, .plain, .plain, .plain, .plain, .pick, .plain, .plain, .plain, .plain, .pick, .plain] 32 [(6, [], Value.bool ((((((((v81 && is) && one) && two) && three) && four) && (got == v)) && (low == was)) && (high == old)))] (by kernel_rfl) (by kernel_rfl) ?_
      refine reg_end [(6, Value.bool ((((((((v81 && is) && one) && two) && three) && four) && (got == v)) && (low == was)) && (high == old)))] (by kernel_rfl) (by kernel_rfl) ?_
      change WpE _ _ c_towpathlaw01_NumSets_37 _ _ _
      refine wpE_ret (by kernel_rfl) ?_
      repeat (first | refine seqQ_ret ?_ | refine blockQ_ret ?_ | refine loopQ_ret ?_ | refine cutQ_ret ?_)
      exact retS (rs := [(Go.ResultVar.tmp 6)]) (v := Value.bool ((((((((v81 && is) && one) && two) && three) && four) && (got == v)) && (low == was)) && (high == old))) (by kernel_rfl) (⟨by kernel_rfl, trivial⟩) ⟨((((((((v81 && is) && one) && two) && three) && four) && (got == v)) && (low == was)) && (high == old)), rfl, h⟩
  · rintro e w' ⟨v, rfl, r0, rfl, h⟩; exact ⟨r0, rfl, h⟩

/-! ### towpath/towpathlaw01.NumRound (function 13) -/
noncomputable def c_towpathlaw01_NumRound_0 : Code := (Try.f13.body).getD Code.skip
noncomputable def c_towpathlaw01_NumRound_1 : Code := Code.l c_towpathlaw01_NumRound_0
noncomputable def r_towpathlaw01_NumRound_1 : Array Oper := Code.ops c_towpathlaw01_NumRound_1
noncomputable def c_towpathlaw01_NumRound_3 : Code := Code.r c_towpathlaw01_NumRound_0
noncomputable def c_towpathlaw01_NumRound_4 : Code := Code.l c_towpathlaw01_NumRound_3
noncomputable def r_towpathlaw01_NumRound_4 : Array Oper := Code.ops c_towpathlaw01_NumRound_4
noncomputable def c_towpathlaw01_NumRound_6 : Code := Code.r c_towpathlaw01_NumRound_3
noncomputable def c_towpathlaw01_NumRound_7 : Code := Code.l c_towpathlaw01_NumRound_6
noncomputable def r_towpathlaw01_NumRound_7 : Array Oper := Code.ops c_towpathlaw01_NumRound_7
noncomputable def c_towpathlaw01_NumRound_9 : Code := Code.r c_towpathlaw01_NumRound_6
noncomputable def c_towpathlaw01_NumRound_10 : Code := Code.l c_towpathlaw01_NumRound_9
noncomputable def r_towpathlaw01_NumRound_10 : Array Oper := Code.ops c_towpathlaw01_NumRound_10
noncomputable def c_towpathlaw01_NumRound_12 : Code := Code.r c_towpathlaw01_NumRound_9

set_option maxRecDepth 100000 in
theorem S_towpathlaw01_NumRound {x : Int} {a_ : Int} {b_ : Int} {w : World} {R : Bool → World → Prop} (h : F_towpathlaw01_NumRound x a_ b_ R w) : C_towpathlaw01_NumRound x a_ b_ w R := by
  unfold F_towpathlaw01_NumRound at h
  unfold C_towpathlaw01_NumRound
  refine Calls.mono (calls_of_wpE (args := [Value.int .u32 x, Value.int .i16 a_, Value.int .i16 b_]) (R := fun v w' => ∃ (r0 : Bool), v = Value.bool r0 ∧ R r0 w') Try.func13 (c := c_towpathlaw01_NumRound_0) (by kernel_rfl) 45 (by kernel_rfl) (by kernel_rfl) [(0, Value.int .u32 x), (1, Value.int .i16 a_), (2, Value.int .i16 b_)] (by kernel_rfl) ?_) ?_
  · refine wpE_seq (x := c_towpathlaw01_NumRound_1) (y := c_towpathlaw01_NumRound_3) (by kernel_rfl) ?_
    refine wpE_region (id := 0) (ops := r_towpathlaw01_NumRound_1) (by kernel_rfl) ?_
    refine reg_run [.plain] 1 [(0, [], Value.int .u32 x), (1, [], Value.int .i16 a_), (2, [], Value.int .i16 b_)] (by kernel_rfl) (by kernel_rfl) ?_
    refine reg_end [(0, Value.int .u32 x), (1, Value.int .i16 a_), (2, Value.int .i16 b_)] (by kernel_rfl) (by kernel_rfl) ?_
    change WpE _ _ c_towpathlaw01_NumRound_3 _ _ _
    refine wpE_seq (x := c_towpathlaw01_NumRound_4) (y := c_towpathlaw01_NumRound_6) (by kernel_rfl) ?_
    refine wpE_region (id := 1) (ops := r_towpathlaw01_NumRound_4) (by kernel_rfl) ?_
    refine reg_run [.plain, .plain, .plain, .plain, .plain, .plain] 6 [(0, [], Value.int .u32 x), (7, [], Value.int .i64 (IntKind.i64.wrap a_)), (8, [], Value.int .i64 (IntKind.i64.wrap b_))] (by kernel_rfl) (by kernel_rfl) ?_
    refine reg_end [(0, Value.int .u32 x), (7, Value.int .i64 (IntKind.i64.wrap a_)), (8, Value.int .i64 (IntKind.i64.wrap b_))] (by kernel_rfl) (by kernel_rfl) ?_
    change WpE _ _ c_towpathlaw01_NumRound_6 _ _ _
    refine wpE_seq (x := c_towpathlaw01_NumRound_7) (y := c_towpathlaw01_NumRound_9) (by kernel_rfl) ?_
    refine wpE_region (id := 2) (ops := r_towpathlaw01_NumRound_7) (by kernel_rfl) ?_
    refine reg_run [.plain, .plain] 2 [(0, [], Value.int .u32 x), (7, [], Value.int .i64 (IntKind.i64.wrap a_)), (8, [], Value.int .i64 (IntKind.i64.wrap b_)), (14, [], Value.int .u32 x), (15, [], Value.int .i64 (IntKind.i64.wrap a_))] (by kernel_rfl) (by kernel_rfl) ?_
    refine reg_enter (op := (Go.Op.call (Go.Call.mk (Go.Callee.value (Go.Operand.func 40)) #[(Go.Operand.tmp 14), (Go.Operand.tmp 15)] #[39, 3]))) (ty := 39) (dst := some 16) 40 #[Value.int .u32 x, Value.int .i64 (IntKind.i64.wrap a_)] (by kernel_rfl) (fun ww => by kernel_rfl) (Calls.mono h ?_)
    rintro _ w1 ⟨v16, rfl, h⟩
    refine ⟨_, rfl, ?_⟩
    refine reg_run [.plain] 4 [(0, [], Value.int .u32 x), (7, [], Value.int .i64 (IntKind.i64.wrap a_)), (8, [], Value.int .i64 (IntKind.i64.wrap b_)), (9, [], Value.int .u32 v16)] (by kernel_rfl) (by kernel_rfl) ?_
    refine reg_end [(0, Value.int .u32 x), (7, Value.int .i64 (IntKind.i64.wrap a_)), (8, Value.int .i64 (IntKind.i64.wrap b_)), (9, Value.int .u32 v16)] (by kernel_rfl) (by kernel_rfl) ?_
    change WpE _ _ c_towpathlaw01_NumRound_9 _ _ _
    refine wpE_seq (x := c_towpathlaw01_NumRound_10) (y := c_towpathlaw01_NumRound_12) (by kernel_rfl) ?_
    refine wpE_region (id := 3) (ops := r_towpathlaw01_NumRound_10) (by kernel_rfl) ?_
    refine reg_run [] 0 [(0, [], Value.int .u32 x), (7, [], Value.int .i64 (IntKind.i64.wrap a_)), (8, [], Value.int .i64 (IntKind.i64.wrap b_)), (9, [], Value.int .u32 v16)] (by kernel_rfl) (by kernel_rfl) ?_
    refine reg_enter (op := (Go.Op.call (Go.Call.mk (Go.Callee.value (Go.Operand.func 59)) #[] #[]))) (ty := 4) (dst := some 17) 59 #[] (by kernel_rfl) (fun ww => by kernel_rfl) (Calls.mono h ?_)
    rintro _ w2 ⟨v17, rfl, h⟩
    refine ⟨_, rfl, ?_⟩
    refine reg_run [.plain, .plain, .plain] 4 [(0, [], Value.int .u32 x), (7, [], Value.int .i64 (IntKind.i64.wrap a_)), (8, [], Value.int .i64 (IntKind.i64.wrap b_)), (9, [], Value.int .u32 v16), (18, [], Value.bool v17), (19, [(18, true)], Value.int .u32 v16), (20, [(18, true)], Value.int .i64 (IntKind.i64.wrap b_))] (by kernel_rfl) (by kernel_rfl) ?_
    refine reg_split 18 v17 (by kernel_rfl) (fun hb => ?_) (fun hb => ?_)
    · replace h := h.1 hb
      refine reg_run [] 4 [(0, [], Value.int .u32 x), (7, [], Value.int .i64 (IntKind.i64.wrap a_)), (8, [], Value.int .i64 (IntKind.i64.wrap b_)), (9, [], Value.int .u32 v16), (18, [], Value.bool true), (19, [], Value.int .u32 v16), (20, [], Value.int .i64 (IntKind.i64.wrap b_))] (by kernel_rfl) (by kernel_rfl) ?_
      refine reg_run [] 4 [(0, [], Value.int .u32 x), (7, [], Value.int .i64 (IntKind.i64.wrap a_)), (8, [], Value.int .i64 (IntKind.i64.wrap b_)), (9, [], Value.int .u32 v16), (18, [], Value.bool true), (19, [], Value.int .u32 v16), (20, [], Value.int .i64 (IntKind.i64.wrap b_))] (by kernel_rfl) (by kernel_rfl) ?_
      refine reg_enter (op := (Go.Op.call (Go.Call.mk (Go.Callee.value (Go.Operand.func 40)) #[(Go.Operand.tmp 19), (Go.Operand.tmp 20)] #[39, 3]))) (ty := 39) (dst := some 21) 40 #[Value.int .u32 v16, Value.int .i64 (IntKind.i64.wrap b_)] (by kernel_rfl) (fun ww => by kernel_rfl) (Calls.mono h ?_)
      rintro _ w3 ⟨v21, rfl, h⟩
      refine ⟨_, rfl, ?_⟩
      refine reg_run [.sure, .sure, .sure, .sure] 9 [(0, [], Value.int .u32 x), (7, [], Value.int .i64 (IntKind.i64.wrap a_)), (9, [], Value.int .u32 v16), (18, [], Value.bool true), (21, [], Value.int .u32 v21), (22, [], Value.int .u32 x), (25, [], Value.int .i64 (IntKind.i64.wrap ((IntKind.i64.wrap a_) + (IntKind.i64.wrap b_))))] (by kernel_rfl) (by kernel_rfl) ?_
      refine reg_enter (op := (Go.Op.call (Go.Call.mk (Go.Callee.value (Go.Operand.func 40)) #[(Go.Operand.tmp 22), (Go.Operand.tmp 25)] #[39, 3]))) (ty := 39) (dst := some 26) 40 #[Value.int .u32 x, Value.int .i64 (IntKind.i64.wrap ((IntKind.i64.wrap a_) + (IntKind.i64.wrap b_)))] (by kernel_rfl) (fun ww => by kernel_rfl) (Calls.mono h ?_)
      rintro _ w4 ⟨v26, rfl, h⟩
      refine ⟨_, rfl, ?_⟩
      refine reg_run [.sure, .plain, .plain, .plain, .plain, .plain] 16 [(0, [], Value.int .u32 x), (7, [], Value.int .i64 (IntKind.i64.wrap a_)), (9, [], Value.int .u32 v16), (29, [], Value.bool (v21 == v26)), (30, [(29, true)], Value.int .u32 x), (32, [(29, true)], Value.int .i64 (IntKind.i64.wrap ((IntKind.i64.wrap a_) + 32)))] (by kernel_rfl) (by kernel_rfl) ?_
      refine reg_split 29 (v21 == v26) (by kernel_rfl) (fun hb => ?_) (fun hb => ?_)
      · replace h := h.1 hb
        refine reg_run [] 16 [(0, [], Value.int .u32 x), (7, [], Value.int .i64 (IntKind.i64.wrap a_)), (9, [], Value.int .u32 v16), (29, [], Value.bool true), (30, [], Value.int .u32 x), (32, [], Value.int .i64 (IntKind.i64.wrap ((IntKind.i64.wrap a_) + 32)))] (by kernel_rfl) (by kernel_rfl) ?_
        refine reg_run [] 16 [(0, [], Value.int .u32 x), (7, [], Value.int .i64 (IntKind.i64.wrap a_)), (9, [], Value.int .u32 v16), (29, [], Value.bool true), (30, [], Value.int .u32 x), (32, [], Value.int .i64 (IntKind.i64.wrap ((IntKind.i64.wrap a_) + 32)))] (by kernel_rfl) (by kernel_rfl) ?_
        refine reg_enter (op := (Go.Op.call (Go.Call.mk (Go.Callee.value (Go.Operand.func 40)) #[(Go.Operand.tmp 30), (Go.Operand.tmp 32)] #[39, 3]))) (ty := 39) (dst := some 33) 40 #[Value.int .u32 x, Value.int .i64 (IntKind.i64.wrap ((IntKind.i64.wrap a_) + 32))] (by kernel_rfl) (fun ww => by kernel_rfl) (Calls.mono h ?_)
        rintro _ w5 ⟨v33, rfl, h⟩
        refine ⟨_, rfl, ?_⟩
        refine reg_run [.sure, .sure, .plain, .plain, .plain, .plain, .plain] 24 [(0, [], Value.int .u32 x), (37, [], Value.bool (v33 == v16)), (38, [(37, true)], Value.int .u32 v16), (40, [(37, true)], Value.int .i64 (IntKind.i64.wrap (0 - (IntKind.i64.wrap a_))))] (by kernel_rfl) (by kernel_rfl) ?_
        refine reg_split 37 (v33 == v16) (by kernel_rfl) (fun hb => ?_) (fun hb => ?_)
        · replace h := h.1 hb
          refine reg_run [] 24 [(0, [], Value.int .u32 x), (37, [], Value.bool true), (38, [], Value.int .u32 v16), (40, [], Value.int .i64 (IntKind.i64.wrap (0 - (IntKind.i64.wrap a_))))] (by kernel_rfl) (by kernel_rfl) ?_
          refine reg_run [] 24 [(0, [], Value.int .u32 x), (37, [], Value.bool true), (38, [], Value.int .u32 v16), (40, [], Value.int .i64 (IntKind.i64.wrap (0 - (IntKind.i64.wrap a_))))] (by kernel_rfl) (by kernel_rfl) ?_
          refine reg_enter (op := (Go.Op.call (Go.Call.mk (Go.Callee.value (Go.Operand.func 40)) #[(Go.Operand.tmp 38), (Go.Operand.tmp 40)] #[39, 3]))) (ty := 39) (dst := some 41) 40 #[Value.int .u32 v16, Value.int .i64 (IntKind.i64.wrap (0 - (IntKind.i64.wrap a_)))] (by kernel_rfl) (fun ww => by kernel_rfl) (Calls.mono h ?_)
          rintro _ w6 ⟨v41, rfl, h⟩
          refine ⟨_, rfl, ?_⟩
          refine reg_run [.sure, .sure, .plain, .plain] 29 [(6, [], Value.bool (v41 == x))] (by kernel_rfl) (by kernel_rfl) ?_
          refine reg_end [(6, Value.bool (v41 == x))] (by kernel_rfl) (by kernel_rfl) ?_
          change WpE _ _ c_towpathlaw01_NumRound_12 _ _ _
          refine wpE_ret (by kernel_rfl) ?_
          repeat (first | refine seqQ_ret ?_ | refine blockQ_ret ?_ | refine loopQ_ret ?_ | refine cutQ_ret ?_)
          exact retS (rs := [(Go.ResultVar.tmp 6)]) (v := Value.bool (v41 == x)) (by kernel_rfl) (⟨by kernel_rfl, trivial⟩) ⟨(v41 == x), rfl, h⟩
        · replace h := h.2 hb
          refine reg_run [] 24 [(0, [], Value.int .u32 x), (37, [], Value.bool false), (38, [], undef), (40, [], undef)] (by kernel_rfl) (by kernel_rfl) ?_
          refine reg_run [.skip, .skip, .skip, .plain, .plain] 29 [(6, [], Value.bool false)] (by kernel_rfl) (by kernel_rfl) ?_
          refine reg_end [(6, Value.bool false)] (by kernel_rfl) (by kernel_rfl) ?_
          change WpE _ _ c_towpathlaw01_NumRound_12 _ _ _
          refine wpE_ret (by kernel_rfl) ?_
          repeat (first | refine seqQ_ret ?_ | refine blockQ_ret ?_ | refine loopQ_ret ?_ | refine cutQ_ret ?_)
          exact retS (rs := [(Go.ResultVar.tmp 6)]) (v := Value.bool false) (by kernel_rfl) (⟨by kernel_rfl, trivial⟩) ⟨false, rfl, h⟩
      · replace h := h.2 hb
        refine reg_run [] 16 [(0, [], Value.int .u32 x), (7, [], Value.int .i64 (IntKind.i64.wrap a_)), (9, [], Value.int .u32 v16), (29, [], Value.bool false), (30, [], undef), (32, [], undef)] (by kernel_rfl) (by kernel_rfl) ?_
        refine reg_run [.skip, .skip, .skip, .plain, .plain, .skip, .skip, .skip, .skip, .skip, .skip, .plain, .plain] 29 [(6, [], Value.bool false)] (by kernel_rfl) (by kernel_rfl) ?_
        refine reg_end [(6, Value.bool false)] (by kernel_rfl) (by kernel_rfl) ?_
        change WpE _ _ c_towpathlaw01_NumRound_12 _ _ _
        refine wpE_ret (by kernel_rfl) ?_
        repeat (first | refine seqQ_ret ?_ | refine blockQ_ret ?_ | refine loopQ_ret ?_ | refine cutQ_ret ?_)
        exact retS (rs := [(Go.ResultVar.tmp 6)]) (v := Value.bool false) (by kernel_rfl) (⟨by kernel_rfl, trivial⟩) ⟨false, rfl, h⟩
    · replace h := h.2 hb
      refine reg_run [] 4 [(0, [], Value.int .u32 x), (7, [], Value.int .i64 (IntKind.i64.wrap a_)), (8, [], Value.int .i64 (IntKind.i64.wrap b_)), (9, [], Value.int .u32 v16), (18, [], Value.bool false), (19, [], undef), (20, [], undef)] (by kernel_rfl) (by kernel_rfl) ?_
      refine reg_run [.skip, .skip, .skip, .skip, .skip, .skip, .skip, .plain, .plain, .skip, .skip, .skip, .skip, .skip, .skip, .plain, .plain, .skip, .skip, .skip, .skip, .skip, .skip, .plain, .plain] 29 [(6, [], Value.bool false)] (by kernel_rfl) (by kernel_rfl) ?_
      refine reg_end [(6, Value.bool false)] (by kernel_rfl) (by kernel_rfl) ?_
      change WpE _ _ c_towpathlaw01_NumRound_12 _ _ _
      refine wpE_ret (by kernel_rfl) ?_
      repeat (first | refine seqQ_ret ?_ | refine blockQ_ret ?_ | refine loopQ_ret ?_ | refine cutQ_ret ?_)
      exact retS (rs := [(Go.ResultVar.tmp 6)]) (v := Value.bool false) (by kernel_rfl) (⟨by kernel_rfl, trivial⟩) ⟨false, rfl, h⟩
  · rintro e w' ⟨v, rfl, r0, rfl, h⟩; exact ⟨r0, rfl, h⟩
end Go.Proofs.Ytmcpljflohlnaaa
