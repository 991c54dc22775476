/- WRITTEN BY PROGRAM (dec.py): for each Go function the clean formula F, the call's contract C, and the proof S that F gives C. -/
import Derived.Test.YtckmganidgbpgaaGreatDoorRows
import Derived.Test.YtckmganidgbpgaaGreatDoorGF
namespace Go.Proofs.YtckmganidgbpgaaGreatDoor
open Go
set_option linter.unusedVariables false

/-! ### (*towpath/towpathlaw01.Book).Bytes (function 10) -/
noncomputable def c_towpathlaw01_Book_Bytes_0 : Code := (Tryz.f10.body).getD Code.skip
noncomputable def r_towpathlaw01_Book_Bytes_0 : Array Oper := Code.ops c_towpathlaw01_Book_Bytes_0

set_option maxRecDepth 100000 in
set_option maxHeartbeats 4000000 in
theorem S_towpathlaw01_Book_Bytes {b_ : Option Addr} {l_ : Slc} {w : World} {R : World → Prop} (h : F_towpathlaw01_Book_Bytes b_ l_ R w) : C_towpathlaw01_Book_Bytes b_ l_ w R := by
  unfold F_towpathlaw01_Book_Bytes at h
  unfold C_towpathlaw01_Book_Bytes
  refine Calls.mono (calls_of_wpE (args := [Value.pointer b_, Value.slice l_.ptr l_.len l_.cap]) (R := fun v w' => v = Value.tuple #[] ∧ R w') Tryz.func10 (c := c_towpathlaw01_Book_Bytes_0) (by kernel_rfl) 7 (by kernel_rfl) (by kernel_rfl) [(0, Value.pointer b_), (1, Value.slice l_.ptr l_.len l_.cap)] (by kernel_rfl) ?_) ?_
  · refine wpE_region (id := 0) (ops := r_towpathlaw01_Book_Bytes_0) (by kernel_rfl) ?_
    refine reg_run [.plain, .plain] 2 [(4, [], Value.pointer b_), (5, [], Value.slice l_.ptr l_.len l_.cap)] (by kernel_rfl) (by kernel_rfl) ?_
    refine reg_enter (op := (Go.Op.call (Go.Call.mk (Go.Callee.value (Go.Operand.func 32)) #[(Go.Operand.tmp 4), (Go.Operand.tmp 5)] #[65, 45]))) (ty := 0) (dst := some 6) 32 #[Value.pointer b_, Value.slice l_.ptr l_.len l_.cap] (by kernel_rfl) (fun ww => by kernel_rfl) (Calls.mono h ?_)
    rintro _ w1 ⟨rfl, h⟩
    refine ⟨_, rfl, ?_⟩
    refine reg_end [] (by kernel_rfl) (by kernel_rfl) ?_
    repeat (first | refine seqQ_exit ?_ | refine loopQ_exit ?_ | refine cutQ_exit ?_ | refine blockQ_hit ?_ | refine blockQ_miss (by kernel_rfl) ?_)
    refine retQ_normal ?_
    repeat (first | refine seqQ_ret ?_ | refine blockQ_ret ?_ | refine loopQ_ret ?_ | refine cutQ_ret ?_)
    exact retT (rs := []) (vs := []) (by kernel_rfl) (trivial) (by kernel_rfl) ⟨rfl, h⟩
  · rintro e w' ⟨v, rfl, rfl, h⟩; exact ⟨rfl, h⟩

/-! ### (*towpath/towpathlaw01.Book).Apart (function 11) -/
noncomputable def c_towpathlaw01_Book_Apart_0 : Code := (Tryz.f11.body).getD Code.skip
noncomputable def c_towpathlaw01_Book_Apart_1 : Code := Code.l c_towpathlaw01_Book_Apart_0
noncomputable def r_towpathlaw01_Book_Apart_1 : Array Oper := Code.ops c_towpathlaw01_Book_Apart_1
noncomputable def c_towpathlaw01_Book_Apart_3 : Code := Code.r c_towpathlaw01_Book_Apart_0
noncomputable def c_towpathlaw01_Book_Apart_4 : Code := Code.l c_towpathlaw01_Book_Apart_3
noncomputable def r_towpathlaw01_Book_Apart_4 : Array Oper := Code.ops c_towpathlaw01_Book_Apart_4
noncomputable def c_towpathlaw01_Book_Apart_6 : Code := Code.r c_towpathlaw01_Book_Apart_3
noncomputable def c_towpathlaw01_Book_Apart_7 : Code := Code.l c_towpathlaw01_Book_Apart_6
noncomputable def r_towpathlaw01_Book_Apart_7 : Array Oper := Code.ops c_towpathlaw01_Book_Apart_7
noncomputable def c_towpathlaw01_Book_Apart_9 : Code := Code.r c_towpathlaw01_Book_Apart_6
noncomputable def c_towpathlaw01_Book_Apart_10 : Code := Code.l c_towpathlaw01_Book_Apart_9
noncomputable def r_towpathlaw01_Book_Apart_10 : Array Oper := Code.ops c_towpathlaw01_Book_Apart_10
noncomputable def c_towpathlaw01_Book_Apart_12 : Code := Code.r c_towpathlaw01_Book_Apart_9
noncomputable def c_towpathlaw01_Book_Apart_13 : Code := Code.l c_towpathlaw01_Book_Apart_12
noncomputable def r_towpathlaw01_Book_Apart_13 : Array Oper := Code.ops c_towpathlaw01_Book_Apart_13
noncomputable def c_towpathlaw01_Book_Apart_15 : Code := Code.r c_towpathlaw01_Book_Apart_12
noncomputable def c_towpathlaw01_Book_Apart_16 : Code := Code.l c_towpathlaw01_Book_Apart_15
noncomputable def r_towpathlaw01_Book_Apart_16 : Array Oper := Code.ops c_towpathlaw01_Book_Apart_16
noncomputable def c_towpathlaw01_Book_Apart_18 : Code := Code.r c_towpathlaw01_Book_Apart_15
noncomputable def c_towpathlaw01_Book_Apart_19 : Code := Code.l c_towpathlaw01_Book_Apart_18
noncomputable def r_towpathlaw01_Book_Apart_19 : Array Oper := Code.ops c_towpathlaw01_Book_Apart_19
noncomputable def c_towpathlaw01_Book_Apart_21 : Code := Code.r c_towpathlaw01_Book_Apart_18
noncomputable def c_towpathlaw01_Book_Apart_22 : Code := Code.l c_towpathlaw01_Book_Apart_21
noncomputable def r_towpathlaw01_Book_Apart_22 : Array Oper := Code.ops c_towpathlaw01_Book_Apart_22
noncomputable def c_towpathlaw01_Book_Apart_24 : Code := Code.r c_towpathlaw01_Book_Apart_21
noncomputable def c_towpathlaw01_Book_Apart_25 : Code := Code.l c_towpathlaw01_Book_Apart_24
noncomputable def r_towpathlaw01_Book_Apart_25 : Array Oper := Code.ops c_towpathlaw01_Book_Apart_25
noncomputable def c_towpathlaw01_Book_Apart_27 : Code := Code.r c_towpathlaw01_Book_Apart_24
noncomputable def c_towpathlaw01_Book_Apart_28 : Code := Code.l c_towpathlaw01_Book_Apart_27
noncomputable def r_towpathlaw01_Book_Apart_28 : Array Oper := Code.ops c_towpathlaw01_Book_Apart_28
noncomputable def c_towpathlaw01_Book_Apart_30 : Code := Code.r c_towpathlaw01_Book_Apart_27
noncomputable def c_towpathlaw01_Book_Apart_31 : Code := Code.l c_towpathlaw01_Book_Apart_30
noncomputable def r_towpathlaw01_Book_Apart_31 : Array Oper := Code.ops c_towpathlaw01_Book_Apart_31
noncomputable def c_towpathlaw01_Book_Apart_33 : Code := Code.r c_towpathlaw01_Book_Apart_30
noncomputable def c_towpathlaw01_Book_Apart_34 : Code := Code.l c_towpathlaw01_Book_Apart_33
noncomputable def r_towpathlaw01_Book_Apart_34 : Array Oper := Code.ops c_towpathlaw01_Book_Apart_34
noncomputable def c_towpathlaw01_Book_Apart_36 : Code := Code.r c_towpathlaw01_Book_Apart_33
noncomputable def c_towpathlaw01_Book_Apart_37 : Code := Code.l c_towpathlaw01_Book_Apart_36
noncomputable def r_towpathlaw01_Book_Apart_37 : Array Oper := Code.ops c_towpathlaw01_Book_Apart_37
noncomputable def c_towpathlaw01_Book_Apart_39 : Code := Code.r c_towpathlaw01_Book_Apart_36
noncomputable def c_towpathlaw01_Book_Apart_40 : Code := Code.l c_towpathlaw01_Book_Apart_39
noncomputable def r_towpathlaw01_Book_Apart_40 : Array Oper := Code.ops c_towpathlaw01_Book_Apart_40
noncomputable def c_towpathlaw01_Book_Apart_42 : Code := Code.r c_towpathlaw01_Book_Apart_39
noncomputable def c_towpathlaw01_Book_Apart_43 : Code := Code.l c_towpathlaw01_Book_Apart_42
noncomputable def r_towpathlaw01_Book_Apart_43 : Array Oper := Code.ops c_towpathlaw01_Book_Apart_43
noncomputable def c_towpathlaw01_Book_Apart_45 : Code := Code.r c_towpathlaw01_Book_Apart_42
noncomputable def c_towpathlaw01_Book_Apart_46 : Code := Code.l c_towpathlaw01_Book_Apart_45
noncomputable def r_towpathlaw01_Book_Apart_46 : Array Oper := Code.ops c_towpathlaw01_Book_Apart_46
noncomputable def c_towpathlaw01_Book_Apart_48 : Code := Code.r c_towpathlaw01_Book_Apart_45
noncomputable def c_towpathlaw01_Book_Apart_49 : Code := Code.l c_towpathlaw01_Book_Apart_48
noncomputable def r_towpathlaw01_Book_Apart_49 : Array Oper := Code.ops c_towpathlaw01_Book_Apart_49
noncomputable def c_towpathlaw01_Book_Apart_51 : Code := Code.r c_towpathlaw01_Book_Apart_48
noncomputable def c_towpathlaw01_Book_Apart_52 : Code := Code.l c_towpathlaw01_Book_Apart_51
noncomputable def r_towpathlaw01_Book_Apart_52 : Array Oper := Code.ops c_towpathlaw01_Book_Apart_52
noncomputable def c_towpathlaw01_Book_Apart_54 : Code := Code.r c_towpathlaw01_Book_Apart_51
noncomputable def c_towpathlaw01_Book_Apart_55 : Code := Code.l c_towpathlaw01_Book_Apart_54
noncomputable def r_towpathlaw01_Book_Apart_55 : Array Oper := Code.ops c_towpathlaw01_Book_Apart_55
noncomputable def c_towpathlaw01_Book_Apart_57 : Code := Code.r c_towpathlaw01_Book_Apart_54
noncomputable def c_towpathlaw01_Book_Apart_58 : Code := Code.l c_towpathlaw01_Book_Apart_57
noncomputable def r_towpathlaw01_Book_Apart_58 : Array Oper := Code.ops c_towpathlaw01_Book_Apart_58
noncomputable def c_towpathlaw01_Book_Apart_60 : Code := Code.r c_towpathlaw01_Book_Apart_57
noncomputable def c_towpathlaw01_Book_Apart_61 : Code := Code.l c_towpathlaw01_Book_Apart_60
noncomputable def r_towpathlaw01_Book_Apart_61 : Array Oper := Code.ops c_towpathlaw01_Book_Apart_61
noncomputable def c_towpathlaw01_Book_Apart_63 : Code := Code.r c_towpathlaw01_Book_Apart_60
noncomputable def c_towpathlaw01_Book_Apart_64 : Code := Code.l c_towpathlaw01_Book_Apart_63
noncomputable def r_towpathlaw01_Book_Apart_64 : Array Oper := Code.ops c_towpathlaw01_Book_Apart_64
noncomputable def c_towpathlaw01_Book_Apart_66 : Code := Code.r c_towpathlaw01_Book_Apart_63
noncomputable def c_towpathlaw01_Book_Apart_67 : Code := Code.l c_towpathlaw01_Book_Apart_66
noncomputable def r_towpathlaw01_Book_Apart_67 : Array Oper := Code.ops c_towpathlaw01_Book_Apart_67
noncomputable def c_towpathlaw01_Book_Apart_69 : Code := Code.r c_towpathlaw01_Book_Apart_66
noncomputable def c_towpathlaw01_Book_Apart_70 : Code := Code.l c_towpathlaw01_Book_Apart_69
noncomputable def r_towpathlaw01_Book_Apart_70 : Array Oper := Code.ops c_towpathlaw01_Book_Apart_70
noncomputable def c_towpathlaw01_Book_Apart_72 : Code := Code.r c_towpathlaw01_Book_Apart_69

set_option maxRecDepth 100000 in
set_option maxHeartbeats 4000000 in
theorem S_towpathlaw01_Book_Apart {b_ : Option Addr} {w : World} {R : Bool → World → Prop} (h : F_towpathlaw01_Book_Apart b_ R w) : C_towpathlaw01_Book_Apart b_ w R := by
  unfold F_towpathlaw01_Book_Apart at h
  unfold C_towpathlaw01_Book_Apart
  refine Calls.mono (calls_of_wpE (args := [Value.pointer b_]) (R := fun v w' => ∃ (r0 : Bool), v = Value.bool r0 ∧ R r0 w') Tryz.func11 (c := c_towpathlaw01_Book_Apart_0) (by kernel_rfl) 89 (by kernel_rfl) (by kernel_rfl) [(0, Value.pointer b_)] (by kernel_rfl) ?_) ?_
  · refine wpE_seq (x := c_towpathlaw01_Book_Apart_1) (y := c_towpathlaw01_Book_Apart_3) (by kernel_rfl) ?_
    refine wpE_region (id := 0) (ops := r_towpathlaw01_Book_Apart_1) (by kernel_rfl) ?_
    refine reg_run [.plain] 1 [(0, [], Value.pointer b_)] (by kernel_rfl) (by kernel_rfl) ?_
    refine reg_end [(0, Value.pointer b_)] (by kernel_rfl) (by kernel_rfl) ?_
    change WpE _ _ c_towpathlaw01_Book_Apart_3 _ _ _
    refine wpE_seq (x := c_towpathlaw01_Book_Apart_4) (y := c_towpathlaw01_Book_Apart_6) (by kernel_rfl) ?_
    refine wpE_region (id := 1) (ops := r_towpathlaw01_Book_Apart_4) (by kernel_rfl) ?_
    refine reg_run [.plain] 1 [(0, [], Value.pointer b_), (3, [], Value.pointer b_)] (by kernel_rfl) (by kernel_rfl) ?_
    refine reg_enter (op := (Go.Op.call (Go.Call.mk (Go.Callee.value (Go.Operand.func 33)) #[(Go.Operand.tmp 3)] #[65]))) (ty := 0) (dst := some 4) 33 #[Value.pointer b_] (by kernel_rfl) (fun ww => by kernel_rfl) (Calls.mono h ?_)
    rintro _ w1 ⟨rfl, h⟩
    refine ⟨_, rfl, ?_⟩
    refine reg_end [(0, Value.pointer b_)] (by kernel_rfl) (by kernel_rfl) ?_
    change WpE _ _ c_towpathlaw01_Book_Apart_6 _ _ _
    refine wpE_seq (x := c_towpathlaw01_Book_Apart_7) (y := c_towpathlaw01_Book_Apart_9) (by kernel_rfl) ?_
    refine wpE_region (id := 2) (ops := r_towpathlaw01_Book_Apart_7) (by kernel_rfl) ?_
    refine reg_run [.plain] 1 [(0, [], Value.pointer b_), (5, [], Value.pointer b_)] (by kernel_rfl) (by kernel_rfl) ?_
    refine reg_enter (op := (Go.Op.call (Go.Call.mk (Go.Callee.value (Go.Operand.func 34)) #[(Go.Operand.tmp 5)] #[65]))) (ty := 0) (dst := some 6) 34 #[Value.pointer b_] (by kernel_rfl) (fun ww => by kernel_rfl) (Calls.mono h ?_)
    rintro _ w2 ⟨rfl, h⟩
    refine ⟨_, rfl, ?_⟩
    refine reg_end [(0, Value.pointer b_)] (by kernel_rfl) (by kernel_rfl) ?_
    change WpE _ _ c_towpathlaw01_Book_Apart_9 _ _ _
    refine wpE_seq (x := c_towpathlaw01_Book_Apart_10) (y := c_towpathlaw01_Book_Apart_12) (by kernel_rfl) ?_
    refine wpE_region (id := 3) (ops := r_towpathlaw01_Book_Apart_10) (by kernel_rfl) ?_
    refine reg_run [.plain] 1 [(0, [], Value.pointer b_), (7, [], Value.pointer b_)] (by kernel_rfl) (by kernel_rfl) ?_
    refine reg_enter (op := (Go.Op.call (Go.Call.mk (Go.Callee.value (Go.Operand.func 35)) #[(Go.Operand.tmp 7)] #[65]))) (ty := 0) (dst := some 8) 35 #[Value.pointer b_] (by kernel_rfl) (fun ww => by kernel_rfl) (Calls.mono h ?_)
    rintro _ w3 ⟨rfl, h⟩
    refine ⟨_, rfl, ?_⟩
    refine reg_end [(0, Value.pointer b_)] (by kernel_rfl) (by kernel_rfl) ?_
    change WpE _ _ c_towpathlaw01_Book_Apart_12 _ _ _
    refine wpE_seq (x := c_towpathlaw01_Book_Apart_13) (y := c_towpathlaw01_Book_Apart_15) (by kernel_rfl) ?_
    refine wpE_region (id := 4) (ops := r_towpathlaw01_Book_Apart_13) (by kernel_rfl) ?_
    refine reg_run [.plain] 1 [(0, [], Value.pointer b_), (9, [], Value.pointer b_)] (by kernel_rfl) (by kernel_rfl) ?_
    refine reg_enter (op := (Go.Op.call (Go.Call.mk (Go.Callee.value (Go.Operand.func 36)) #[(Go.Operand.tmp 9)] #[65]))) (ty := 0) (dst := some 10) 36 #[Value.pointer b_] (by kernel_rfl) (fun ww => by kernel_rfl) (Calls.mono h ?_)
    rintro _ w4 ⟨rfl, h⟩
    refine ⟨_, rfl, ?_⟩
    refine reg_end [(0, Value.pointer b_)] (by kernel_rfl) (by kernel_rfl) ?_
    change WpE _ _ c_towpathlaw01_Book_Apart_15 _ _ _
    refine wpE_seq (x := c_towpathlaw01_Book_Apart_16) (y := c_towpathlaw01_Book_Apart_18) (by kernel_rfl) ?_
    refine wpE_region (id := 5) (ops := r_towpathlaw01_Book_Apart_16) (by kernel_rfl) ?_
    refine reg_run [.plain] 1 [(0, [], Value.pointer b_), (11, [], Value.pointer b_)] (by kernel_rfl) (by kernel_rfl) ?_
    refine reg_enter (op := (Go.Op.call (Go.Call.mk (Go.Callee.value (Go.Operand.func 37)) #[(Go.Operand.tmp 11)] #[65]))) (ty := 0) (dst := some 12) 37 #[Value.pointer b_] (by kernel_rfl) (fun ww => by kernel_rfl) (Calls.mono h ?_)
    rintro _ w5 ⟨rfl, h⟩
    refine ⟨_, rfl, ?_⟩
    refine reg_end [(0, Value.pointer b_)] (by kernel_rfl) (by kernel_rfl) ?_
    change WpE _ _ c_towpathlaw01_Book_Apart_18 _ _ _
    refine wpE_seq (x := c_towpathlaw01_Book_Apart_19) (y := c_towpathlaw01_Book_Apart_21) (by kernel_rfl) ?_
    refine wpE_region (id := 6) (ops := r_towpathlaw01_Book_Apart_19) (by kernel_rfl) ?_
    refine reg_run [.plain] 1 [(0, [], Value.pointer b_), (13, [], Value.pointer b_)] (by kernel_rfl) (by kernel_rfl) ?_
    refine reg_enter (op := (Go.Op.call (Go.Call.mk (Go.Callee.value (Go.Operand.func 38)) #[(Go.Operand.tmp 13)] #[65]))) (ty := 0) (dst := some 14) 38 #[Value.pointer b_] (by kernel_rfl) (fun ww => by kernel_rfl) (Calls.mono h ?_)
    rintro _ w6 ⟨rfl, h⟩
    refine ⟨_, rfl, ?_⟩
    refine reg_end [(0, Value.pointer b_)] (by kernel_rfl) (by kernel_rfl) ?_
    change WpE _ _ c_towpathlaw01_Book_Apart_21 _ _ _
    refine wpE_seq (x := c_towpathlaw01_Book_Apart_22) (y := c_towpathlaw01_Book_Apart_24) (by kernel_rfl) ?_
    refine wpE_region (id := 7) (ops := r_towpathlaw01_Book_Apart_22) (by kernel_rfl) ?_
    refine reg_run [.plain] 1 [(0, [], Value.pointer b_), (15, [], Value.pointer b_)] (by kernel_rfl) (by kernel_rfl) ?_
    refine reg_enter (op := (Go.Op.call (Go.Call.mk (Go.Callee.value (Go.Operand.func 39)) #[(Go.Operand.tmp 15)] #[65]))) (ty := 0) (dst := some 16) 39 #[Value.pointer b_] (by kernel_rfl) (fun ww => by kernel_rfl) (Calls.mono h ?_)
    rintro _ w7 ⟨rfl, h⟩
    refine ⟨_, rfl, ?_⟩
    refine reg_end [(0, Value.pointer b_)] (by kernel_rfl) (by kernel_rfl) ?_
    change WpE _ _ c_towpathlaw01_Book_Apart_24 _ _ _
    refine wpE_seq (x := c_towpathlaw01_Book_Apart_25) (y := c_towpathlaw01_Book_Apart_27) (by kernel_rfl) ?_
    refine wpE_region (id := 8) (ops := r_towpathlaw01_Book_Apart_25) (by kernel_rfl) ?_
    refine reg_run [.plain] 1 [(0, [], Value.pointer b_), (17, [], Value.pointer b_)] (by kernel_rfl) (by kernel_rfl) ?_
    refine reg_enter (op := (Go.Op.call (Go.Call.mk (Go.Callee.value (Go.Operand.func 40)) #[(Go.Operand.tmp 17)] #[65]))) (ty := 0) (dst := some 18) 40 #[Value.pointer b_] (by kernel_rfl) (fun ww => by kernel_rfl) (Calls.mono h ?_)
    rintro _ w8 ⟨rfl, h⟩
    refine ⟨_, rfl, ?_⟩
    refine reg_end [(0, Value.pointer b_)] (by kernel_rfl) (by kernel_rfl) ?_
    change WpE _ _ c_towpathlaw01_Book_Apart_27 _ _ _
    refine wpE_seq (x := c_towpathlaw01_Book_Apart_28) (y := c_towpathlaw01_Book_Apart_30) (by kernel_rfl) ?_
    refine wpE_region (id := 9) (ops := r_towpathlaw01_Book_Apart_28) (by kernel_rfl) ?_
    refine reg_run [.plain] 1 [(0, [], Value.pointer b_), (19, [], Value.pointer b_)] (by kernel_rfl) (by kernel_rfl) ?_
    refine reg_enter (op := (Go.Op.call (Go.Call.mk (Go.Callee.value (Go.Operand.func 41)) #[(Go.Operand.tmp 19)] #[65]))) (ty := 0) (dst := some 20) 41 #[Value.pointer b_] (by kernel_rfl) (fun ww => by kernel_rfl) (Calls.mono h ?_)
    rintro _ w9 ⟨rfl, h⟩
    refine ⟨_, rfl, ?_⟩
    refine reg_end [(0, Value.pointer b_)] (by kernel_rfl) (by kernel_rfl) ?_
    change WpE _ _ c_towpathlaw01_Book_Apart_30 _ _ _
    refine wpE_seq (x := c_towpathlaw01_Book_Apart_31) (y := c_towpathlaw01_Book_Apart_33) (by kernel_rfl) ?_
    refine wpE_region (id := 10) (ops := r_towpathlaw01_Book_Apart_31) (by kernel_rfl) ?_
    refine reg_run [.plain] 1 [(0, [], Value.pointer b_), (21, [], Value.pointer b_)] (by kernel_rfl) (by kernel_rfl) ?_
    refine reg_enter (op := (Go.Op.call (Go.Call.mk (Go.Callee.value (Go.Operand.func 42)) #[(Go.Operand.tmp 21)] #[65]))) (ty := 0) (dst := some 22) 42 #[Value.pointer b_] (by kernel_rfl) (fun ww => by kernel_rfl) (Calls.mono h ?_)
    rintro _ w10 ⟨rfl, h⟩
    refine ⟨_, rfl, ?_⟩
    refine reg_end [(0, Value.pointer b_)] (by kernel_rfl) (by kernel_rfl) ?_
    change WpE _ _ c_towpathlaw01_Book_Apart_33 _ _ _
    refine wpE_seq (x := c_towpathlaw01_Book_Apart_34) (y := c_towpathlaw01_Book_Apart_36) (by kernel_rfl) ?_
    refine wpE_region (id := 11) (ops := r_towpathlaw01_Book_Apart_34) (by kernel_rfl) ?_
    refine reg_run [.plain] 1 [(0, [], Value.pointer b_), (23, [], Value.pointer b_)] (by kernel_rfl) (by kernel_rfl) ?_
    refine reg_enter (op := (Go.Op.call (Go.Call.mk (Go.Callee.value (Go.Operand.func 43)) #[(Go.Operand.tmp 23)] #[65]))) (ty := 0) (dst := some 24) 43 #[Value.pointer b_] (by kernel_rfl) (fun ww => by kernel_rfl) (Calls.mono h ?_)
    rintro _ w11 ⟨rfl, h⟩
    refine ⟨_, rfl, ?_⟩
    refine reg_end [(0, Value.pointer b_)] (by kernel_rfl) (by kernel_rfl) ?_
    change WpE _ _ c_towpathlaw01_Book_Apart_36 _ _ _
    refine wpE_seq (x := c_towpathlaw01_Book_Apart_37) (y := c_towpathlaw01_Book_Apart_39) (by kernel_rfl) ?_
    refine wpE_region (id := 12) (ops := r_towpathlaw01_Book_Apart_37) (by kernel_rfl) ?_
    refine reg_run [.plain] 1 [(0, [], Value.pointer b_), (25, [], Value.pointer b_)] (by kernel_rfl) (by kernel_rfl) ?_
    refine reg_enter (op := (Go.Op.call (Go.Call.mk (Go.Callee.value (Go.Operand.func 44)) #[(Go.Operand.tmp 25)] #[65]))) (ty := 0) (dst := some 26) 44 #[Value.pointer b_] (by kernel_rfl) (fun ww => by kernel_rfl) (Calls.mono h ?_)
    rintro _ w12 ⟨rfl, h⟩
    refine ⟨_, rfl, ?_⟩
    refine reg_end [(0, Value.pointer b_)] (by kernel_rfl) (by kernel_rfl) ?_
    change WpE _ _ c_towpathlaw01_Book_Apart_39 _ _ _
    refine wpE_seq (x := c_towpathlaw01_Book_Apart_40) (y := c_towpathlaw01_Book_Apart_42) (by kernel_rfl) ?_
    refine wpE_region (id := 13) (ops := r_towpathlaw01_Book_Apart_40) (by kernel_rfl) ?_
    refine reg_run [.plain] 1 [(0, [], Value.pointer b_), (27, [], Value.pointer b_)] (by kernel_rfl) (by kernel_rfl) ?_
    refine reg_enter (op := (Go.Op.call (Go.Call.mk (Go.Callee.value (Go.Operand.func 45)) #[(Go.Operand.tmp 27)] #[65]))) (ty := 0) (dst := some 28) 45 #[Value.pointer b_] (by kernel_rfl) (fun ww => by kernel_rfl) (Calls.mono h ?_)
    rintro _ w13 ⟨rfl, h⟩
    refine ⟨_, rfl, ?_⟩
    refine reg_end [(0, Value.pointer b_)] (by kernel_rfl) (by kernel_rfl) ?_
    change WpE _ _ c_towpathlaw01_Book_Apart_42 _ _ _
    refine wpE_seq (x := c_towpathlaw01_Book_Apart_43) (y := c_towpathlaw01_Book_Apart_45) (by kernel_rfl) ?_
    refine wpE_region (id := 14) (ops := r_towpathlaw01_Book_Apart_43) (by kernel_rfl) ?_
    refine reg_run [.plain] 1 [(0, [], Value.pointer b_), (29, [], Value.pointer b_)] (by kernel_rfl) (by kernel_rfl) ?_
    refine reg_enter (op := (Go.Op.call (Go.Call.mk (Go.Callee.value (Go.Operand.func 46)) #[(Go.Operand.tmp 29)] #[65]))) (ty := 0) (dst := some 30) 46 #[Value.pointer b_] (by kernel_rfl) (fun ww => by kernel_rfl) (Calls.mono h ?_)
    rintro _ w14 ⟨rfl, h⟩
    refine ⟨_, rfl, ?_⟩
    refine reg_end [(0, Value.pointer b_)] (by kernel_rfl) (by kernel_rfl) ?_
    change WpE _ _ c_towpathlaw01_Book_Apart_45 _ _ _
    refine wpE_seq (x := c_towpathlaw01_Book_Apart_46) (y := c_towpathlaw01_Book_Apart_48) (by kernel_rfl) ?_
    refine wpE_region (id := 15) (ops := r_towpathlaw01_Book_Apart_46) (by kernel_rfl) ?_
    refine reg_run [.plain] 1 [(0, [], Value.pointer b_), (31, [], Value.pointer b_)] (by kernel_rfl) (by kernel_rfl) ?_
    refine reg_enter (op := (Go.Op.call (Go.Call.mk (Go.Callee.value (Go.Operand.func 47)) #[(Go.Operand.tmp 31)] #[65]))) (ty := 0) (dst := some 32) 47 #[Value.pointer b_] (by kernel_rfl) (fun ww => by kernel_rfl) (Calls.mono h ?_)
    rintro _ w15 ⟨rfl, h⟩
    refine ⟨_, rfl, ?_⟩
    refine reg_end [(0, Value.pointer b_)] (by kernel_rfl) (by kernel_rfl) ?_
    change WpE _ _ c_towpathlaw01_Book_Apart_48 _ _ _
    refine wpE_seq (x := c_towpathlaw01_Book_Apart_49) (y := c_towpathlaw01_Book_Apart_51) (by kernel_rfl) ?_
    refine wpE_region (id := 16) (ops := r_towpathlaw01_Book_Apart_49) (by kernel_rfl) ?_
    refine reg_run [.plain] 1 [(0, [], Value.pointer b_), (33, [], Value.pointer b_)] (by kernel_rfl) (by kernel_rfl) ?_
    refine reg_enter (op := (Go.Op.call (Go.Call.mk (Go.Callee.value (Go.Operand.func 48)) #[(Go.Operand.tmp 33)] #[65]))) (ty := 0) (dst := some 34) 48 #[Value.pointer b_] (by kernel_rfl) (fun ww => by kernel_rfl) (Calls.mono h ?_)
    rintro _ w16 ⟨rfl, h⟩
    refine ⟨_, rfl, ?_⟩
    refine reg_end [(0, Value.pointer b_)] (by kernel_rfl) (by kernel_rfl) ?_
    change WpE _ _ c_towpathlaw01_Book_Apart_51 _ _ _
    refine wpE_seq (x := c_towpathlaw01_Book_Apart_52) (y := c_towpathlaw01_Book_Apart_54) (by kernel_rfl) ?_
    refine wpE_region (id := 17) (ops := r_towpathlaw01_Book_Apart_52) (by kernel_rfl) ?_
    refine reg_run [.plain] 1 [(0, [], Value.pointer b_), (35, [], Value.pointer b_)] (by kernel_rfl) (by kernel_rfl) ?_
    refine reg_enter (op := (Go.Op.call (Go.Call.mk (Go.Callee.value (Go.Operand.func 49)) #[(Go.Operand.tmp 35)] #[65]))) (ty := 0) (dst := some 36) 49 #[Value.pointer b_] (by kernel_rfl) (fun ww => by kernel_rfl) (Calls.mono h ?_)
    rintro _ w17 ⟨rfl, h⟩
    refine ⟨_, rfl, ?_⟩
    refine reg_end [(0, Value.pointer b_)] (by kernel_rfl) (by kernel_rfl) ?_
    change WpE _ _ c_towpathlaw01_Book_Apart_54 _ _ _
    refine wpE_seq (x := c_towpathlaw01_Book_Apart_55) (y := c_towpathlaw01_Book_Apart_57) (by kernel_rfl) ?_
    refine wpE_region (id := 18) (ops := r_towpathlaw01_Book_Apart_55) (by kernel_rfl) ?_
    refine reg_run [.plain] 1 [(0, [], Value.pointer b_), (37, [], Value.pointer b_)] (by kernel_rfl) (by kernel_rfl) ?_
    refine reg_enter (op := (Go.Op.call (Go.Call.mk (Go.Callee.value (Go.Operand.func 50)) #[(Go.Operand.tmp 37)] #[65]))) (ty := 0) (dst := some 38) 50 #[Value.pointer b_] (by kernel_rfl) (fun ww => by kernel_rfl) (Calls.mono h ?_)
    rintro _ w18 ⟨rfl, h⟩
    refine ⟨_, rfl, ?_⟩
    refine reg_end [(0, Value.pointer b_)] (by kernel_rfl) (by kernel_rfl) ?_
    change WpE _ _ c_towpathlaw01_Book_Apart_57 _ _ _
    refine wpE_seq (x := c_towpathlaw01_Book_Apart_58) (y := c_towpathlaw01_Book_Apart_60) (by kernel_rfl) ?_
    refine wpE_region (id := 19) (ops := r_towpathlaw01_Book_Apart_58) (by kernel_rfl) ?_
    refine reg_run [.plain] 1 [(0, [], Value.pointer b_), (39, [], Value.pointer b_)] (by kernel_rfl) (by kernel_rfl) ?_
    refine reg_enter (op := (Go.Op.call (Go.Call.mk (Go.Callee.value (Go.Operand.func 51)) #[(Go.Operand.tmp 39)] #[65]))) (ty := 0) (dst := some 40) 51 #[Value.pointer b_] (by kernel_rfl) (fun ww => by kernel_rfl) (Calls.mono h ?_)
    rintro _ w19 ⟨rfl, h⟩
    refine ⟨_, rfl, ?_⟩
    refine reg_end [(0, Value.pointer b_)] (by kernel_rfl) (by kernel_rfl) ?_
    change WpE _ _ c_towpathlaw01_Book_Apart_60 _ _ _
    refine wpE_seq (x := c_towpathlaw01_Book_Apart_61) (y := c_towpathlaw01_Book_Apart_63) (by kernel_rfl) ?_
    refine wpE_region (id := 20) (ops := r_towpathlaw01_Book_Apart_61) (by kernel_rfl) ?_
    refine reg_run [.plain] 1 [(0, [], Value.pointer b_), (41, [], Value.pointer b_)] (by kernel_rfl) (by kernel_rfl) ?_
    refine reg_enter (op := (Go.Op.call (Go.Call.mk (Go.Callee.value (Go.Operand.func 52)) #[(Go.Operand.tmp 41)] #[65]))) (ty := 0) (dst := some 42) 52 #[Value.pointer b_] (by kernel_rfl) (fun ww => by kernel_rfl) (Calls.mono h ?_)
    rintro _ w20 ⟨rfl, h⟩
    refine ⟨_, rfl, ?_⟩
    refine reg_end [(0, Value.pointer b_)] (by kernel_rfl) (by kernel_rfl) ?_
    change WpE _ _ c_towpathlaw01_Book_Apart_63 _ _ _
    refine wpE_seq (x := c_towpathlaw01_Book_Apart_64) (y := c_towpathlaw01_Book_Apart_66) (by kernel_rfl) ?_
    refine wpE_region (id := 21) (ops := r_towpathlaw01_Book_Apart_64) (by kernel_rfl) ?_
    refine reg_run [.plain] 1 [(0, [], Value.pointer b_), (43, [], Value.pointer b_)] (by kernel_rfl) (by kernel_rfl) ?_
    refine reg_enter (op := (Go.Op.call (Go.Call.mk (Go.Callee.value (Go.Operand.func 53)) #[(Go.Operand.tmp 43)] #[65]))) (ty := 0) (dst := some 44) 53 #[Value.pointer b_] (by kernel_rfl) (fun ww => by kernel_rfl) (Calls.mono h ?_)
    rintro _ w21 ⟨rfl, h⟩
    refine ⟨_, rfl, ?_⟩
    refine reg_end [(0, Value.pointer b_)] (by kernel_rfl) (by kernel_rfl) ?_
    change WpE _ _ c_towpathlaw01_Book_Apart_66 _ _ _
    refine wpE_seq (x := c_towpathlaw01_Book_Apart_67) (y := c_towpathlaw01_Book_Apart_69) (by kernel_rfl) ?_
    refine wpE_region (id := 22) (ops := r_towpathlaw01_Book_Apart_67) (by kernel_rfl) ?_
    refine reg_run [.plain] 1 [(0, [], Value.pointer b_), (45, [], Value.pointer b_)] (by kernel_rfl) (by kernel_rfl) ?_
    refine reg_enter (op := (Go.Op.call (Go.Call.mk (Go.Callee.value (Go.Operand.func 54)) #[(Go.Operand.tmp 45)] #[65]))) (ty := 0) (dst := some 46) 54 #[Value.pointer b_] (by kernel_rfl) (fun ww => by kernel_rfl) (Calls.mono h ?_)
    rintro _ w22 ⟨rfl, h⟩
    refine ⟨_, rfl, ?_⟩
    refine reg_end [(0, Value.pointer b_)] (by kernel_rfl) (by kernel_rfl) ?_
    change WpE _ _ c_towpathlaw01_Book_Apart_69 _ _ _
    refine wpE_seq (x := c_towpathlaw01_Book_Apart_70) (y := c_towpathlaw01_Book_Apart_72) (by kernel_rfl) ?_
    refine wpE_region (id := 23) (ops := r_towpathlaw01_Book_Apart_70) (by kernel_rfl) ?_
    refine reg_run [.plain] 1 [(0, [], Value.pointer b_), (47, [], Value.pointer b_)] (by kernel_rfl) (by kernel_rfl) ?_
    refine reg_enter (op := (Go.Op.call (Go.Call.mk (Go.Callee.value (Go.Operand.func 55)) #[(Go.Operand.tmp 47)] #[65]))) (ty := 4) (dst := some 48) 55 #[Value.pointer b_] (by kernel_rfl) (fun ww => by kernel_rfl) (Calls.mono h ?_)
    rintro _ w23 ⟨v48, rfl, h⟩
    refine ⟨_, rfl, ?_⟩
    refine reg_run [.plain, .plain] 4 [(0, [], Value.pointer b_), (49, [], Value.bool v48), (50, [(49, true)], Value.pointer b_)] (by kernel_rfl) (by kernel_rfl) ?_
    refine reg_split 49 v48 (by kernel_rfl) (fun hb => ?_) (fun hb => ?_)
    · replace h := h.1 hb
      refine reg_run [] 4 [(0, [], Value.pointer b_), (49, [], Value.bool true), (50, [], Value.pointer b_)] (by kernel_rfl) (by kernel_rfl) ?_
      refine reg_run [] 4 [(0, [], Value.pointer b_), (49, [], Value.bool true), (50, [], Value.pointer b_)] (by kernel_rfl) (by kernel_rfl) ?_
      refine reg_enter (op := (Go.Op.call (Go.Call.mk (Go.Callee.value (Go.Operand.func 56)) #[(Go.Operand.tmp 50)] #[65]))) (ty := 4) (dst := some 51) 56 #[Value.pointer b_] (by kernel_rfl) (fun ww => by kernel_rfl) (Calls.mono h ?_)
      rintro _ w24 ⟨v51, rfl, h⟩
      refine ⟨_, rfl, ?_⟩
      refine reg_run [.plain, .plain, .plain] 8 [(0, [], Value.pointer b_), (53, [], Value.bool v51), (54, [(53, true)], Value.pointer b_)] (by kernel_rfl) (by kernel_rfl) ?_
      refine reg_split 53 v51 (by kernel_rfl) (fun hb => ?_) (fun hb => ?_)
      · replace h := h.1 hb
        refine reg_run [] 8 [(0, [], Value.pointer b_), (53, [], Value.bool true), (54, [], Value.pointer b_)] (by kernel_rfl) (by kernel_rfl) ?_
        refine reg_run [] 8 [(0, [], Value.pointer b_), (53, [], Value.bool true), (54, [], Value.pointer b_)] (by kernel_rfl) (by kernel_rfl) ?_
        refine reg_enter (op := (Go.Op.call (Go.Call.mk (Go.Callee.value (Go.Operand.func 57)) #[(Go.Operand.tmp 54)] #[65]))) (ty := 4) (dst := some 55) 57 #[Value.pointer b_] (by kernel_rfl) (fun ww => by kernel_rfl) (Calls.mono h ?_)
        rintro _ w25 ⟨v55, rfl, h⟩
        refine ⟨_, rfl, ?_⟩
        refine reg_run [.plain, .plain, .plain] 12 [(0, [], Value.pointer b_), (57, [], Value.bool v55), (58, [(57, true)], Value.pointer b_)] (by kernel_rfl) (by kernel_rfl) ?_
        refine reg_split 57 v55 (by kernel_rfl) (fun hb => ?_) (fun hb => ?_)
        · replace h := h.1 hb
          refine reg_run [] 12 [(0, [], Value.pointer b_), (57, [], Value.bool true), (58, [], Value.pointer b_)] (by kernel_rfl) (by kernel_rfl) ?_
          refine reg_run [] 12 [(0, [], Value.pointer b_), (57, [], Value.bool true), (58, [], Value.pointer b_)] (by kernel_rfl) (by kernel_rfl) ?_
          refine reg_enter (op := (Go.Op.call (Go.Call.mk (Go.Callee.value (Go.Operand.func 58)) #[(Go.Operand.tmp 58)] #[65]))) (ty := 4) (dst := some 59) 58 #[Value.pointer b_] (by kernel_rfl) (fun ww => by kernel_rfl) (Calls.mono h ?_)
          rintro _ w26 ⟨v59, rfl, h⟩
          refine ⟨_, rfl, ?_⟩
          refine reg_run [.plain, .plain, .plain] 16 [(0, [], Value.pointer b_), (61, [], Value.bool v59), (62, [(61, true)], Value.pointer b_)] (by kernel_rfl) (by kernel_rfl) ?_
          refine reg_split 61 v59 (by kernel_rfl) (fun hb => ?_) (fun hb => ?_)
          · replace h := h.1 hb
            refine reg_run [] 16 [(0, [], Value.pointer b_), (61, [], Value.bool true), (62, [], Value.pointer b_)] (by kernel_rfl) (by kernel_rfl) ?_
            refine reg_run [] 16 [(0, [], Value.pointer b_), (61, [], Value.bool true), (62, [], Value.pointer b_)] (by kernel_rfl) (by kernel_rfl) ?_
            refine reg_enter (op := (Go.Op.call (Go.Call.mk (Go.Callee.value (Go.Operand.func 59)) #[(Go.Operand.tmp 62)] #[65]))) (ty := 4) (dst := some 63) 59 #[Value.pointer b_] (by kernel_rfl) (fun ww => by kernel_rfl) (Calls.mono h ?_)
            rintro _ w27 ⟨v63, rfl, h⟩
            refine ⟨_, rfl, ?_⟩
            refine reg_run [.plain, .plain, .plain] 20 [(0, [], Value.pointer b_), (65, [], Value.bool v63), (66, [(65, true)], Value.pointer b_)] (by kernel_rfl) (by kernel_rfl) ?_
            refine reg_split 65 v63 (by kernel_rfl) (fun hb => ?_) (fun hb => ?_)
            · replace h := h.1 hb
              refine reg_run [] 20 [(0, [], Value.pointer b_), (65, [], Value.bool true), (66, [], Value.pointer b_)] (by kernel_rfl) (by kernel_rfl) ?_
              refine reg_run [] 20 [(0, [], Value.pointer b_), (65, [], Value.bool true), (66, [], Value.pointer b_)] (by kernel_rfl) (by kernel_rfl) ?_
              refine reg_enter (op := (Go.Op.call (Go.Call.mk (Go.Callee.value (Go.Operand.func 60)) #[(Go.Operand.tmp 66)] #[65]))) (ty := 4) (dst := some 67) 60 #[Value.pointer b_] (by kernel_rfl) (fun ww => by kernel_rfl) (Calls.mono h ?_)
              rintro _ w28 ⟨v67, rfl, h⟩
              refine ⟨_, rfl, ?_⟩
              refine reg_run [.plain, .plain, .plain] 24 [(0, [], Value.pointer b_), (69, [], Value.bool v67), (70, [(69, true)], Value.pointer b_)] (by kernel_rfl) (by kernel_rfl) ?_
              refine reg_split 69 v67 (by kernel_rfl) (fun hb => ?_) (fun hb => ?_)
              · replace h := h.1 hb
                refine reg_run [] 24 [(0, [], Value.pointer b_), (69, [], Value.bool true), (70, [], Value.pointer b_)] (by kernel_rfl) (by kernel_rfl) ?_
                refine reg_run [] 24 [(0, [], Value.pointer b_), (69, [], Value.bool true), (70, [], Value.pointer b_)] (by kernel_rfl) (by kernel_rfl) ?_
                refine reg_enter (op := (Go.Op.call (Go.Call.mk (Go.Callee.value (Go.Operand.func 61)) #[(Go.Operand.tmp 70)] #[65]))) (ty := 4) (dst := some 71) 61 #[Value.pointer b_] (by kernel_rfl) (fun ww => by kernel_rfl) (Calls.mono h ?_)
                rintro _ w29 ⟨v71, rfl, h⟩
                refine ⟨_, rfl, ?_⟩
                refine reg_run [.plain, .plain, .plain] 28 [(0, [], Value.pointer b_), (73, [], Value.bool v71), (74, [(73, true)], Value.pointer b_)] (by kernel_rfl) (by kernel_rfl) ?_
                refine reg_split 73 v71 (by kernel_rfl) (fun hb => ?_) (fun hb => ?_)
                · replace h := h.1 hb
                  refine reg_run [] 28 [(0, [], Value.pointer b_), (73, [], Value.bool true), (74, [], Value.pointer b_)] (by kernel_rfl) (by kernel_rfl) ?_
                  refine reg_run [] 28 [(0, [], Value.pointer b_), (73, [], Value.bool true), (74, [], Value.pointer b_)] (by kernel_rfl) (by kernel_rfl) ?_
                  refine reg_enter (op := (Go.Op.call (Go.Call.mk (Go.Callee.value (Go.Operand.func 62)) #[(Go.Operand.tmp 74)] #[65]))) (ty := 4) (dst := some 75) 62 #[Value.pointer b_] (by kernel_rfl) (fun ww => by kernel_rfl) (Calls.mono h ?_)
                  rintro _ w30 ⟨v75, rfl, h⟩
                  refine ⟨_, rfl, ?_⟩
                  refine reg_run [.plain, .plain, .plain] 32 [(0, [], Value.pointer b_), (77, [], Value.bool v75), (78, [(77, true)], Value.pointer b_)] (by kernel_rfl) (by kernel_rfl) ?_
                  refine reg_split 77 v75 (by kernel_rfl) (fun hb => ?_) (fun hb => ?_)
                  · replace h := h.1 hb
                    refine reg_run [] 32 [(0, [], Value.pointer b_), (77, [], Value.bool true), (78, [], Value.pointer b_)] (by kernel_rfl) (by kernel_rfl) ?_
                    refine reg_run [] 32 [(0, [], Value.pointer b_), (77, [], Value.bool true), (78, [], Value.pointer b_)] (by kernel_rfl) (by kernel_rfl) ?_
                    refine reg_enter (op := (Go.Op.call (Go.Call.mk (Go.Callee.value (Go.Operand.func 63)) #[(Go.Operand.tmp 78)] #[65]))) (ty := 4) (dst := some 79) 63 #[Value.pointer b_] (by kernel_rfl) (fun ww => by kernel_rfl) (Calls.mono h ?_)
                    rintro _ w31 ⟨v79, rfl, h⟩
                    refine ⟨_, rfl, ?_⟩
                    refine reg_run [.plain, .plain, .plain] 36 [(0, [], Value.pointer b_), (81, [], Value.bool v79), (82, [(81, true)], Value.pointer b_)] (by kernel_rfl) (by kernel_rfl) ?_
                    refine reg_split 81 v79 (by kernel_rfl) (fun hb => ?_) (fun hb => ?_)
                    · replace h := h.1 hb
                      refine reg_run [] 36 [(0, [], Value.pointer b_), (81, [], Value.bool true), (82, [], Value.pointer b_)] (by kernel_rfl) (by kernel_rfl) ?_
                      refine reg_run [] 36 [(0, [], Value.pointer b_), (81, [], Value.bool true), (82, [], Value.pointer b_)] (by kernel_rfl) (by kernel_rfl) ?_
                      refine reg_enter (op := (Go.Op.call (Go.Call.mk (Go.Callee.value (Go.Operand.func 64)) #[(Go.Operand.tmp 82)] #[65]))) (ty := 4) (dst := some 83) 64 #[Value.pointer b_] (by kernel_rfl) (fun ww => by kernel_rfl) (Calls.mono h ?_)
                      rintro _ w32 ⟨v83, rfl, h⟩
                      refine ⟨_, rfl, ?_⟩
                      refine reg_run [.plain, .plain, .plain] 40 [(85, [], Value.bool v83), (86, [(85, true)], Value.pointer b_)] (by kernel_rfl) (by kernel_rfl) ?_
                      refine reg_split 85 v83 (by kernel_rfl) (fun hb => ?_) (fun hb => ?_)
                      · replace h := h.1 hb
                        refine reg_run [] 40 [(85, [], Value.bool true), (86, [], Value.pointer b_)] (by kernel_rfl) (by kernel_rfl) ?_
                        refine reg_run [] 40 [(85, [], Value.bool true), (86, [], Value.pointer b_)] (by kernel_rfl) (by kernel_rfl) ?_
                        refine reg_enter (op := (Go.Op.call (Go.Call.mk (Go.Callee.value (Go.Operand.func 65)) #[(Go.Operand.tmp 86)] #[65]))) (ty := 4) (dst := some 87) 65 #[Value.pointer b_] (by kernel_rfl) (fun ww => by kernel_rfl) (Calls.mono h ?_)
                        rintro _ w33 ⟨v87, rfl, h⟩
                        refine ⟨_, rfl, ?_⟩
                        refine reg_run [.plain, .plain] 43 [(2, [], Value.bool v87)] (by kernel_rfl) (by kernel_rfl) ?_
                        refine reg_end [(2, Value.bool v87)] (by kernel_rfl) (by kernel_rfl) ?_
                        change WpE _ _ c_towpathlaw01_Book_Apart_72 _ _ _
                        refine wpE_ret (by kernel_rfl) ?_
                        repeat (first | refine seqQ_ret ?_ | refine blockQ_ret ?_ | refine loopQ_ret ?_ | refine cutQ_ret ?_)
                        exact retS (rs := [(Go.ResultVar.tmp 2)]) (v := Value.bool v87) (by kernel_rfl) (⟨by kernel_rfl, trivial⟩) ⟨v87, rfl, h⟩
                      · replace h := h.2 hb
                        refine reg_run [] 40 [(85, [], Value.bool false), (86, [], undef)] (by kernel_rfl) (by kernel_rfl) ?_
                        refine reg_run [.skip, .plain, .plain] 43 [(2, [], Value.bool false)] (by kernel_rfl) (by kernel_rfl) ?_
                        refine reg_end [(2, Value.bool false)] (by kernel_rfl) (by kernel_rfl) ?_
                        change WpE _ _ c_towpathlaw01_Book_Apart_72 _ _ _
                        refine wpE_ret (by kernel_rfl) ?_
                        repeat (first | refine seqQ_ret ?_ | refine blockQ_ret ?_ | refine loopQ_ret ?_ | refine cutQ_ret ?_)
                        exact retS (rs := [(Go.ResultVar.tmp 2)]) (v := Value.bool false) (by kernel_rfl) (⟨by kernel_rfl, trivial⟩) ⟨false, rfl, h⟩
                    · replace h := h.2 hb
                      refine reg_run [] 36 [(0, [], Value.pointer b_), (81, [], Value.bool false), (82, [], undef)] (by kernel_rfl) (by kernel_rfl) ?_
                      refine reg_run [.skip, .plain, .plain, .skip, .skip, .plain, .plain] 43 [(2, [], Value.bool false)] (by kernel_rfl) (by kernel_rfl) ?_
                      refine reg_end [(2, Value.bool false)] (by kernel_rfl) (by kernel_rfl) ?_
                      change WpE _ _ c_towpathlaw01_Book_Apart_72 _ _ _
                      refine wpE_ret (by kernel_rfl) ?_
                      repeat (first | refine seqQ_ret ?_ | refine blockQ_ret ?_ | refine loopQ_ret ?_ | refine cutQ_ret ?_)
                      exact retS (rs := [(Go.ResultVar.tmp 2)]) (v := Value.bool false) (by kernel_rfl) (⟨by kernel_rfl, trivial⟩) ⟨false, rfl, h⟩
                  · replace h := h.2 hb
                    refine reg_run [] 32 [(0, [], Value.pointer b_), (77, [], Value.bool false), (78, [], undef)] (by kernel_rfl) (by kernel_rfl) ?_
                    refine reg_run [.skip, .plain, .plain, .skip, .skip, .plain, .plain, .skip, .skip, .plain, .plain] 43 [(2, [], Value.bool false)] (by kernel_rfl) (by kernel_rfl) ?_
                    refine reg_end [(2, Value.bool false)] (by kernel_rfl) (by kernel_rfl) ?_
                    change WpE _ _ c_towpathlaw01_Book_Apart_72 _ _ _
                    refine wpE_ret (by kernel_rfl) ?_
                    repeat (first | refine seqQ_ret ?_ | refine blockQ_ret ?_ | refine loopQ_ret ?_ | refine cutQ_ret ?_)
                    exact retS (rs := [(Go.ResultVar.tmp 2)]) (v := Value.bool false) (by kernel_rfl) (⟨by kernel_rfl, trivial⟩) ⟨false, rfl, h⟩
                · replace h := h.2 hb
                  refine reg_run [] 28 [(0, [], Value.pointer b_), (73, [], Value.bool false), (74, [], undef)] (by kernel_rfl) (by kernel_rfl) ?_
                  refine reg_run [.skip, .plain, .plain, .skip, .skip, .plain, .plain, .skip, .skip, .plain, .plain, .skip, .skip, .plain, .plain] 43 [(2, [], Value.bool false)] (by kernel_rfl) (by kernel_rfl) ?_
                  refine reg_end [(2, Value.bool false)] (by kernel_rfl) (by kernel_rfl) ?_
                  change WpE _ _ c_towpathlaw01_Book_Apart_72 _ _ _
                  refine wpE_ret (by kernel_rfl) ?_
                  repeat (first | refine seqQ_ret ?_ | refine blockQ_ret ?_ | refine loopQ_ret ?_ | refine cutQ_ret ?_)
                  exact retS (rs := [(Go.ResultVar.tmp 2)]) (v := Value.bool false) (by kernel_rfl) (⟨by kernel_rfl, trivial⟩) ⟨false, rfl, h⟩
              · replace h := h.2 hb
                refine reg_run [] 24 [(0, [], Value.pointer b_), (69, [], Value.bool false), (70, [], undef)] (by kernel_rfl) (by kernel_rfl) ?_
                refine reg_run [.skip, .plain, .plain, .skip, .skip, .plain, .plain, .skip, .skip, .plain, .plain, .skip, .skip, .plain, .plain, .skip, .skip, .plain, .plain] 43 [(2, [], Value.bool false)] (by kernel_rfl) (by kernel_rfl) ?_
                refine reg_end [(2, Value.bool false)] (by kernel_rfl) (by kernel_rfl) ?_
                change WpE _ _ c_towpathlaw01_Book_Apart_72 _ _ _
                refine wpE_ret (by kernel_rfl) ?_
                repeat (first | refine seqQ_ret ?_ | refine blockQ_ret ?_ | refine loopQ_ret ?_ | refine cutQ_ret ?_)
                exact retS (rs := [(Go.ResultVar.tmp 2)]) (v := Value.bool false) (by kernel_rfl) (⟨by kernel_rfl, trivial⟩) ⟨false, rfl, h⟩
            · replace h := h.2 hb
              refine reg_run [] 20 [(0, [], Value.pointer b_), (65, [], Value.bool false), (66, [], undef)] (by kernel_rfl) (by kernel_rfl) ?_
              refine reg_run [.skip, .plain, .plain, .skip, .skip, .plain, .plain, .skip, .skip, .plain, .plain, .skip, .skip, .plain, .plain, .skip, .skip, .plain, .plain, .skip, .skip, .plain, .plain] 43 [(2, [], Value.bool false)] (by kernel_rfl) (by kernel_rfl) ?_
              refine reg_end [(2, Value.bool false)] (by kernel_rfl) (by kernel_rfl) ?_
              change WpE _ _ c_towpathlaw01_Book_Apart_72 _ _ _
              refine wpE_ret (by kernel_rfl) ?_
              repeat (first | refine seqQ_ret ?_ | refine blockQ_ret ?_ | refine loopQ_ret ?_ | refine cutQ_ret ?_)
              exact retS (rs := [(Go.ResultVar.tmp 2)]) (v := Value.bool false) (by kernel_rfl) (⟨by kernel_rfl, trivial⟩) ⟨false, rfl, h⟩
          · replace h := h.2 hb
            refine reg_run [] 16 [(0, [], Value.pointer b_), (61, [], Value.bool false), (62, [], undef)] (by kernel_rfl) (by kernel_rfl) ?_
            refine reg_run [.skip, .plain, .plain, .skip, .skip, .plain, .plain, .skip, .skip, .plain, .plain, .skip, .skip, .plain, .plain, .skip, .skip, .plain, .plain, .skip, .skip, .plain, .plain, .skip, .skip, .plain, .plain] 43 [(2, [], Value.bool false)] (by kernel_rfl) (by kernel_rfl) ?_
            refine reg_end [(2, Value.bool false)] (by kernel_rfl) (by kernel_rfl) ?_
            change WpE _ _ c_towpathlaw01_Book_Apart_72 _ _ _
            refine wpE_ret (by kernel_rfl) ?_
            repeat (first | refine seqQ_ret ?_ | refine blockQ_ret ?_ | refine loopQ_ret ?_ | refine cutQ_ret ?_)
            exact retS (rs := [(Go.ResultVar.tmp 2)]) (v := Value.bool false) (by kernel_rfl) (⟨by kernel_rfl, trivial⟩) ⟨false, rfl, h⟩
        · replace h := h.2 hb
          refine reg_run [] 12 [(0, [], Value.pointer b_), (57, [], Value.bool false), (58, [], undef)] (by kernel_rfl) (by kernel_rfl) ?_
          refine reg_run [.skip, .plain, .plain, .skip, .skip, .plain, .plain, .skip, .skip, .plain, .plain, .skip, .skip, .plain, .plain, .skip, .skip, .plain, .plain, .skip, .skip, .plain, .plain, .skip, .skip, .plain, .plain, .skip, .skip, .plain, .plain] 43 [(2, [], Value.bool false)] (by kernel_rfl) (by kernel_rfl) ?_
          refine reg_end [(2, Value.bool false)] (by kernel_rfl) (by kernel_rfl) ?_
          change WpE _ _ c_towpathlaw01_Book_Apart_72 _ _ _
          refine wpE_ret (by kernel_rfl) ?_
          repeat (first | refine seqQ_ret ?_ | refine blockQ_ret ?_ | refine loopQ_ret ?_ | refine cutQ_ret ?_)
          exact retS (rs := [(Go.ResultVar.tmp 2)]) (v := Value.bool false) (by kernel_rfl) (⟨by kernel_rfl, trivial⟩) ⟨false, rfl, h⟩
      · replace h := h.2 hb
        refine reg_run [] 8 [(0, [], Value.pointer b_), (53, [], Value.bool false), (54, [], undef)] (by kernel_rfl) (by kernel_rfl) ?_
        refine reg_run [.skip, .plain, .plain, .skip, .skip, .plain, .plain, .skip, .skip, .plain, .plain, .skip, .skip, .plain, .plain, .skip, .skip, .plain, .plain, .skip, .skip, .plain, .plain, .skip, .skip, .plain, .plain, .skip, .skip, .plain, .plain, .skip, .skip, .plain, .plain] 43 [(2, [], Value.bool false)] (by kernel_rfl) (by kernel_rfl) ?_
        refine reg_end [(2, Value.bool false)] (by kernel_rfl) (by kernel_rfl) ?_
        change WpE _ _ c_towpathlaw01_Book_Apart_72 _ _ _
        refine wpE_ret (by kernel_rfl) ?_
        repeat (first | refine seqQ_ret ?_ | refine blockQ_ret ?_ | refine loopQ_ret ?_ | refine cutQ_ret ?_)
        exact retS (rs := [(Go.ResultVar.tmp 2)]) (v := Value.bool false) (by kernel_rfl) (⟨by kernel_rfl, trivial⟩) ⟨false, rfl, h⟩
    · replace h := h.2 hb
      refine reg_run [] 4 [(0, [], Value.pointer b_), (49, [], Value.bool false), (50, [], undef)] (by kernel_rfl) (by kernel_rfl) ?_
      refine reg_run [.skip, .plain, .plain, .skip, .skip, .plain, .plain, .skip, .skip, .plain, .plain, .skip, .skip, .plain, .plain, .skip, .skip, .plain, .plain, .skip, .skip, .plain, .plain, .skip, .skip, .plain, .plain, .skip, .skip, .plain, .plain, .skip, .skip, .plain, .plain, .skip, .skip, .plain, .plain] 43 [(2, [], Value.bool false)] (by kernel_rfl) (by kernel_rfl) ?_
      refine reg_end [(2, Value.bool false)] (by kernel_rfl) (by kernel_rfl) ?_
      change WpE _ _ c_towpathlaw01_Book_Apart_72 _ _ _
      refine wpE_ret (by kernel_rfl) ?_
      repeat (first | refine seqQ_ret ?_ | refine blockQ_ret ?_ | refine loopQ_ret ?_ | refine cutQ_ret ?_)
      exact retS (rs := [(Go.ResultVar.tmp 2)]) (v := Value.bool false) (by kernel_rfl) (⟨by kernel_rfl, trivial⟩) ⟨false, rfl, h⟩
  · rintro e w' ⟨v, rfl, r0, rfl, h⟩; exact ⟨r0, rfl, h⟩

/-! ### towpath/towpathlaw01.TwinBytes (function 12) -/
noncomputable def c_towpathlaw01_TwinBytes_0 : Code := (Tryz.f12.body).getD Code.skip
noncomputable def c_towpathlaw01_TwinBytes_1 : Code := Code.l c_towpathlaw01_TwinBytes_0
noncomputable def r_towpathlaw01_TwinBytes_1 : Array Oper := Code.ops c_towpathlaw01_TwinBytes_1
noncomputable def c_towpathlaw01_TwinBytes_3 : Code := Code.r c_towpathlaw01_TwinBytes_0
noncomputable def c_towpathlaw01_TwinBytes_4 : Code := Code.l c_towpathlaw01_TwinBytes_3
noncomputable def r_towpathlaw01_TwinBytes_4 : Array Oper := Code.ops c_towpathlaw01_TwinBytes_4
noncomputable def c_towpathlaw01_TwinBytes_6 : Code := Code.r c_towpathlaw01_TwinBytes_3
noncomputable def c_towpathlaw01_TwinBytes_7 : Code := Code.l c_towpathlaw01_TwinBytes_6
noncomputable def c_towpathlaw01_TwinBytes_8 : Code := Code.l c_towpathlaw01_TwinBytes_7
noncomputable def r_towpathlaw01_TwinBytes_8 : Array Oper := Code.ops c_towpathlaw01_TwinBytes_8
noncomputable def c_towpathlaw01_TwinBytes_10 : Code := Code.r c_towpathlaw01_TwinBytes_7
noncomputable def c_towpathlaw01_TwinBytes_11 : Code := Code.l c_towpathlaw01_TwinBytes_10
noncomputable def c_towpathlaw01_TwinBytes_12 : Code := Code.l c_towpathlaw01_TwinBytes_11
noncomputable def c_towpathlaw01_TwinBytes_13 : Code := Code.l c_towpathlaw01_TwinBytes_12
noncomputable def c_towpathlaw01_TwinBytes_14 : Code := Code.l c_towpathlaw01_TwinBytes_13
noncomputable def r_towpathlaw01_TwinBytes_14 : Array Oper := Code.ops c_towpathlaw01_TwinBytes_14
noncomputable def c_towpathlaw01_TwinBytes_16 : Code := Code.r c_towpathlaw01_TwinBytes_13
noncomputable def c_towpathlaw01_TwinBytes_17 : Code := Code.l c_towpathlaw01_TwinBytes_16
noncomputable def c_towpathlaw01_TwinBytes_18 : Code := Code.r c_towpathlaw01_TwinBytes_16
noncomputable def c_towpathlaw01_TwinBytes_19 : Code := Code.r c_towpathlaw01_TwinBytes_12
noncomputable def c_towpathlaw01_TwinBytes_20 : Code := Code.l c_towpathlaw01_TwinBytes_19
noncomputable def c_towpathlaw01_TwinBytes_21 : Code := Code.l c_towpathlaw01_TwinBytes_20
noncomputable def r_towpathlaw01_TwinBytes_21 : Array Oper := Code.ops c_towpathlaw01_TwinBytes_21
noncomputable def c_towpathlaw01_TwinBytes_23 : Code := Code.r c_towpathlaw01_TwinBytes_19
noncomputable def r_towpathlaw01_TwinBytes_23 : Array Oper := Code.ops c_towpathlaw01_TwinBytes_23
noncomputable def c_towpathlaw01_TwinBytes_25 : Code := Code.r c_towpathlaw01_TwinBytes_6
noncomputable def c_towpathlaw01_TwinBytes_26 : Code := Code.l c_towpathlaw01_TwinBytes_25
noncomputable def r_towpathlaw01_TwinBytes_26 : Array Oper := Code.ops c_towpathlaw01_TwinBytes_26
noncomputable def c_towpathlaw01_TwinBytes_28 : Code := Code.r c_towpathlaw01_TwinBytes_25

set_option maxRecDepth 100000 in
set_option maxHeartbeats 4000000 in
theorem S_towpathlaw01_TwinBytes {l_ : Slc} {w : World} {R : Slc → World → Prop} (h : F_towpathlaw01_TwinBytes l_ R w) : C_towpathlaw01_TwinBytes l_ w R := by
  unfold F_towpathlaw01_TwinBytes at h
  unfold C_towpathlaw01_TwinBytes
  refine Calls.mono (calls_of_wpE (args := [Value.slice l_.ptr l_.len l_.cap]) (R := fun v w' => ∃ (r0 : Slc), v = Value.slice r0.ptr r0.len r0.cap ∧ R r0 w') Tryz.func12 (c := c_towpathlaw01_TwinBytes_0) (by kernel_rfl) 28 (by kernel_rfl) (by kernel_rfl) [(0, Value.slice l_.ptr l_.len l_.cap)] (by kernel_rfl) ?_) ?_
  · refine wpE_seq (x := c_towpathlaw01_TwinBytes_1) (y := c_towpathlaw01_TwinBytes_3) (by kernel_rfl) ?_
    refine wpE_region (id := 0) (ops := r_towpathlaw01_TwinBytes_1) (by kernel_rfl) ?_
    refine reg_run [.plain] 1 [(0, [], Value.slice l_.ptr l_.len l_.cap)] (by kernel_rfl) (by kernel_rfl) ?_
    refine reg_end [(0, Value.slice l_.ptr l_.len l_.cap)] (by kernel_rfl) (by kernel_rfl) ?_
    change WpE _ _ c_towpathlaw01_TwinBytes_3 _ _ _
    refine wpE_seq (x := c_towpathlaw01_TwinBytes_4) (y := c_towpathlaw01_TwinBytes_6) (by kernel_rfl) ?_
    refine wpE_region (id := 1) (ops := r_towpathlaw01_TwinBytes_4) (by kernel_rfl) ?_
    refine reg_run [.plain, .plain, .plain] 3 [(0, [], Value.slice l_.ptr l_.len l_.cap), (7, [], Value.int .i64 (IntKind.i64.wrap (((l_.len : Nat) : Int) + 1)))] (by kernel_rfl) (by kernel_rfl) ?_
    obtain ⟨h0, h1, h2, h⟩ := h
    refine reg_makeSlice (t := 45) (e := 5) (lo := (Go.Operand.const (Go.Value.int Go.IntKind.i64 0))) (co := (Go.Operand.tmp 7)) (l := 0) (c := (IntKind.i64.wrap (((l_.len : Nat) : Int) + 1))) (sz := 1) (by_ := 1) (zs := [Value.int .u8 0]) (ty := 45) (dst := some 8) (by kernel_rfl) (by kernel_rfl) (by kernel_rfl) (by kernel_rfl) (by kernel_rfl) (by kernel_rfl) (by kernel_rfl) (by kernel_rfl) (by kernel_rfl) h0 h1 h2 (fun b_ w1 hb hw => ?_)
    replace h := h b_ w1 hb hw
    clear hb hw
    refine reg_run [.plain] 5 [(0, [], Value.slice l_.ptr l_.len l_.cap), (3, [], Value.slice (some ⟨b_, 0, none⟩) 0 ((IntKind.i64.wrap (((l_.len : Nat) : Int) + 1)).toNat))] (by kernel_rfl) (by kernel_rfl) ?_
    refine reg_end [(0, Value.slice l_.ptr l_.len l_.cap), (3, Value.slice (some ⟨b_, 0, none⟩) 0 ((IntKind.i64.wrap (((l_.len : Nat) : Int) + 1)).toNat))] (by kernel_rfl) (by kernel_rfl) ?_
    change WpE _ _ c_towpathlaw01_TwinBytes_6 _ _ _
    refine wpE_seq (x := c_towpathlaw01_TwinBytes_7) (y := c_towpathlaw01_TwinBytes_25) (by kernel_rfl) ?_
    refine wpE_seq (x := c_towpathlaw01_TwinBytes_8) (y := c_towpathlaw01_TwinBytes_10) (by kernel_rfl) ?_
    refine wpE_region (id := 2) (ops := r_towpathlaw01_TwinBytes_8) (by kernel_rfl) ?_
    refine reg_run [.plain] 1 [(0, [], Value.slice l_.ptr l_.len l_.cap), (3, [], Value.slice (some ⟨b_, 0, none⟩) 0 ((IntKind.i64.wrap (((l_.len : Nat) : Int) + 1)).toNat)), (4, [], Value.int .i64 0)] (by kernel_rfl) (by kernel_rfl) ?_
    refine reg_end [(0, Value.slice l_.ptr l_.len l_.cap), (3, Value.slice (some ⟨b_, 0, none⟩) 0 ((IntKind.i64.wrap (((l_.len : Nat) : Int) + 1)).toNat)), (4, Value.int .i64 0)] (by kernel_rfl) (by kernel_rfl) ?_
    change WpE _ _ c_towpathlaw01_TwinBytes_10 _ _ _
    refine wpE_block (id := 0) (x := c_towpathlaw01_TwinBytes_11) (by kernel_rfl) ?_
    obtain ⟨I, μ, h0, hr⟩ := h
    refine wpE_loop (x := c_towpathlaw01_TwinBytes_12) (by kernel_rfl) (fun m l w => ∃ (t_ : Slc) (i : Int), l = [(0, Value.slice l_.ptr l_.len l_.cap), (3, Value.slice t_.ptr t_.len t_.cap), (4, Value.int .i64 i)] ∧ I t_ i w ∧ μ t_ i w = m) (l' := [(0, Value.slice l_.ptr l_.len l_.cap), (3, Value.slice (some ⟨b_, 0, none⟩) 0 ((IntKind.i64.wrap (((l_.len : Nat) : Int) + 1)).toNat)), (4, Value.int .i64 0)]) (Sub.mk (by kernel_rfl)) ⟨(Slc.mk (some ⟨b_, 0, none⟩) 0 ((IntKind.i64.wrap (((l_.len : Nat) : Int) + 1)).toNat)), 0, rfl, h0, rfl⟩ ?_
    rintro _ _ w2 ⟨t_, i, rfl, hI, rfl⟩
    obtain ⟨again_, again__h, h⟩ : ∃ again_ : Slc → Int → World → Prop, (∀ t_' i' w', again_ t_' i' w' → I t_' i' w' ∧ μ t_' i' w' < μ t_ i w2) ∧ F_towpathlaw01_TwinBytes_L0 l_ R again_ t_ i w2 := ⟨_, fun _ _ _ h => h, hr t_ i w2 hI⟩
    clear h0 hI
    unfold F_towpathlaw01_TwinBytes_L0 at h
    refine wpE_seq (x := c_towpathlaw01_TwinBytes_13) (y := c_towpathlaw01_TwinBytes_19) (by kernel_rfl) ?_
    refine wpE_seq (x := c_towpathlaw01_TwinBytes_14) (y := c_towpathlaw01_TwinBytes_16) (by kernel_rfl) ?_
    refine wpE_region (id := 3) (ops := r_towpathlaw01_TwinBytes_14) (by kernel_rfl) ?_
    refine reg_run [.plain, .plain, .plain, .plain] 4 [(0, [], Value.slice l_.ptr l_.len l_.cap), (3, [], Value.slice t_.ptr t_.len t_.cap), (4, [], Value.int .i64 i), (12, [], Value.bool (decide (i < ((l_.len : Nat) : Int))))] (by kernel_rfl) (by kernel_rfl) ?_
    refine reg_end [(0, Value.slice l_.ptr l_.len l_.cap), (3, Value.slice t_.ptr t_.len t_.cap), (4, Value.int .i64 i), (12, Value.bool (decide (i < ((l_.len : Nat) : Int))))] (by kernel_rfl) (by kernel_rfl) ?_
    change WpE _ _ c_towpathlaw01_TwinBytes_16 _ _ _
    refine wpE_cond (o := (Operand.tmp 12)) (b := (decide (i < ((l_.len : Nat) : Int)))) (x := c_towpathlaw01_TwinBytes_17) (y := c_towpathlaw01_TwinBytes_18) (by kernel_rfl) (by kernel_rfl) (fun hb => ?_) (fun hb => ?_)
    · replace h := h.1 hb
      refine wpE_skip (by kernel_rfl) ?_
      change WpE _ _ c_towpathlaw01_TwinBytes_19 _ _ _
      refine wpE_seq (x := c_towpathlaw01_TwinBytes_20) (y := c_towpathlaw01_TwinBytes_23) (by kernel_rfl) ?_
      refine wpE_block (id := 1) (x := c_towpathlaw01_TwinBytes_21) (by kernel_rfl) ?_
      refine wpE_region (id := 5) (ops := r_towpathlaw01_TwinBytes_21) (by kernel_rfl) ?_
      refine reg_run [.plain, .plain, .plain] 3 [(0, [], Value.slice l_.ptr l_.len l_.cap), (3, [], Value.slice t_.ptr t_.len t_.cap), (4, [], Value.int .i64 i), (15, [], Value.slice t_.ptr t_.len t_.cap), (16, [], Value.slice l_.ptr l_.len l_.cap), (17, [], Value.int .i64 i)] (by kernel_rfl) (by kernel_rfl) ?_
      obtain ⟨hp_3, h⟩ := h
      refine reg_conv [(0, [], Value.slice l_.ptr l_.len l_.cap), (3, [], Value.slice t_.ptr t_.len t_.cap), (4, [], Value.int .i64 i), (15, [], Value.slice t_.ptr t_.len t_.cap), (16, [], Value.slice (some ⟨(pblk l_.ptr), (poff l_.ptr), none⟩) l_.len l_.cap), (17, [], Value.int .i64 i)] (congrArg (fun pp => ([(0, [], Value.slice l_.ptr l_.len l_.cap), (3, [], Value.slice t_.ptr t_.len t_.cap), (4, [], Value.int .i64 i), (15, [], Value.slice t_.ptr t_.len t_.cap), (16, [], Value.slice pp l_.len l_.cap), (17, [], Value.int .i64 i)] : GEnv)) hp_3) ?_
      obtain ⟨h0, h1, h⟩ := h
      refine reg_indexS1 (t := 45) (e := 5) (x := (Go.Operand.tmp 16)) (ix := (Go.Operand.tmp 17)) (b := (pblk l_.ptr)) (o := (poff l_.ptr)) (l := l_.len) (c := l_.cap) (k := .i64) (j := i) (ty := 0) (dst := some 18) (by kernel_rfl) (by kernel_rfl) (by kernel_rfl) (by kernel_rfl) (by kernel_rfl) h0 h1 ?_
      refine reg_run [] 4 [(0, [], Value.slice l_.ptr l_.len l_.cap), (3, [], Value.slice t_.ptr t_.len t_.cap), (4, [], Value.int .i64 i), (15, [], Value.slice t_.ptr t_.len t_.cap), (18, [], Value.pointer (some ⟨(pblk l_.ptr), (poff l_.ptr) + i.toNat, none⟩))] (by kernel_rfl) (by kernel_rfl) ?_
      obtain ⟨v19, hc, h⟩ := h
      refine reg_load1 (t := 5) (a := (Go.Operand.tmp 18)) (b := (pblk l_.ptr)) (o := ((poff l_.ptr) + i.toNat)) (ty := 5) (dst := some 19) (by kernel_rfl) (by kernel_rfl) (by kernel_rfl) hc ?_
      refine reg_run [] 5 [(0, [], Value.slice l_.ptr l_.len l_.cap), (3, [], Value.slice t_.ptr t_.len t_.cap), (4, [], Value.int .i64 i), (15, [], Value.slice t_.ptr t_.len t_.cap), (19, [], Value.int .u8 v19)] (by kernel_rfl) (by kernel_rfl) ?_
      refine reg_new (op := (Go.Op.buildSlice 45 1 #[(0, (Go.Operand.tmp 19))])) (ty := 45) (dst := some 20) (fun bb => Value.slice (some ⟨bb, 0, none⟩) 1 1) (Obj.cells ([Value.int .u8 v19]).toArray ty_uint8 (0, 0)) (by kernel_rfl) (by kernel_rfl) (fun b_1 w3 hb hw => ?_)
      replace h := h b_1 w3 hb hw
      clear hb hw
      refine reg_run [] 6 [(0, [], Value.slice l_.ptr l_.len l_.cap), (3, [], Value.slice t_.ptr t_.len t_.cap), (4, [], Value.int .i64 i), (15, [], Value.slice t_.ptr t_.len t_.cap), (20, [], Value.slice (some ⟨b_1, 0, none⟩) 1 1)] (by kernel_rfl) (by kernel_rfl) ?_
      obtain ⟨src, hs, h⟩ := h
      refine reg_append (t := 45) (tx := 45) (e := 5) (a := (Go.Operand.tmp 15)) (xo := (Go.Operand.tmp 20)) (s := t_) (x := (Slc.mk (some ⟨b_1, 0, none⟩) 1 1)) (sz := 1) (by_ := 1) (zs := [Value.int .u8 0]) (ty := 45) (dst := some 21)  src (by kernel_rfl) (by kernel_rfl) (by kernel_rfl) (by kernel_rfl) (by kernel_rfl) (by kernel_rfl) (by kernel_rfl) (by kernel_rfl) (by kernel_rfl) hs (AppendW.mono h (fun t_1 w4 h => ?_))
      refine reg_run [.plain] 8 [(0, [], Value.slice l_.ptr l_.len l_.cap), (3, [], Value.slice t_1.ptr t_1.len t_1.cap), (4, [], Value.int .i64 i)] (by kernel_rfl) (by kernel_rfl) ?_
      refine reg_end [(0, Value.slice l_.ptr l_.len l_.cap), (3, Value.slice t_1.ptr t_1.len t_1.cap), (4, Value.int .i64 i)] (by kernel_rfl) (by kernel_rfl) ?_
      change WpE _ _ c_towpathlaw01_TwinBytes_23 _ _ _
      refine wpE_region (id := 4) (ops := r_towpathlaw01_TwinBytes_23) (by kernel_rfl) ?_
      refine reg_run [.plain, .plain, .plain] 3 [(0, [], Value.slice l_.ptr l_.len l_.cap), (3, [], Value.slice t_1.ptr t_1.len t_1.cap), (4, [], Value.int .i64 (IntKind.i64.wrap (i + 1)))] (by kernel_rfl) (by kernel_rfl) ?_
      refine reg_end [(0, Value.slice l_.ptr l_.len l_.cap), (3, Value.slice t_1.ptr t_1.len t_1.cap), (4, Value.int .i64 (IntKind.i64.wrap (i + 1)))] (by kernel_rfl) (by kernel_rfl) ?_
      have hb_ := again__h _ _ _ h
      exact ⟨_, hb_.2, [(0, Value.slice l_.ptr l_.len l_.cap), (3, Value.slice t_1.ptr t_1.len t_1.cap), (4, Value.int .i64 (IntKind.i64.wrap (i + 1)))], Sub.mk (by kernel_rfl), t_1, (IntKind.i64.wrap (i + 1)), rfl, hb_.1, rfl⟩
    · replace h := h.2 hb
      refine wpE_exit (id := 0) (by kernel_rfl) ?_
      change WpE _ _ c_towpathlaw01_TwinBytes_25 _ _ _
      refine wpE_seq (x := c_towpathlaw01_TwinBytes_26) (y := c_towpathlaw01_TwinBytes_28) (by kernel_rfl) ?_
      refine wpE_region (id := 6) (ops := r_towpathlaw01_TwinBytes_26) (by kernel_rfl) ?_
      refine reg_run [.plain] 1 [(0, [], Value.slice l_.ptr l_.len l_.cap), (22, [], Value.slice t_.ptr t_.len t_.cap)] (by kernel_rfl) (by kernel_rfl) ?_
      refine reg_new (op := (Go.Op.buildSlice 45 1 #[(0, (Go.Operand.const (Go.Value.int Go.IntKind.u8 77)))])) (ty := 45) (dst := some 23) (fun bb => Value.slice (some ⟨bb, 0, none⟩) 1 1) (Obj.cells ([Value.int .u8 77]).toArray ty_uint8 (0, 0)) (by kernel_rfl) (by kernel_rfl) (fun b_2 w5 hb hw => ?_)
      replace h := h b_2 w5 hb hw
      clear hb hw
      refine reg_run [] 2 [(0, [], Value.slice l_.ptr l_.len l_.cap), (22, [], Value.slice t_.ptr t_.len t_.cap), (23, [], Value.slice (some ⟨b_2, 0, none⟩) 1 1)] (by kernel_rfl) (by kernel_rfl) ?_
      obtain ⟨src, hs, h⟩ := h
      refine reg_append (t := 45) (tx := 45) (e := 5) (a := (Go.Operand.tmp 22)) (xo := (Go.Operand.tmp 23)) (s := t_) (x := (Slc.mk (some ⟨b_2, 0, none⟩) 1 1)) (sz := 1) (by_ := 1) (zs := [Value.int .u8 0]) (ty := 45) (dst := some 24)  src (by kernel_rfl) (by kernel_rfl) (by kernel_rfl) (by kernel_rfl) (by kernel_rfl) (by kernel_rfl) (by kernel_rfl) (by kernel_rfl) (by kernel_rfl) hs (AppendW.mono h (fun v24 w6 h => ?_))
      refine reg_run [.plain, .plain] 5 [(24, [], Value.slice v24.ptr v24.len v24.cap), (26, [], Value.int .i64 ((l_.len : Nat) : Int))] (by kernel_rfl) (by kernel_rfl) ?_
      obtain ⟨h0, h1, h⟩ := h
      refine reg_sliceHi (t := 45) (e := 5) (x := (Go.Operand.tmp 24)) (hi := (Go.Operand.tmp 26)) (p := v24.ptr) (l := v24.len) (c := v24.cap) (sz := 1) (k := .i64) (j := ((l_.len : Nat) : Int)) (ty := 45) (dst := some 27) (by kernel_rfl) (by kernel_rfl) (by kernel_rfl) (by kernel_rfl) (by kernel_rfl) h0 h1 ?_
      refine reg_run [.plain] 7 [(2, [], Value.slice v24.ptr (((l_.len : Nat) : Int).toNat) v24.cap)] (by kernel_rfl) (by kernel_rfl) ?_
      refine reg_end [(2, Value.slice v24.ptr (((l_.len : Nat) : Int).toNat) v24.cap)] (by kernel_rfl) (by kernel_rfl) ?_
      change WpE _ _ c_towpathlaw01_TwinBytes_28 _ _ _
      refine wpE_ret (by kernel_rfl) ?_
      repeat (first | refine seqQ_ret ?_ | refine blockQ_ret ?_ | refine loopQ_ret ?_ | refine cutQ_ret ?_)
      exact retS (rs := [(Go.ResultVar.tmp 2)]) (v := Value.slice v24.ptr (((l_.len : Nat) : Int).toNat) v24.cap) (by kernel_rfl) (⟨by kernel_rfl, trivial⟩) ⟨(Slc.mk v24.ptr (((l_.len : Nat) : Int).toNat) v24.cap), rfl, h⟩
  · rintro e w' ⟨v, rfl, r0, rfl, h⟩; exact ⟨r0, rfl, h⟩

/-! ### towpath/towpathlaw01.LeftBytes (function 15) -/
noncomputable def c_towpathlaw01_LeftBytes_0 : Code := (Tryz.f15.body).getD Code.skip
noncomputable def c_towpathlaw01_LeftBytes_1 : Code := Code.l c_towpathlaw01_LeftBytes_0
noncomputable def r_towpathlaw01_LeftBytes_1 : Array Oper := Code.ops c_towpathlaw01_LeftBytes_1
noncomputable def c_towpathlaw01_LeftBytes_3 : Code := Code.r c_towpathlaw01_LeftBytes_0
noncomputable def c_towpathlaw01_LeftBytes_4 : Code := Code.l c_towpathlaw01_LeftBytes_3
noncomputable def c_towpathlaw01_LeftBytes_5 : Code := Code.l c_towpathlaw01_LeftBytes_4
noncomputable def r_towpathlaw01_LeftBytes_5 : Array Oper := Code.ops c_towpathlaw01_LeftBytes_5
noncomputable def c_towpathlaw01_LeftBytes_7 : Code := Code.r c_towpathlaw01_LeftBytes_4
noncomputable def c_towpathlaw01_LeftBytes_8 : Code := Code.l c_towpathlaw01_LeftBytes_7
noncomputable def c_towpathlaw01_LeftBytes_9 : Code := Code.l c_towpathlaw01_LeftBytes_8
noncomputable def r_towpathlaw01_LeftBytes_9 : Array Oper := Code.ops c_towpathlaw01_LeftBytes_9
noncomputable def c_towpathlaw01_LeftBytes_11 : Code := Code.r c_towpathlaw01_LeftBytes_8
noncomputable def c_towpathlaw01_LeftBytes_12 : Code := Code.r c_towpathlaw01_LeftBytes_7
noncomputable def c_towpathlaw01_LeftBytes_13 : Code := Code.r c_towpathlaw01_LeftBytes_3
noncomputable def c_towpathlaw01_LeftBytes_14 : Code := Code.l c_towpathlaw01_LeftBytes_13
noncomputable def c_towpathlaw01_LeftBytes_15 : Code := Code.l c_towpathlaw01_LeftBytes_14
noncomputable def r_towpathlaw01_LeftBytes_15 : Array Oper := Code.ops c_towpathlaw01_LeftBytes_15
noncomputable def c_towpathlaw01_LeftBytes_17 : Code := Code.r c_towpathlaw01_LeftBytes_14
noncomputable def c_towpathlaw01_LeftBytes_18 : Code := Code.l c_towpathlaw01_LeftBytes_17
noncomputable def c_towpathlaw01_LeftBytes_19 : Code := Code.l c_towpathlaw01_LeftBytes_18
noncomputable def c_towpathlaw01_LeftBytes_20 : Code := Code.l c_towpathlaw01_LeftBytes_19
noncomputable def c_towpathlaw01_LeftBytes_21 : Code := Code.l c_towpathlaw01_LeftBytes_20
noncomputable def r_towpathlaw01_LeftBytes_21 : Array Oper := Code.ops c_towpathlaw01_LeftBytes_21
noncomputable def c_towpathlaw01_LeftBytes_23 : Code := Code.r c_towpathlaw01_LeftBytes_20
noncomputable def c_towpathlaw01_LeftBytes_24 : Code := Code.l c_towpathlaw01_LeftBytes_23
noncomputable def c_towpathlaw01_LeftBytes_25 : Code := Code.r c_towpathlaw01_LeftBytes_23
noncomputable def c_towpathlaw01_LeftBytes_26 : Code := Code.r c_towpathlaw01_LeftBytes_19
noncomputable def c_towpathlaw01_LeftBytes_27 : Code := Code.l c_towpathlaw01_LeftBytes_26
noncomputable def c_towpathlaw01_LeftBytes_28 : Code := Code.l c_towpathlaw01_LeftBytes_27
noncomputable def c_towpathlaw01_LeftBytes_29 : Code := Code.l c_towpathlaw01_LeftBytes_28
noncomputable def r_towpathlaw01_LeftBytes_29 : Array Oper := Code.ops c_towpathlaw01_LeftBytes_29
noncomputable def c_towpathlaw01_LeftBytes_31 : Code := Code.r c_towpathlaw01_LeftBytes_28
noncomputable def c_towpathlaw01_LeftBytes_32 : Code := Code.l c_towpathlaw01_LeftBytes_31
noncomputable def c_towpathlaw01_LeftBytes_33 : Code := Code.l c_towpathlaw01_LeftBytes_32
noncomputable def r_towpathlaw01_LeftBytes_33 : Array Oper := Code.ops c_towpathlaw01_LeftBytes_33
noncomputable def c_towpathlaw01_LeftBytes_35 : Code := Code.r c_towpathlaw01_LeftBytes_32
noncomputable def c_towpathlaw01_LeftBytes_36 : Code := Code.r c_towpathlaw01_LeftBytes_31
noncomputable def c_towpathlaw01_LeftBytes_37 : Code := Code.r c_towpathlaw01_LeftBytes_26
noncomputable def r_towpathlaw01_LeftBytes_37 : Array Oper := Code.ops c_towpathlaw01_LeftBytes_37
noncomputable def c_towpathlaw01_LeftBytes_39 : Code := Code.r c_towpathlaw01_LeftBytes_13
noncomputable def c_towpathlaw01_LeftBytes_40 : Code := Code.l c_towpathlaw01_LeftBytes_39
noncomputable def r_towpathlaw01_LeftBytes_40 : Array Oper := Code.ops c_towpathlaw01_LeftBytes_40
noncomputable def c_towpathlaw01_LeftBytes_42 : Code := Code.r c_towpathlaw01_LeftBytes_39
noncomputable def c_towpathlaw01_LeftBytes_43 : Code := Code.l c_towpathlaw01_LeftBytes_42
noncomputable def r_towpathlaw01_LeftBytes_43 : Array Oper := Code.ops c_towpathlaw01_LeftBytes_43
noncomputable def c_towpathlaw01_LeftBytes_45 : Code := Code.r c_towpathlaw01_LeftBytes_42

set_option maxRecDepth 100000 in
set_option maxHeartbeats 4000000 in
theorem S_towpathlaw01_LeftBytes {t_ : Slc} {l_ : Slc} {w : World} {R : Bool → World → Prop} (h : F_towpathlaw01_LeftBytes t_ l_ R w) : C_towpathlaw01_LeftBytes t_ l_ w R := by
  unfold F_towpathlaw01_LeftBytes at h
  unfold C_towpathlaw01_LeftBytes
  refine Calls.mono (calls_of_wpE (args := [Value.slice t_.ptr t_.len t_.cap, Value.slice l_.ptr l_.len l_.cap]) (R := fun v w' => ∃ (r0 : Bool), v = Value.bool r0 ∧ R r0 w') Tryz.func15 (c := c_towpathlaw01_LeftBytes_0) (by kernel_rfl) 45 (by kernel_rfl) (by kernel_rfl) [(0, Value.slice t_.ptr t_.len t_.cap), (1, Value.slice l_.ptr l_.len l_.cap)] (by kernel_rfl) ?_) ?_
  · refine wpE_seq (x := c_towpathlaw01_LeftBytes_1) (y := c_towpathlaw01_LeftBytes_3) (by kernel_rfl) ?_
    refine wpE_region (id := 0) (ops := r_towpathlaw01_LeftBytes_1) (by kernel_rfl) ?_
    refine reg_run [.plain] 1 [(0, [], Value.slice t_.ptr t_.len t_.cap), (1, [], Value.slice l_.ptr l_.len l_.cap)] (by kernel_rfl) (by kernel_rfl) ?_
    refine reg_end [(0, Value.slice t_.ptr t_.len t_.cap), (1, Value.slice l_.ptr l_.len l_.cap)] (by kernel_rfl) (by kernel_rfl) ?_
    change WpE _ _ c_towpathlaw01_LeftBytes_3 _ _ _
    refine wpE_seq (x := c_towpathlaw01_LeftBytes_4) (y := c_towpathlaw01_LeftBytes_13) (by kernel_rfl) ?_
    refine wpE_seq (x := c_towpathlaw01_LeftBytes_5) (y := c_towpathlaw01_LeftBytes_7) (by kernel_rfl) ?_
    refine wpE_region (id := 1) (ops := r_towpathlaw01_LeftBytes_5) (by kernel_rfl) ?_
    refine reg_run [.plain, .plain, .plain, .plain, .plain, .plain, .plain, .plain, .plain, .plain, .plain, .pick] 12 [(0, [], Value.slice t_.ptr t_.len t_.cap), (1, [], Value.slice l_.ptr l_.len l_.cap), (18, [], Value.bool ((((t_.len : Nat) : Int) != ((l_.len : Nat) : Int)) || (decide (((t_.cap : Nat) : Int) ≤ ((l_.len : Nat) : Int)))))] (by kernel_rfl) (by kernel_rfl) ?_
    refine reg_end [(0, Value.slice t_.ptr t_.len t_.cap), (1, Value.slice l_.ptr l_.len l_.cap), (18, Value.bool ((((t_.len : Nat) : Int) != ((l_.len : Nat) : Int)) || (decide (((t_.cap : Nat) : Int) ≤ ((l_.len : Nat) : Int)))))] (by kernel_rfl) (by kernel_rfl) ?_
    change WpE _ _ c_towpathlaw01_LeftBytes_7 _ _ _
    refine wpE_cond (o := (Operand.tmp 18)) (b := ((((t_.len : Nat) : Int) != ((l_.len : Nat) : Int)) || (decide (((t_.cap : Nat) : Int) ≤ ((l_.len : Nat) : Int))))) (x := c_towpathlaw01_LeftBytes_8) (y := c_towpathlaw01_LeftBytes_12) (by kernel_rfl) (by kernel_rfl) (fun hb => ?_) (fun hb => ?_)
    · replace h := h.1 hb
      refine wpE_seq (x := c_towpathlaw01_LeftBytes_9) (y := c_towpathlaw01_LeftBytes_11) (by kernel_rfl) ?_
      refine wpE_region (id := 2) (ops := r_towpathlaw01_LeftBytes_9) (by kernel_rfl) ?_
      refine reg_run [.plain] 1 [(4, [], Value.bool false)] (by kernel_rfl) (by kernel_rfl) ?_
      refine reg_end [(4, Value.bool false)] (by kernel_rfl) (by kernel_rfl) ?_
      change WpE _ _ c_towpathlaw01_LeftBytes_11 _ _ _
      refine wpE_ret (by kernel_rfl) ?_
      repeat (first | refine seqQ_ret ?_ | refine blockQ_ret ?_ | refine loopQ_ret ?_ | refine cutQ_ret ?_)
      exact retS (rs := [(Go.ResultVar.tmp 4)]) (v := Value.bool false) (by kernel_rfl) (⟨by kernel_rfl, trivial⟩) ⟨false, rfl, h⟩
    · replace h := h.2 hb
      refine wpE_skip (by kernel_rfl) ?_
      change WpE _ _ c_towpathlaw01_LeftBytes_13 _ _ _
      refine wpE_seq (x := c_towpathlaw01_LeftBytes_14) (y := c_towpathlaw01_LeftBytes_39) (by kernel_rfl) ?_
      refine wpE_seq (x := c_towpathlaw01_LeftBytes_15) (y := c_towpathlaw01_LeftBytes_17) (by kernel_rfl) ?_
      refine wpE_region (id := 3) (ops := r_towpathlaw01_LeftBytes_15) (by kernel_rfl) ?_
      refine reg_run [.plain] 1 [(0, [], Value.slice t_.ptr t_.len t_.cap), (1, [], Value.slice l_.ptr l_.len l_.cap), (5, [], Value.int .i64 0)] (by kernel_rfl) (by kernel_rfl) ?_
      refine reg_end [(0, Value.slice t_.ptr t_.len t_.cap), (1, Value.slice l_.ptr l_.len l_.cap), (5, Value.int .i64 0)] (by kernel_rfl) (by kernel_rfl) ?_
      change WpE _ _ c_towpathlaw01_LeftBytes_17 _ _ _
      refine wpE_block (id := 0) (x := c_towpathlaw01_LeftBytes_18) (by kernel_rfl) ?_
      obtain ⟨I, μ, h0, hr⟩ := h
      refine wpE_loop (x := c_towpathlaw01_LeftBytes_19) (by kernel_rfl) (fun m l w => ∃ (i : Int), l = [(0, Value.slice t_.ptr t_.len t_.cap), (1, Value.slice l_.ptr l_.len l_.cap), (5, Value.int .i64 i)] ∧ I i w ∧ μ i w = m) (l' := [(0, Value.slice t_.ptr t_.len t_.cap), (1, Value.slice l_.ptr l_.len l_.cap), (5, Value.int .i64 0)]) (Sub.mk (by kernel_rfl)) ⟨0, rfl, h0, rfl⟩ ?_
      rintro _ _ w1 ⟨i, rfl, hI, rfl⟩
      obtain ⟨again_, again__h, h⟩ : ∃ again_ : Int → World → Prop, (∀ i' w', again_ i' w' → I i' w' ∧ μ i' w' < μ i w1) ∧ F_towpathlaw01_LeftBytes_L0 t_ l_ R again_ i w1 := ⟨_, fun _ _ h => h, hr i w1 hI⟩
      clear h0 hI
      unfold F_towpathlaw01_LeftBytes_L0 at h
      refine wpE_seq (x := c_towpathlaw01_LeftBytes_20) (y := c_towpathlaw01_LeftBytes_26) (by kernel_rfl) ?_
      refine wpE_seq (x := c_towpathlaw01_LeftBytes_21) (y := c_towpathlaw01_LeftBytes_23) (by kernel_rfl) ?_
      refine wpE_region (id := 4) (ops := r_towpathlaw01_LeftBytes_21) (by kernel_rfl) ?_
      refine reg_run [.plain, .plain, .plain, .plain] 4 [(0, [], Value.slice t_.ptr t_.len t_.cap), (1, [], Value.slice l_.ptr l_.len l_.cap), (5, [], Value.int .i64 i), (22, [], Value.bool (decide (i < ((l_.len : Nat) : Int))))] (by kernel_rfl) (by kernel_rfl) ?_
      refine reg_end [(0, Value.slice t_.ptr t_.len t_.cap), (1, Value.slice l_.ptr l_.len l_.cap), (5, Value.int .i64 i), (22, Value.bool (decide (i < ((l_.len : Nat) : Int))))] (by kernel_rfl) (by kernel_rfl) ?_
      change WpE _ _ c_towpathlaw01_LeftBytes_23 _ _ _
      refine wpE_cond (o := (Operand.tmp 22)) (b := (decide (i < ((l_.len : Nat) : Int)))) (x := c_towpathlaw01_LeftBytes_24) (y := c_towpathlaw01_LeftBytes_25) (by kernel_rfl) (by kernel_rfl) (fun hb => ?_) (fun hb => ?_)
      · replace h := h.1 hb
        refine wpE_skip (by kernel_rfl) ?_
        change WpE _ _ c_towpathlaw01_LeftBytes_26 _ _ _
        refine wpE_seq (x := c_towpathlaw01_LeftBytes_27) (y := c_towpathlaw01_LeftBytes_37) (by kernel_rfl) ?_
        refine wpE_block (id := 1) (x := c_towpathlaw01_LeftBytes_28) (by kernel_rfl) ?_
        refine wpE_seq (x := c_towpathlaw01_LeftBytes_29) (y := c_towpathlaw01_LeftBytes_31) (by kernel_rfl) ?_
        refine wpE_drawregion (id := 6) (ops := r_towpathlaw01_LeftBytes_29) (by kernel_rfl) (by kernel_rfl) (by kernel_rfl) ?_
        refine qreg_run [.plain, .plain] 2 [(0, [], Value.slice t_.ptr t_.len t_.cap), (1, [], Value.slice l_.ptr l_.len l_.cap), (5, [], Value.int .i64 i), (25, [], Value.slice t_.ptr t_.len t_.cap), (26, [], Value.int .i64 i)] (by kernel_rfl) (by kernel_rfl) ?_
        obtain ⟨hp_14, h⟩ := h
        refine qreg_conv [(0, [], Value.slice t_.ptr t_.len t_.cap), (1, [], Value.slice l_.ptr l_.len l_.cap), (5, [], Value.int .i64 i), (25, [], Value.slice (some ⟨(pblk t_.ptr), (poff t_.ptr), none⟩) t_.len t_.cap), (26, [], Value.int .i64 i)] (congrArg (fun pp => ([(0, [], Value.slice t_.ptr t_.len t_.cap), (1, [], Value.slice l_.ptr l_.len l_.cap), (5, [], Value.int .i64 i), (25, [], Value.slice pp t_.len t_.cap), (26, [], Value.int .i64 i)] : GEnv)) hp_14) ?_
        obtain ⟨h0, h1, h⟩ := h
        refine qreg_indexS1 (t := 45) (e := 5) (x := (Go.Operand.tmp 25)) (ix := (Go.Operand.tmp 26)) (b := (pblk t_.ptr)) (o := (poff t_.ptr)) (l := t_.len) (c := t_.cap) (k := .i64) (j := i) (ty := 0) (dst := some 27) (by kernel_rfl) (by kernel_rfl) (by kernel_rfl) (by kernel_rfl) (by kernel_rfl) h0 h1 ?_
        refine qreg_run [] 3 [(0, [], Value.slice t_.ptr t_.len t_.cap), (1, [], Value.slice l_.ptr l_.len l_.cap), (5, [], Value.int .i64 i), (27, [], Value.pointer (some ⟨(pblk t_.ptr), (poff t_.ptr) + i.toNat, none⟩))] (by kernel_rfl) (by kernel_rfl) ?_
        obtain ⟨v28, hc, h⟩ := h
        refine qreg_load1 (t := 5) (a := (Go.Operand.tmp 27)) (b := (pblk t_.ptr)) (o := ((poff t_.ptr) + i.toNat)) (ty := 5) (dst := some 28) (by kernel_rfl) (by kernel_rfl) (by kernel_rfl) hc ?_
        refine qreg_run [.plain, .plain] 6 [(0, [], Value.slice t_.ptr t_.len t_.cap), (1, [], Value.slice l_.ptr l_.len l_.cap), (5, [], Value.int .i64 i), (28, [], Value.int .u8 v28), (29, [], Value.slice l_.ptr l_.len l_.cap), (30, [], Value.int .i64 i)] (by kernel_rfl) (by kernel_rfl) ?_
        obtain ⟨hp_15, h⟩ := h
        refine qreg_conv [(0, [], Value.slice t_.ptr t_.len t_.cap), (1, [], Value.slice l_.ptr l_.len l_.cap), (5, [], Value.int .i64 i), (28, [], Value.int .u8 v28), (29, [], Value.slice (some ⟨(pblk l_.ptr), (poff l_.ptr), none⟩) l_.len l_.cap), (30, [], Value.int .i64 i)] (congrArg (fun pp => ([(0, [], Value.slice t_.ptr t_.len t_.cap), (1, [], Value.slice l_.ptr l_.len l_.cap), (5, [], Value.int .i64 i), (28, [], Value.int .u8 v28), (29, [], Value.slice pp l_.len l_.cap), (30, [], Value.int .i64 i)] : GEnv)) hp_15) ?_
        obtain ⟨h0, h1, h⟩ := h
        refine qreg_indexS1 (t := 45) (e := 5) (x := (Go.Operand.tmp 29)) (ix := (Go.Operand.tmp 30)) (b := (pblk l_.ptr)) (o := (poff l_.ptr)) (l := l_.len) (c := l_.cap) (k := .i64) (j := i) (ty := 0) (dst := some 31) (by kernel_rfl) (by kernel_rfl) (by kernel_rfl) (by kernel_rfl) (by kernel_rfl) h0 h1 ?_
        refine qreg_run [] 7 [(0, [], Value.slice t_.ptr t_.len t_.cap), (1, [], Value.slice l_.ptr l_.len l_.cap), (5, [], Value.int .i64 i), (28, [], Value.int .u8 v28), (31, [], Value.pointer (some ⟨(pblk l_.ptr), (poff l_.ptr) + i.toNat, none⟩))] (by kernel_rfl) (by kernel_rfl) ?_
        obtain ⟨v32, hc, h⟩ := h
        refine qreg_load1 (t := 5) (a := (Go.Operand.tmp 31)) (b := (pblk l_.ptr)) (o := ((poff l_.ptr) + i.toNat)) (ty := 5) (dst := some 32) (by kernel_rfl) (by kernel_rfl) (by kernel_rfl) hc ?_
        refine qreg_run [.plain] 9 [(0, [], Value.slice t_.ptr t_.len t_.cap), (1, [], Value.slice l_.ptr l_.len l_.cap), (5, [], Value.int .i64 i), (33, [], Value.bool (v28 != v32))] (by kernel_rfl) (by kernel_rfl) ?_
        refine qreg_end [(0, Value.slice t_.ptr t_.len t_.cap), (1, Value.slice l_.ptr l_.len l_.cap), (5, Value.int .i64 i), (33, Value.bool (v28 != v32))] (by kernel_rfl) (by kernel_rfl) (fun w2 hw => ?_)
        replace h := h w2 hw
        clear hw
        change WpE _ _ c_towpathlaw01_LeftBytes_31 _ _ _
        refine wpE_cond (o := (Operand.tmp 33)) (b := (v28 != v32)) (x := c_towpathlaw01_LeftBytes_32) (y := c_towpathlaw01_LeftBytes_36) (by kernel_rfl) (by kernel_rfl) (fun hb => ?_) (fun hb => ?_)
        · replace h := h.1 hb
          refine wpE_seq (x := c_towpathlaw01_LeftBytes_33) (y := c_towpathlaw01_LeftBytes_35) (by kernel_rfl) ?_
          refine wpE_region (id := 7) (ops := r_towpathlaw01_LeftBytes_33) (by kernel_rfl) ?_
          refine reg_run [.plain] 1 [(4, [], Value.bool false)] (by kernel_rfl) (by kernel_rfl) ?_
          refine reg_end [(4, Value.bool false)] (by kernel_rfl) (by kernel_rfl) ?_
          change WpE _ _ c_towpathlaw01_LeftBytes_35 _ _ _
          refine wpE_ret (by kernel_rfl) ?_
          repeat (first | refine seqQ_ret ?_ | refine blockQ_ret ?_ | refine loopQ_ret ?_ | refine cutQ_ret ?_)
          exact retS (rs := [(Go.ResultVar.tmp 4)]) (v := Value.bool false) (by kernel_rfl) (⟨by kernel_rfl, trivial⟩) ⟨false, rfl, h⟩
        · replace h := h.2 hb
          refine wpE_skip (by kernel_rfl) ?_
          change WpE _ _ c_towpathlaw01_LeftBytes_37 _ _ _
          refine wpE_region (id := 5) (ops := r_towpathlaw01_LeftBytes_37) (by kernel_rfl) ?_
          refine reg_run [.plain, .plain, .plain] 3 [(0, [], Value.slice t_.ptr t_.len t_.cap), (1, [], Value.slice l_.ptr l_.len l_.cap), (5, [], Value.int .i64 (IntKind.i64.wrap (i + 1)))] (by kernel_rfl) (by kernel_rfl) ?_
          refine reg_end [(0, Value.slice t_.ptr t_.len t_.cap), (1, Value.slice l_.ptr l_.len l_.cap), (5, Value.int .i64 (IntKind.i64.wrap (i + 1)))] (by kernel_rfl) (by kernel_rfl) ?_
          have hb_ := again__h _ _ h
          exact ⟨_, hb_.2, [(0, Value.slice t_.ptr t_.len t_.cap), (1, Value.slice l_.ptr l_.len l_.cap), (5, Value.int .i64 (IntKind.i64.wrap (i + 1)))], Sub.mk (by kernel_rfl), (IntKind.i64.wrap (i + 1)), rfl, hb_.1, rfl⟩
      · replace h := h.2 hb
        refine wpE_exit (id := 0) (by kernel_rfl) ?_
        change WpE _ _ c_towpathlaw01_LeftBytes_39 _ _ _
        refine wpE_seq (x := c_towpathlaw01_LeftBytes_40) (y := c_towpathlaw01_LeftBytes_42) (by kernel_rfl) ?_
        refine wpE_region (id := 8) (ops := r_towpathlaw01_LeftBytes_40) (by kernel_rfl) ?_
        refine reg_run [.plain, .plain, .plain, .plain] 4 [(1, [], Value.slice l_.ptr l_.len l_.cap), (34, [], Value.slice t_.ptr t_.len t_.cap), (37, [], Value.int .i64 (IntKind.i64.wrap (((l_.len : Nat) : Int) + 1)))] (by kernel_rfl) (by kernel_rfl) ?_
        obtain ⟨h0, h1, h⟩ := h
        refine reg_sliceHi (t := 45) (e := 5) (x := (Go.Operand.tmp 34)) (hi := (Go.Operand.tmp 37)) (p := t_.ptr) (l := t_.len) (c := t_.cap) (sz := 1) (k := .i64) (j := (IntKind.i64.wrap (((l_.len : Nat) : Int) + 1))) (ty := 45) (dst := some 38) (by kernel_rfl) (by kernel_rfl) (by kernel_rfl) (by kernel_rfl) (by kernel_rfl) h0 h1 ?_
        refine reg_run [.plain, .plain] 7 [(38, [], Value.slice t_.ptr ((IntKind.i64.wrap (((l_.len : Nat) : Int) + 1)).toNat) t_.cap), (40, [], Value.int .i64 ((l_.len : Nat) : Int))] (by kernel_rfl) (by kernel_rfl) ?_
        obtain ⟨hp_17, h⟩ := h
        refine reg_conv [(38, [], Value.slice (some ⟨(pblk t_.ptr), (poff t_.ptr), none⟩) ((IntKind.i64.wrap (((l_.len : Nat) : Int) + 1)).toNat) t_.cap), (40, [], Value.int .i64 ((l_.len : Nat) : Int))] (congrArg (fun pp => ([(38, [], Value.slice pp ((IntKind.i64.wrap (((l_.len : Nat) : Int) + 1)).toNat) t_.cap), (40, [], Value.int .i64 ((l_.len : Nat) : Int))] : GEnv)) hp_17) ?_
        obtain ⟨h0, h1, h⟩ := h
        refine reg_indexS1 (t := 45) (e := 5) (x := (Go.Operand.tmp 38)) (ix := (Go.Operand.tmp 40)) (b := (pblk t_.ptr)) (o := (poff t_.ptr)) (l := ((IntKind.i64.wrap (((l_.len : Nat) : Int) + 1)).toNat)) (c := t_.cap) (k := .i64) (j := ((l_.len : Nat) : Int)) (ty := 0) (dst := some 41) (by kernel_rfl) (by kernel_rfl) (by kernel_rfl) (by kernel_rfl) (by kernel_rfl) h0 h1 ?_
        refine reg_run [] 8 [(41, [], Value.pointer (some ⟨(pblk t_.ptr), (poff t_.ptr) + ((l_.len : Nat) : Int).toNat, none⟩))] (by kernel_rfl) (by kernel_rfl) ?_
        obtain ⟨x, hc, h⟩ := h
        refine reg_load1 (t := 5) (a := (Go.Operand.tmp 41)) (b := (pblk t_.ptr)) (o := ((poff t_.ptr) + ((l_.len : Nat) : Int).toNat)) (ty := 5) (dst := some 42) (by kernel_rfl) (by kernel_rfl) (by kernel_rfl) hc ?_
        refine reg_run [.plain] 10 [(6, [], Value.int .u8 x)] (by kernel_rfl) (by kernel_rfl) ?_
        refine reg_end [(6, Value.int .u8 x)] (by kernel_rfl) (by kernel_rfl) ?_
        change WpE _ _ c_towpathlaw01_LeftBytes_42 _ _ _
        refine wpE_seq (x := c_towpathlaw01_LeftBytes_43) (y := c_towpathlaw01_LeftBytes_45) (by kernel_rfl) ?_
        refine wpE_region (id := 9) (ops := r_towpathlaw01_LeftBytes_43) (by kernel_rfl) ?_
        refine reg_run [.plain, .plain, .plain] 3 [(4, [], Value.bool (x == 77))] (by kernel_rfl) (by kernel_rfl) ?_
        refine reg_end [(4, Value.bool (x == 77))] (by kernel_rfl) (by kernel_rfl) ?_
        change WpE _ _ c_towpathlaw01_LeftBytes_45 _ _ _
        refine wpE_ret (by kernel_rfl) ?_
        repeat (first | refine seqQ_ret ?_ | refine blockQ_ret ?_ | refine loopQ_ret ?_ | refine cutQ_ret ?_)
        exact retS (rs := [(Go.ResultVar.tmp 4)]) (v := Value.bool (x == 77)) (by kernel_rfl) (⟨by kernel_rfl, trivial⟩) ⟨(x == 77), rfl, h⟩
  · rintro e w' ⟨v, rfl, r0, rfl, h⟩; exact ⟨r0, rfl, h⟩

/-! ### towpath/towpathlaw01.SameBytes (function 23) -/
noncomputable def c_towpathlaw01_SameBytes_0 : Code := (Tryz.f23.body).getD Code.skip
noncomputable def c_towpathlaw01_SameBytes_1 : Code := Code.l c_towpathlaw01_SameBytes_0
noncomputable def r_towpathlaw01_SameBytes_1 : Array Oper := Code.ops c_towpathlaw01_SameBytes_1
noncomputable def c_towpathlaw01_SameBytes_3 : Code := Code.r c_towpathlaw01_SameBytes_0
noncomputable def c_towpathlaw01_SameBytes_4 : Code := Code.l c_towpathlaw01_SameBytes_3
noncomputable def c_towpathlaw01_SameBytes_5 : Code := Code.l c_towpathlaw01_SameBytes_4
noncomputable def r_towpathlaw01_SameBytes_5 : Array Oper := Code.ops c_towpathlaw01_SameBytes_5
noncomputable def c_towpathlaw01_SameBytes_7 : Code := Code.r c_towpathlaw01_SameBytes_4
noncomputable def c_towpathlaw01_SameBytes_8 : Code := Code.l c_towpathlaw01_SameBytes_7
noncomputable def c_towpathlaw01_SameBytes_9 : Code := Code.l c_towpathlaw01_SameBytes_8
noncomputable def r_towpathlaw01_SameBytes_9 : Array Oper := Code.ops c_towpathlaw01_SameBytes_9
noncomputable def c_towpathlaw01_SameBytes_11 : Code := Code.r c_towpathlaw01_SameBytes_8
noncomputable def c_towpathlaw01_SameBytes_12 : Code := Code.r c_towpathlaw01_SameBytes_7
noncomputable def c_towpathlaw01_SameBytes_13 : Code := Code.r c_towpathlaw01_SameBytes_3
noncomputable def c_towpathlaw01_SameBytes_14 : Code := Code.l c_towpathlaw01_SameBytes_13
noncomputable def c_towpathlaw01_SameBytes_15 : Code := Code.l c_towpathlaw01_SameBytes_14
noncomputable def r_towpathlaw01_SameBytes_15 : Array Oper := Code.ops c_towpathlaw01_SameBytes_15
noncomputable def c_towpathlaw01_SameBytes_17 : Code := Code.r c_towpathlaw01_SameBytes_14
noncomputable def c_towpathlaw01_SameBytes_18 : Code := Code.l c_towpathlaw01_SameBytes_17
noncomputable def c_towpathlaw01_SameBytes_19 : Code := Code.l c_towpathlaw01_SameBytes_18
noncomputable def c_towpathlaw01_SameBytes_20 : Code := Code.l c_towpathlaw01_SameBytes_19
noncomputable def c_towpathlaw01_SameBytes_21 : Code := Code.l c_towpathlaw01_SameBytes_20
noncomputable def r_towpathlaw01_SameBytes_21 : Array Oper := Code.ops c_towpathlaw01_SameBytes_21
noncomputable def c_towpathlaw01_SameBytes_23 : Code := Code.r c_towpathlaw01_SameBytes_20
noncomputable def c_towpathlaw01_SameBytes_24 : Code := Code.l c_towpathlaw01_SameBytes_23
noncomputable def c_towpathlaw01_SameBytes_25 : Code := Code.r c_towpathlaw01_SameBytes_23
noncomputable def c_towpathlaw01_SameBytes_26 : Code := Code.r c_towpathlaw01_SameBytes_19
noncomputable def c_towpathlaw01_SameBytes_27 : Code := Code.l c_towpathlaw01_SameBytes_26
noncomputable def c_towpathlaw01_SameBytes_28 : Code := Code.l c_towpathlaw01_SameBytes_27
noncomputable def c_towpathlaw01_SameBytes_29 : Code := Code.l c_towpathlaw01_SameBytes_28
noncomputable def r_towpathlaw01_SameBytes_29 : Array Oper := Code.ops c_towpathlaw01_SameBytes_29
noncomputable def c_towpathlaw01_SameBytes_31 : Code := Code.r c_towpathlaw01_SameBytes_28
noncomputable def c_towpathlaw01_SameBytes_32 : Code := Code.l c_towpathlaw01_SameBytes_31
noncomputable def c_towpathlaw01_SameBytes_33 : Code := Code.l c_towpathlaw01_SameBytes_32
noncomputable def r_towpathlaw01_SameBytes_33 : Array Oper := Code.ops c_towpathlaw01_SameBytes_33
noncomputable def c_towpathlaw01_SameBytes_35 : Code := Code.r c_towpathlaw01_SameBytes_32
noncomputable def c_towpathlaw01_SameBytes_36 : Code := Code.r c_towpathlaw01_SameBytes_31
noncomputable def c_towpathlaw01_SameBytes_37 : Code := Code.r c_towpathlaw01_SameBytes_26
noncomputable def r_towpathlaw01_SameBytes_37 : Array Oper := Code.ops c_towpathlaw01_SameBytes_37
noncomputable def c_towpathlaw01_SameBytes_39 : Code := Code.r c_towpathlaw01_SameBytes_13
noncomputable def c_towpathlaw01_SameBytes_40 : Code := Code.l c_towpathlaw01_SameBytes_39
noncomputable def r_towpathlaw01_SameBytes_40 : Array Oper := Code.ops c_towpathlaw01_SameBytes_40
noncomputable def c_towpathlaw01_SameBytes_42 : Code := Code.r c_towpathlaw01_SameBytes_39

set_option maxRecDepth 100000 in
set_option maxHeartbeats 4000000 in
theorem S_towpathlaw01_SameBytes {a_ : Slc} {b_ : Slc} {w : World} {R : Bool → World → Prop} (h : F_towpathlaw01_SameBytes a_ b_ R w) : C_towpathlaw01_SameBytes a_ b_ w R := by
  unfold F_towpathlaw01_SameBytes at h
  unfold C_towpathlaw01_SameBytes
  refine Calls.mono (calls_of_wpE (args := [Value.slice a_.ptr a_.len a_.cap, Value.slice b_.ptr b_.len b_.cap]) (R := fun v w' => ∃ (r0 : Bool), v = Value.bool r0 ∧ R r0 w') Tryz.func23 (c := c_towpathlaw01_SameBytes_0) (by kernel_rfl) 26 (by kernel_rfl) (by kernel_rfl) [(0, Value.slice a_.ptr a_.len a_.cap), (1, Value.slice b_.ptr b_.len b_.cap)] (by kernel_rfl) ?_) ?_
  · refine wpE_seq (x := c_towpathlaw01_SameBytes_1) (y := c_towpathlaw01_SameBytes_3) (by kernel_rfl) ?_
    refine wpE_region (id := 0) (ops := r_towpathlaw01_SameBytes_1) (by kernel_rfl) ?_
    refine reg_run [.plain] 1 [(0, [], Value.slice a_.ptr a_.len a_.cap), (1, [], Value.slice b_.ptr b_.len b_.cap)] (by kernel_rfl) (by kernel_rfl) ?_
    refine reg_end [(0, Value.slice a_.ptr a_.len a_.cap), (1, Value.slice b_.ptr b_.len b_.cap)] (by kernel_rfl) (by kernel_rfl) ?_
    change WpE _ _ c_towpathlaw01_SameBytes_3 _ _ _
    refine wpE_seq (x := c_towpathlaw01_SameBytes_4) (y := c_towpathlaw01_SameBytes_13) (by kernel_rfl) ?_
    refine wpE_seq (x := c_towpathlaw01_SameBytes_5) (y := c_towpathlaw01_SameBytes_7) (by kernel_rfl) ?_
    refine wpE_region (id := 1) (ops := r_towpathlaw01_SameBytes_5) (by kernel_rfl) ?_
    refine reg_run [.plain, .plain, .plain, .plain, .plain] 5 [(0, [], Value.slice a_.ptr a_.len a_.cap), (1, [], Value.slice b_.ptr b_.len b_.cap), (10, [], Value.bool (((a_.len : Nat) : Int) != ((b_.len : Nat) : Int)))] (by kernel_rfl) (by kernel_rfl) ?_
    refine reg_end [(0, Value.slice a_.ptr a_.len a_.cap), (1, Value.slice b_.ptr b_.len b_.cap), (10, Value.bool (((a_.len : Nat) : Int) != ((b_.len : Nat) : Int)))] (by kernel_rfl) (by kernel_rfl) ?_
    change WpE _ _ c_towpathlaw01_SameBytes_7 _ _ _
    refine wpE_cond (o := (Operand.tmp 10)) (b := (((a_.len : Nat) : Int) != ((b_.len : Nat) : Int))) (x := c_towpathlaw01_SameBytes_8) (y := c_towpathlaw01_SameBytes_12) (by kernel_rfl) (by kernel_rfl) (fun hb => ?_) (fun hb => ?_)
    · replace h := h.1 hb
      refine wpE_seq (x := c_towpathlaw01_SameBytes_9) (y := c_towpathlaw01_SameBytes_11) (by kernel_rfl) ?_
      refine wpE_region (id := 2) (ops := r_towpathlaw01_SameBytes_9) (by kernel_rfl) ?_
      refine reg_run [.plain] 1 [(4, [], Value.bool false)] (by kernel_rfl) (by kernel_rfl) ?_
      refine reg_end [(4, Value.bool false)] (by kernel_rfl) (by kernel_rfl) ?_
      change WpE _ _ c_towpathlaw01_SameBytes_11 _ _ _
      refine wpE_ret (by kernel_rfl) ?_
      repeat (first | refine seqQ_ret ?_ | refine blockQ_ret ?_ | refine loopQ_ret ?_ | refine cutQ_ret ?_)
      exact retS (rs := [(Go.ResultVar.tmp 4)]) (v := Value.bool false) (by kernel_rfl) (⟨by kernel_rfl, trivial⟩) ⟨false, rfl, h⟩
    · replace h := h.2 hb
      refine wpE_skip (by kernel_rfl) ?_
      change WpE _ _ c_towpathlaw01_SameBytes_13 _ _ _
      refine wpE_seq (x := c_towpathlaw01_SameBytes_14) (y := c_towpathlaw01_SameBytes_39) (by kernel_rfl) ?_
      refine wpE_seq (x := c_towpathlaw01_SameBytes_15) (y := c_towpathlaw01_SameBytes_17) (by kernel_rfl) ?_
      refine wpE_region (id := 3) (ops := r_towpathlaw01_SameBytes_15) (by kernel_rfl) ?_
      refine reg_run [.plain] 1 [(0, [], Value.slice a_.ptr a_.len a_.cap), (1, [], Value.slice b_.ptr b_.len b_.cap), (5, [], Value.int .i64 0)] (by kernel_rfl) (by kernel_rfl) ?_
      refine reg_end [(0, Value.slice a_.ptr a_.len a_.cap), (1, Value.slice b_.ptr b_.len b_.cap), (5, Value.int .i64 0)] (by kernel_rfl) (by kernel_rfl) ?_
      change WpE _ _ c_towpathlaw01_SameBytes_17 _ _ _
      refine wpE_block (id := 0) (x := c_towpathlaw01_SameBytes_18) (by kernel_rfl) ?_
      obtain ⟨I, μ, h0, hr⟩ := h
      refine wpE_loop (x := c_towpathlaw01_SameBytes_19) (by kernel_rfl) (fun m l w => ∃ (i : Int), l = [(0, Value.slice a_.ptr a_.len a_.cap), (1, Value.slice b_.ptr b_.len b_.cap), (5, Value.int .i64 i)] ∧ I i w ∧ μ i w = m) (l' := [(0, Value.slice a_.ptr a_.len a_.cap), (1, Value.slice b_.ptr b_.len b_.cap), (5, Value.int .i64 0)]) (Sub.mk (by kernel_rfl)) ⟨0, rfl, h0, rfl⟩ ?_
      rintro _ _ w1 ⟨i, rfl, hI, rfl⟩
      obtain ⟨again_, again__h, h⟩ : ∃ again_ : Int → World → Prop, (∀ i' w', again_ i' w' → I i' w' ∧ μ i' w' < μ i w1) ∧ F_towpathlaw01_SameBytes_L0 a_ b_ R again_ i w1 := ⟨_, fun _ _ h => h, hr i w1 hI⟩
      clear h0 hI
      unfold F_towpathlaw01_SameBytes_L0 at h
      refine wpE_seq (x := c_towpathlaw01_SameBytes_20) (y := c_towpathlaw01_SameBytes_26) (by kernel_rfl) ?_
      refine wpE_seq (x := c_towpathlaw01_SameBytes_21) (y := c_towpathlaw01_SameBytes_23) (by kernel_rfl) ?_
      refine wpE_region (id := 4) (ops := r_towpathlaw01_SameBytes_21) (by kernel_rfl) ?_
      refine reg_run [.plain, .plain, .plain, .plain] 4 [(0, [], Value.slice a_.ptr a_.len a_.cap), (1, [], Value.slice b_.ptr b_.len b_.cap), (5, [], Value.int .i64 i), (14, [], Value.bool (decide (i < ((a_.len : Nat) : Int))))] (by kernel_rfl) (by kernel_rfl) ?_
      refine reg_end [(0, Value.slice a_.ptr a_.len a_.cap), (1, Value.slice b_.ptr b_.len b_.cap), (5, Value.int .i64 i), (14, Value.bool (decide (i < ((a_.len : Nat) : Int))))] (by kernel_rfl) (by kernel_rfl) ?_
      change WpE _ _ c_towpathlaw01_SameBytes_23 _ _ _
      refine wpE_cond (o := (Operand.tmp 14)) (b := (decide (i < ((a_.len : Nat) : Int)))) (x := c_towpathlaw01_SameBytes_24) (y := c_towpathlaw01_SameBytes_25) (by kernel_rfl) (by kernel_rfl) (fun hb => ?_) (fun hb => ?_)
      · replace h := h.1 hb
        refine wpE_skip (by kernel_rfl) ?_
        change WpE _ _ c_towpathlaw01_SameBytes_26 _ _ _
        refine wpE_seq (x := c_towpathlaw01_SameBytes_27) (y := c_towpathlaw01_SameBytes_37) (by kernel_rfl) ?_
        refine wpE_block (id := 1) (x := c_towpathlaw01_SameBytes_28) (by kernel_rfl) ?_
        refine wpE_seq (x := c_towpathlaw01_SameBytes_29) (y := c_towpathlaw01_SameBytes_31) (by kernel_rfl) ?_
        refine wpE_drawregion (id := 6) (ops := r_towpathlaw01_SameBytes_29) (by kernel_rfl) (by kernel_rfl) (by kernel_rfl) ?_
        refine qreg_run [.plain, .plain] 2 [(0, [], Value.slice a_.ptr a_.len a_.cap), (1, [], Value.slice b_.ptr b_.len b_.cap), (5, [], Value.int .i64 i), (17, [], Value.slice a_.ptr a_.len a_.cap), (18, [], Value.int .i64 i)] (by kernel_rfl) (by kernel_rfl) ?_
        obtain ⟨hp_14, h⟩ := h
        refine qreg_conv [(0, [], Value.slice a_.ptr a_.len a_.cap), (1, [], Value.slice b_.ptr b_.len b_.cap), (5, [], Value.int .i64 i), (17, [], Value.slice (some ⟨(pblk a_.ptr), (poff a_.ptr), none⟩) a_.len a_.cap), (18, [], Value.int .i64 i)] (congrArg (fun pp => ([(0, [], Value.slice a_.ptr a_.len a_.cap), (1, [], Value.slice b_.ptr b_.len b_.cap), (5, [], Value.int .i64 i), (17, [], Value.slice pp a_.len a_.cap), (18, [], Value.int .i64 i)] : GEnv)) hp_14) ?_
        obtain ⟨h0, h1, h⟩ := h
        refine qreg_indexS1 (t := 45) (e := 5) (x := (Go.Operand.tmp 17)) (ix := (Go.Operand.tmp 18)) (b := (pblk a_.ptr)) (o := (poff a_.ptr)) (l := a_.len) (c := a_.cap) (k := .i64) (j := i) (ty := 0) (dst := some 19) (by kernel_rfl) (by kernel_rfl) (by kernel_rfl) (by kernel_rfl) (by kernel_rfl) h0 h1 ?_
        refine qreg_run [] 3 [(0, [], Value.slice a_.ptr a_.len a_.cap), (1, [], Value.slice b_.ptr b_.len b_.cap), (5, [], Value.int .i64 i), (19, [], Value.pointer (some ⟨(pblk a_.ptr), (poff a_.ptr) + i.toNat, none⟩))] (by kernel_rfl) (by kernel_rfl) ?_
        obtain ⟨v20, hc, h⟩ := h
        refine qreg_load1 (t := 5) (a := (Go.Operand.tmp 19)) (b := (pblk a_.ptr)) (o := ((poff a_.ptr) + i.toNat)) (ty := 5) (dst := some 20) (by kernel_rfl) (by kernel_rfl) (by kernel_rfl) hc ?_
        refine qreg_run [.plain, .plain] 6 [(0, [], Value.slice a_.ptr a_.len a_.cap), (1, [], Value.slice b_.ptr b_.len b_.cap), (5, [], Value.int .i64 i), (20, [], Value.int .u8 v20), (21, [], Value.slice b_.ptr b_.len b_.cap), (22, [], Value.int .i64 i)] (by kernel_rfl) (by kernel_rfl) ?_
        obtain ⟨hp_15, h⟩ := h
        refine qreg_conv [(0, [], Value.slice a_.ptr a_.len a_.cap), (1, [], Value.slice b_.ptr b_.len b_.cap), (5, [], Value.int .i64 i), (20, [], Value.int .u8 v20), (21, [], Value.slice (some ⟨(pblk b_.ptr), (poff b_.ptr), none⟩) b_.len b_.cap), (22, [], Value.int .i64 i)] (congrArg (fun pp => ([(0, [], Value.slice a_.ptr a_.len a_.cap), (1, [], Value.slice b_.ptr b_.len b_.cap), (5, [], Value.int .i64 i), (20, [], Value.int .u8 v20), (21, [], Value.slice pp b_.len b_.cap), (22, [], Value.int .i64 i)] : GEnv)) hp_15) ?_
        obtain ⟨h0, h1, h⟩ := h
        refine qreg_indexS1 (t := 45) (e := 5) (x := (Go.Operand.tmp 21)) (ix := (Go.Operand.tmp 22)) (b := (pblk b_.ptr)) (o := (poff b_.ptr)) (l := b_.len) (c := b_.cap) (k := .i64) (j := i) (ty := 0) (dst := some 23) (by kernel_rfl) (by kernel_rfl) (by kernel_rfl) (by kernel_rfl) (by kernel_rfl) h0 h1 ?_
        refine qreg_run [] 7 [(0, [], Value.slice a_.ptr a_.len a_.cap), (1, [], Value.slice b_.ptr b_.len b_.cap), (5, [], Value.int .i64 i), (20, [], Value.int .u8 v20), (23, [], Value.pointer (some ⟨(pblk b_.ptr), (poff b_.ptr) + i.toNat, none⟩))] (by kernel_rfl) (by kernel_rfl) ?_
        obtain ⟨v24, hc, h⟩ := h
        refine qreg_load1 (t := 5) (a := (Go.Operand.tmp 23)) (b := (pblk b_.ptr)) (o := ((poff b_.ptr) + i.toNat)) (ty := 5) (dst := some 24) (by kernel_rfl) (by kernel_rfl) (by kernel_rfl) hc ?_
        refine qreg_run [.plain] 9 [(0, [], Value.slice a_.ptr a_.len a_.cap), (1, [], Value.slice b_.ptr b_.len b_.cap), (5, [], Value.int .i64 i), (25, [], Value.bool (v20 != v24))] (by kernel_rfl) (by kernel_rfl) ?_
        refine qreg_end [(0, Value.slice a_.ptr a_.len a_.cap), (1, Value.slice b_.ptr b_.len b_.cap), (5, Value.int .i64 i), (25, Value.bool (v20 != v24))] (by kernel_rfl) (by kernel_rfl) (fun w2 hw => ?_)
        replace h := h w2 hw
        clear hw
        change WpE _ _ c_towpathlaw01_SameBytes_31 _ _ _
        refine wpE_cond (o := (Operand.tmp 25)) (b := (v20 != v24)) (x := c_towpathlaw01_SameBytes_32) (y := c_towpathlaw01_SameBytes_36) (by kernel_rfl) (by kernel_rfl) (fun hb => ?_) (fun hb => ?_)
        · replace h := h.1 hb
          refine wpE_seq (x := c_towpathlaw01_SameBytes_33) (y := c_towpathlaw01_SameBytes_35) (by kernel_rfl) ?_
          refine wpE_region (id := 7) (ops := r_towpathlaw01_SameBytes_33) (by kernel_rfl) ?_
          refine reg_run [.plain] 1 [(4, [], Value.bool false)] (by kernel_rfl) (by kernel_rfl) ?_
          refine reg_end [(4, Value.bool false)] (by kernel_rfl) (by kernel_rfl) ?_
          change WpE _ _ c_towpathlaw01_SameBytes_35 _ _ _
          refine wpE_ret (by kernel_rfl) ?_
          repeat (first | refine seqQ_ret ?_ | refine blockQ_ret ?_ | refine loopQ_ret ?_ | refine cutQ_ret ?_)
          exact retS (rs := [(Go.ResultVar.tmp 4)]) (v := Value.bool false) (by kernel_rfl) (⟨by kernel_rfl, trivial⟩) ⟨false, rfl, h⟩
        · replace h := h.2 hb
          refine wpE_skip (by kernel_rfl) ?_
          change WpE _ _ c_towpathlaw01_SameBytes_37 _ _ _
          refine wpE_region (id := 5) (ops := r_towpathlaw01_SameBytes_37) (by kernel_rfl) ?_
          refine reg_run [.plain, .plain, .plain] 3 [(0, [], Value.slice a_.ptr a_.len a_.cap), (1, [], Value.slice b_.ptr b_.len b_.cap), (5, [], Value.int .i64 (IntKind.i64.wrap (i + 1)))] (by kernel_rfl) (by kernel_rfl) ?_
          refine reg_end [(0, Value.slice a_.ptr a_.len a_.cap), (1, Value.slice b_.ptr b_.len b_.cap), (5, Value.int .i64 (IntKind.i64.wrap (i + 1)))] (by kernel_rfl) (by kernel_rfl) ?_
          have hb_ := again__h _ _ h
          exact ⟨_, hb_.2, [(0, Value.slice a_.ptr a_.len a_.cap), (1, Value.slice b_.ptr b_.len b_.cap), (5, Value.int .i64 (IntKind.i64.wrap (i + 1)))], Sub.mk (by kernel_rfl), (IntKind.i64.wrap (i + 1)), rfl, hb_.1, rfl⟩
      · replace h := h.2 hb
        refine wpE_exit (id := 0) (by kernel_rfl) ?_
        change WpE _ _ c_towpathlaw01_SameBytes_39 _ _ _
        refine wpE_seq (x := c_towpathlaw01_SameBytes_40) (y := c_towpathlaw01_SameBytes_42) (by kernel_rfl) ?_
        refine wpE_region (id := 8) (ops := r_towpathlaw01_SameBytes_40) (by kernel_rfl) ?_
        refine reg_run [.plain] 1 [(4, [], Value.bool true)] (by kernel_rfl) (by kernel_rfl) ?_
        refine reg_end [(4, Value.bool true)] (by kernel_rfl) (by kernel_rfl) ?_
        change WpE _ _ c_towpathlaw01_SameBytes_42 _ _ _
        refine wpE_ret (by kernel_rfl) ?_
        repeat (first | refine seqQ_ret ?_ | refine blockQ_ret ?_ | refine loopQ_ret ?_ | refine cutQ_ret ?_)
        exact retS (rs := [(Go.ResultVar.tmp 4)]) (v := Value.bool true) (by kernel_rfl) (⟨by kernel_rfl, trivial⟩) ⟨true, rfl, h⟩
  · rintro e w' ⟨v, rfl, r0, rfl, h⟩; exact ⟨r0, rfl, h⟩

/-! ### (*towpath/towpathlaw01.Book).keepByte (function 32) -/
noncomputable def c_towpathlaw01_Book_keepByte_0 : Code := (Tryz.f32.body).getD Code.skip
noncomputable def c_towpathlaw01_Book_keepByte_1 : Code := Code.l c_towpathlaw01_Book_keepByte_0
noncomputable def r_towpathlaw01_Book_keepByte_1 : Array Oper := Code.ops c_towpathlaw01_Book_keepByte_1
noncomputable def c_towpathlaw01_Book_keepByte_3 : Code := Code.r c_towpathlaw01_Book_keepByte_0
noncomputable def r_towpathlaw01_Book_keepByte_3 : Array Oper := Code.ops c_towpathlaw01_Book_keepByte_3
def o_towpathlaw01_Book_keepByte_3 : List Nat := [0, 1, 2, 3, 4, 5, 6, 7, 8, 9, 10, 11, 12, 13, 14, 15]

set_option maxRecDepth 100000 in
set_option maxHeartbeats 4000000 in
theorem S_towpathlaw01_Book_keepByte {b_ : Option Addr} {l_ : Slc} {w : World} {R : World → Prop} (h : F_towpathlaw01_Book_keepByte b_ l_ R w) : C_towpathlaw01_Book_keepByte b_ l_ w R := by
  unfold F_towpathlaw01_Book_keepByte at h
  unfold C_towpathlaw01_Book_keepByte
  refine Calls.mono (calls_of_wpE (args := [Value.pointer b_, Value.slice l_.ptr l_.len l_.cap]) (R := fun v w' => v = Value.tuple #[] ∧ R w') Tryz.func32 (c := c_towpathlaw01_Book_keepByte_0) (by kernel_rfl) 26 (by kernel_rfl) (by kernel_rfl) [(0, Value.pointer b_), (1, Value.slice l_.ptr l_.len l_.cap)] (by kernel_rfl) ?_) ?_
  · refine wpE_seq (x := c_towpathlaw01_Book_keepByte_1) (y := c_towpathlaw01_Book_keepByte_3) (by kernel_rfl) ?_
    refine wpE_region (id := 0) (ops := r_towpathlaw01_Book_keepByte_1) (by kernel_rfl) ?_
    refine reg_run [.plain] 1 [(0, [], Value.pointer b_), (1, [], Value.slice l_.ptr l_.len l_.cap), (4, [], Value.pointer b_)] (by kernel_rfl) (by kernel_rfl) ?_
    obtain ⟨hp_1, h⟩ := h
    refine reg_conv [(0, [], Value.pointer b_), (1, [], Value.slice l_.ptr l_.len l_.cap), (4, [], Value.pointer (some ⟨(pblk b_), (poff b_), none⟩))] (congrArg (fun pp => ([(0, [], Value.pointer b_), (1, [], Value.slice l_.ptr l_.len l_.cap), (4, [], Value.pointer pp)] : GEnv)) hp_1) ?_
    refine reg_run [.plain] 2 [(0, [], Value.pointer b_), (1, [], Value.slice l_.ptr l_.len l_.cap), (4, [], Value.pointer (some ⟨(pblk b_), (poff b_), none⟩)), (5, [], Value.pointer (some ⟨(pblk b_), (poff b_), none⟩))] (by kernel_rfl) (by kernel_rfl) ?_
    refine reg_run [.plain] 3 [(0, [], Value.pointer b_), (1, [], Value.slice l_.ptr l_.len l_.cap), (4, [], Value.pointer (some ⟨(pblk b_), (poff b_), none⟩)), (6, [], Value.pointer (some ⟨(pblk b_), (poff b_), none⟩))] (by kernel_rfl) (by kernel_rfl) ?_
    obtain ⟨v7, hc, h⟩ := h
    refine reg_load1 (t := 3) (a := (Go.Operand.tmp 6)) (b := (pblk b_)) (o := (poff b_)) (ty := 3) (dst := some 7) (by kernel_rfl) (by kernel_rfl) (by kernel_rfl) hc ?_
    refine reg_run [.plain, .plain, .plain] 7 [(0, [], Value.pointer b_), (1, [], Value.slice l_.ptr l_.len l_.cap), (8, [], Value.int .i64 (IntKind.i64.wrap (v7 + 1))), (10, [], Value.pointer (some ⟨(pblk b_), (poff b_), none⟩))] (by kernel_rfl) (by kernel_rfl) ?_
    obtain ⟨hc, h⟩ := h
    refine reg_store (t := 3) (a := (Go.Operand.tmp 10)) (x := (Go.Operand.tmp 8)) (b := (pblk b_)) (o := (poff b_)) (ty := 0) (dst := none) [Value.int .i64 (IntKind.i64.wrap (v7 + 1))] (by kernel_rfl) (by kernel_rfl) (by kernel_rfl) (k := 1) (by kernel_rfl) (by kernel_rfl) (by kernel_rfl) hc (fun w1 hw => ?_)
    replace h := h w1 hw
    clear hw
    refine reg_end [(0, Value.pointer b_), (1, Value.slice l_.ptr l_.len l_.cap)] (by kernel_rfl) (by kernel_rfl) ?_
    change WpE _ _ c_towpathlaw01_Book_keepByte_3 _ _ _
    refine wpE_mixregion (id := 1) (ops := r_towpathlaw01_Book_keepByte_3) o_towpathlaw01_Book_keepByte_3 (by kernel_rfl) (by kernel_rfl) (by kernel_rfl) (by kernel_rfl) (fun w2 hw => ?_)
    replace h := h w2 hw
    clear hw
    refine mreg_run [.plain, .plain] 2 [(0, [], Value.pointer b_), (1, [], Value.slice l_.ptr l_.len l_.cap), (11, [], Value.pointer b_), (12, [], Value.pointer b_)] (by kernel_rfl) (by kernel_rfl) ?_
    obtain ⟨hp_2, h⟩ := h
    refine mreg_conv [(0, [], Value.pointer b_), (1, [], Value.slice l_.ptr l_.len l_.cap), (11, [], Value.pointer b_), (12, [], Value.pointer (some ⟨(pblk b_), (poff b_), none⟩))] (congrArg (fun pp => ([(0, [], Value.pointer b_), (1, [], Value.slice l_.ptr l_.len l_.cap), (11, [], Value.pointer b_), (12, [], Value.pointer pp)] : GEnv)) hp_2) ?_
    refine mreg_run [.plain] 3 [(0, [], Value.pointer b_), (1, [], Value.slice l_.ptr l_.len l_.cap), (11, [], Value.pointer b_), (12, [], Value.pointer (some ⟨(pblk b_), (poff b_), none⟩)), (13, [], Value.pointer (some ⟨(pblk b_), (poff b_), none⟩))] (by kernel_rfl) (by kernel_rfl) ?_
    refine mreg_run [.plain] 4 [(0, [], Value.pointer b_), (1, [], Value.slice l_.ptr l_.len l_.cap), (11, [], Value.pointer b_), (14, [], Value.pointer (some ⟨(pblk b_), (poff b_) + 1, none⟩))] (by kernel_rfl) (by kernel_rfl) ?_
    obtain ⟨v15, hc, h⟩ := h
    refine mreg_load1 (i := 4) (by kernel_rfl) (t := 31) (a := (Go.Operand.tmp 14)) (b := (pblk b_)) (o := ((poff b_) + 1)) (ty := 31) (dst := some 15) (by kernel_rfl) (by kernel_rfl) (by kernel_rfl) hc ?_
    refine mreg_run [.plain, .plain] 7 [(11, [], Value.pointer b_), (15, [], Value.slice v15.ptr v15.len v15.cap), (16, [], Value.slice l_.ptr l_.len l_.cap), (17, [], Value.pointer b_)] (by kernel_rfl) (by kernel_rfl) ?_
    obtain ⟨hp_3, h⟩ := h
    refine mreg_conv [(11, [], Value.pointer b_), (15, [], Value.slice v15.ptr v15.len v15.cap), (16, [], Value.slice l_.ptr l_.len l_.cap), (17, [], Value.pointer (some ⟨(pblk b_), (poff b_), none⟩))] (congrArg (fun pp => ([(11, [], Value.pointer b_), (15, [], Value.slice v15.ptr v15.len v15.cap), (16, [], Value.slice l_.ptr l_.len l_.cap), (17, [], Value.pointer pp)] : GEnv)) hp_3) ?_
    refine mreg_run [.plain] 8 [(11, [], Value.pointer b_), (15, [], Value.slice v15.ptr v15.len v15.cap), (16, [], Value.slice l_.ptr l_.len l_.cap), (17, [], Value.pointer (some ⟨(pblk b_), (poff b_), none⟩)), (18, [], Value.pointer (some ⟨(pblk b_), (poff b_), none⟩))] (by kernel_rfl) (by kernel_rfl) ?_
    refine mreg_run [.plain] 9 [(11, [], Value.pointer b_), (15, [], Value.slice v15.ptr v15.len v15.cap), (16, [], Value.slice l_.ptr l_.len l_.cap), (19, [], Value.pointer (some ⟨(pblk b_), (poff b_), none⟩))] (by kernel_rfl) (by kernel_rfl) ?_
    obtain ⟨v20, hc, h⟩ := h
    refine mreg_load1 (i := 9) (by kernel_rfl) (t := 3) (a := (Go.Operand.tmp 19)) (b := (pblk b_)) (o := (poff b_)) (ty := 3) (dst := some 20) (by kernel_rfl) (by kernel_rfl) (by kernel_rfl) hc ?_
    refine mreg_run [.plain] 11 [(11, [], Value.pointer b_), (15, [], Value.slice v15.ptr v15.len v15.cap), (21, [], Value.agg #[Value.slice l_.ptr l_.len l_.cap, Value.slice none 0 0, Value.int .i64 v20])] (by kernel_rfl) (by kernel_rfl) ?_
    refine mreg_new (op := (Go.Op.buildSlice 31 1 #[(0, (Go.Operand.tmp 21))])) (ty := 31) (dst := some 22) 11 [10, 5, 9, 8, 7, 6] [(4, fun w' => w'.cell? ⟨(pblk b_), (poff b_) + 1, none⟩ = some (Value.slice v15.ptr v15.len v15.cap))] (fun bb => Value.slice (some ⟨bb, 0, none⟩) 1 1) (Obj.cells ([Value.slice l_.ptr l_.len l_.cap, Value.slice none 0 0, Value.int .i64 v20]).toArray ty_towpathlaw01_heldByte (0, 0)) (by kernel_rfl) (by kernel_rfl) (by kernel_rfl) (by kernel_rfl) (by kernel_rfl) (by kernel_rfl) (fun b_1 w3 hb hw => ?_)
    replace h := h b_1 w3 hb hw
    clear hb hw
    obtain ⟨hk0, h⟩ := h
    refine ⟨⟨hk0, trivial⟩, ?_⟩
    refine mreg_run [] 12 [(11, [], Value.pointer b_), (15, [], Value.slice v15.ptr v15.len v15.cap), (22, [], Value.slice (some ⟨b_1, 0, none⟩) 1 1)] (by kernel_rfl) (by kernel_rfl) ?_
    obtain ⟨src, hs, h⟩ := h
    refine mreg_append (t := 31) (tx := 31) (e := 67) (a := (Go.Operand.tmp 15)) (xo := (Go.Operand.tmp 22)) (s := v15) (x := (Slc.mk (some ⟨b_1, 0, none⟩) 1 1)) (sz := 3) (by_ := 56) (zs := [Value.slice none 0 0, Value.slice none 0 0, Value.int .i64 0]) (ty := 31) (dst := some 23) 12 [4, 11, 3, 10, 2, 5, 9, 1, 8, 7, 6] [] src (by kernel_rfl) (by kernel_rfl) (by kernel_rfl) (by kernel_rfl) (by kernel_rfl) (by kernel_rfl) (by kernel_rfl) (by kernel_rfl) (by kernel_rfl) (by kernel_rfl) (by kernel_rfl) (by kernel_rfl) (by kernel_rfl) hs (AppendW.mono h (fun v23 w4 h => ?_))
    refine ⟨trivial, ?_⟩
    refine mreg_run [] 13 [(11, [], Value.pointer b_), (23, [], Value.slice v23.ptr v23.len v23.cap)] (by kernel_rfl) (by kernel_rfl) ?_
    obtain ⟨hp_4, h⟩ := h
    refine mreg_conv [(11, [], Value.pointer (some ⟨(pblk b_), (poff b_), none⟩)), (23, [], Value.slice v23.ptr v23.len v23.cap)] (congrArg (fun pp => ([(11, [], Value.pointer pp), (23, [], Value.slice v23.ptr v23.len v23.cap)] : GEnv)) hp_4) ?_
    refine mreg_run [.plain] 14 [(11, [], Value.pointer (some ⟨(pblk b_), (poff b_), none⟩)), (23, [], Value.slice v23.ptr v23.len v23.cap), (24, [], Value.pointer (some ⟨(pblk b_), (poff b_), none⟩))] (by kernel_rfl) (by kernel_rfl) ?_
    refine mreg_run [.plain] 15 [(23, [], Value.slice v23.ptr v23.len v23.cap), (25, [], Value.pointer (some ⟨(pblk b_), (poff b_) + 1, none⟩))] (by kernel_rfl) (by kernel_rfl) ?_
    obtain ⟨hc, h⟩ := h
    refine mreg_store (t := 31) (a := (Go.Operand.tmp 25)) (x := (Go.Operand.tmp 23)) (b := (pblk b_)) (o := ((poff b_) + 1)) (k := 1) (ty := 0) (dst := none) 15 [0, 1, 2, 3, 4, 5, 6, 7, 8, 9, 10, 11, 12, 14, 13] [] [Value.slice v23.ptr v23.len v23.cap] (by kernel_rfl) (by kernel_rfl) (by kernel_rfl) (by kernel_rfl) (by kernel_rfl) (by kernel_rfl) (by kernel_rfl) (by kernel_rfl) (by kernel_rfl) (by kernel_rfl) hc (fun w5 hw => ?_)
    replace h := h w5 hw
    clear hw
    refine ⟨trivial, ?_⟩
    refine mreg_end [] (by kernel_rfl) (by kernel_rfl) (by kernel_rfl) ?_
    repeat (first | refine seqQ_exit ?_ | refine loopQ_exit ?_ | refine cutQ_exit ?_ | refine blockQ_hit ?_ | refine blockQ_miss (by kernel_rfl) ?_)
    refine retQ_normal ?_
    repeat (first | refine seqQ_ret ?_ | refine blockQ_ret ?_ | refine loopQ_ret ?_ | refine cutQ_ret ?_)
    exact retT (rs := []) (vs := []) (by kernel_rfl) (trivial) (by kernel_rfl) ⟨rfl, h⟩
  · rintro e w' ⟨v, rfl, rfl, h⟩; exact ⟨rfl, h⟩

/-! ### (*towpath/towpathlaw01.Book).fillByte (function 33) -/
noncomputable def c_towpathlaw01_Book_fillByte_0 : Code := (Tryz.f33.body).getD Code.skip
noncomputable def c_towpathlaw01_Book_fillByte_1 : Code := Code.l c_towpathlaw01_Book_fillByte_0
noncomputable def r_towpathlaw01_Book_fillByte_1 : Array Oper := Code.ops c_towpathlaw01_Book_fillByte_1
noncomputable def c_towpathlaw01_Book_fillByte_3 : Code := Code.r c_towpathlaw01_Book_fillByte_0
noncomputable def c_towpathlaw01_Book_fillByte_4 : Code := Code.l c_towpathlaw01_Book_fillByte_3
noncomputable def c_towpathlaw01_Book_fillByte_5 : Code := Code.l c_towpathlaw01_Book_fillByte_4
noncomputable def c_towpathlaw01_Book_fillByte_6 : Code := Code.l c_towpathlaw01_Book_fillByte_5
noncomputable def c_towpathlaw01_Book_fillByte_7 : Code := Code.l c_towpathlaw01_Book_fillByte_6
noncomputable def r_towpathlaw01_Book_fillByte_7 : Array Oper := Code.ops c_towpathlaw01_Book_fillByte_7
noncomputable def c_towpathlaw01_Book_fillByte_9 : Code := Code.r c_towpathlaw01_Book_fillByte_6
noncomputable def c_towpathlaw01_Book_fillByte_10 : Code := Code.l c_towpathlaw01_Book_fillByte_9
noncomputable def c_towpathlaw01_Book_fillByte_11 : Code := Code.r c_towpathlaw01_Book_fillByte_9
noncomputable def c_towpathlaw01_Book_fillByte_12 : Code := Code.r c_towpathlaw01_Book_fillByte_5
noncomputable def c_towpathlaw01_Book_fillByte_13 : Code := Code.l c_towpathlaw01_Book_fillByte_12
noncomputable def c_towpathlaw01_Book_fillByte_14 : Code := Code.l c_towpathlaw01_Book_fillByte_13
noncomputable def c_towpathlaw01_Book_fillByte_15 : Code := Code.l c_towpathlaw01_Book_fillByte_14
noncomputable def r_towpathlaw01_Book_fillByte_15 : Array Oper := Code.ops c_towpathlaw01_Book_fillByte_15
noncomputable def c_towpathlaw01_Book_fillByte_17 : Code := Code.r c_towpathlaw01_Book_fillByte_14
noncomputable def c_towpathlaw01_Book_fillByte_18 : Code := Code.l c_towpathlaw01_Book_fillByte_17
noncomputable def r_towpathlaw01_Book_fillByte_18 : Array Oper := Code.ops c_towpathlaw01_Book_fillByte_18
noncomputable def c_towpathlaw01_Book_fillByte_20 : Code := Code.r c_towpathlaw01_Book_fillByte_17
noncomputable def c_towpathlaw01_Book_fillByte_21 : Code := Code.l c_towpathlaw01_Book_fillByte_20
noncomputable def c_towpathlaw01_Book_fillByte_22 : Code := Code.l c_towpathlaw01_Book_fillByte_21
noncomputable def c_towpathlaw01_Book_fillByte_23 : Code := Code.l c_towpathlaw01_Book_fillByte_22
noncomputable def c_towpathlaw01_Book_fillByte_24 : Code := Code.l c_towpathlaw01_Book_fillByte_23
noncomputable def r_towpathlaw01_Book_fillByte_24 : Array Oper := Code.ops c_towpathlaw01_Book_fillByte_24
noncomputable def c_towpathlaw01_Book_fillByte_26 : Code := Code.r c_towpathlaw01_Book_fillByte_23
noncomputable def c_towpathlaw01_Book_fillByte_27 : Code := Code.l c_towpathlaw01_Book_fillByte_26
noncomputable def c_towpathlaw01_Book_fillByte_28 : Code := Code.r c_towpathlaw01_Book_fillByte_26
noncomputable def c_towpathlaw01_Book_fillByte_29 : Code := Code.r c_towpathlaw01_Book_fillByte_22
noncomputable def c_towpathlaw01_Book_fillByte_30 : Code := Code.l c_towpathlaw01_Book_fillByte_29
noncomputable def c_towpathlaw01_Book_fillByte_31 : Code := Code.l c_towpathlaw01_Book_fillByte_30
noncomputable def r_towpathlaw01_Book_fillByte_31 : Array Oper := Code.ops c_towpathlaw01_Book_fillByte_31
noncomputable def c_towpathlaw01_Book_fillByte_33 : Code := Code.r c_towpathlaw01_Book_fillByte_29
noncomputable def r_towpathlaw01_Book_fillByte_33 : Array Oper := Code.ops c_towpathlaw01_Book_fillByte_33
noncomputable def c_towpathlaw01_Book_fillByte_35 : Code := Code.r c_towpathlaw01_Book_fillByte_12
noncomputable def r_towpathlaw01_Book_fillByte_35 : Array Oper := Code.ops c_towpathlaw01_Book_fillByte_35
def o_towpathlaw01_Book_fillByte_31 : List Nat := [0, 1, 2, 3, 4, 5, 6, 7]

set_option maxRecDepth 100000 in
set_option maxHeartbeats 4000000 in
theorem S_towpathlaw01_Book_fillByte {b_ : Option Addr} {w : World} {R : World → Prop} (h : F_towpathlaw01_Book_fillByte b_ R w) : C_towpathlaw01_Book_fillByte b_ w R := by
  unfold F_towpathlaw01_Book_fillByte at h
  unfold C_towpathlaw01_Book_fillByte
  refine Calls.mono (calls_of_wpE (args := [Value.pointer b_]) (R := fun v w' => v = Value.tuple #[] ∧ R w') Tryz.func33 (c := c_towpathlaw01_Book_fillByte_0) (by kernel_rfl) 35 (by kernel_rfl) (by kernel_rfl) [(0, Value.pointer b_)] (by kernel_rfl) ?_) ?_
  · refine wpE_seq (x := c_towpathlaw01_Book_fillByte_1) (y := c_towpathlaw01_Book_fillByte_3) (by kernel_rfl) ?_
    refine wpE_region (id := 0) (ops := r_towpathlaw01_Book_fillByte_1) (by kernel_rfl) ?_
    refine reg_run [.plain] 1 [(0, [], Value.pointer b_), (2, [], Value.int .i64 0)] (by kernel_rfl) (by kernel_rfl) ?_
    refine reg_end [(0, Value.pointer b_), (2, Value.int .i64 0)] (by kernel_rfl) (by kernel_rfl) ?_
    change WpE _ _ c_towpathlaw01_Book_fillByte_3 _ _ _
    refine wpE_block (id := 0) (x := c_towpathlaw01_Book_fillByte_4) (by kernel_rfl) ?_
    obtain ⟨I, μ, h0, hr⟩ := h
    refine wpE_loop (x := c_towpathlaw01_Book_fillByte_5) (by kernel_rfl) (fun m l w => ∃ (i : Int), l = [(0, Value.pointer b_), (2, Value.int .i64 i)] ∧ I i w ∧ μ i w = m) (l' := [(0, Value.pointer b_), (2, Value.int .i64 0)]) (Sub.mk (by kernel_rfl)) ⟨0, rfl, h0, rfl⟩ ?_
    rintro _ _ w1 ⟨i, rfl, hI, rfl⟩
    obtain ⟨again_, again__h, h⟩ : ∃ again_ : Int → World → Prop, (∀ i' w', again_ i' w' → I i' w' ∧ μ i' w' < μ i w1) ∧ F_towpathlaw01_Book_fillByte_L0 b_ R again_ i w1 := ⟨_, fun _ _ h => h, hr i w1 hI⟩
    clear h0 hI
    unfold F_towpathlaw01_Book_fillByte_L0 at h
    refine wpE_seq (x := c_towpathlaw01_Book_fillByte_6) (y := c_towpathlaw01_Book_fillByte_12) (by kernel_rfl) ?_
    refine wpE_seq (x := c_towpathlaw01_Book_fillByte_7) (y := c_towpathlaw01_Book_fillByte_9) (by kernel_rfl) ?_
    refine wpE_region (id := 1) (ops := r_towpathlaw01_Book_fillByte_7) (by kernel_rfl) ?_
    refine reg_run [.plain, .plain] 2 [(0, [], Value.pointer b_), (2, [], Value.int .i64 i), (5, [], Value.int .i64 i), (6, [], Value.pointer b_)] (by kernel_rfl) (by kernel_rfl) ?_
    obtain ⟨hp_3, h⟩ := h
    refine reg_conv [(0, [], Value.pointer b_), (2, [], Value.int .i64 i), (5, [], Value.int .i64 i), (6, [], Value.pointer (some ⟨(pblk b_), (poff b_), none⟩))] (congrArg (fun pp => ([(0, [], Value.pointer b_), (2, [], Value.int .i64 i), (5, [], Value.int .i64 i), (6, [], Value.pointer pp)] : GEnv)) hp_3) ?_
    refine reg_run [.plain] 3 [(0, [], Value.pointer b_), (2, [], Value.int .i64 i), (5, [], Value.int .i64 i), (6, [], Value.pointer (some ⟨(pblk b_), (poff b_), none⟩)), (7, [], Value.pointer (some ⟨(pblk b_), (poff b_), none⟩))] (by kernel_rfl) (by kernel_rfl) ?_
    refine reg_run [.plain] 4 [(0, [], Value.pointer b_), (2, [], Value.int .i64 i), (5, [], Value.int .i64 i), (8, [], Value.pointer (some ⟨(pblk b_), (poff b_) + 1, none⟩))] (by kernel_rfl) (by kernel_rfl) ?_
    obtain ⟨v9, hc, h⟩ := h
    refine reg_load1 (t := 31) (a := (Go.Operand.tmp 8)) (b := (pblk b_)) (o := ((poff b_) + 1)) (ty := 31) (dst := some 9) (by kernel_rfl) (by kernel_rfl) (by kernel_rfl) hc ?_
    refine reg_run [.plain, .plain] 7 [(0, [], Value.pointer b_), (2, [], Value.int .i64 i), (11, [], Value.bool (decide (i < ((v9.len : Nat) : Int))))] (by kernel_rfl) (by kernel_rfl) ?_
    refine reg_end [(0, Value.pointer b_), (2, Value.int .i64 i), (11, Value.bool (decide (i < ((v9.len : Nat) : Int))))] (by kernel_rfl) (by kernel_rfl) ?_
    change WpE _ _ c_towpathlaw01_Book_fillByte_9 _ _ _
    refine wpE_cond (o := (Operand.tmp 11)) (b := (decide (i < ((v9.len : Nat) : Int)))) (x := c_towpathlaw01_Book_fillByte_10) (y := c_towpathlaw01_Book_fillByte_11) (by kernel_rfl) (by kernel_rfl) (fun hb => ?_) (fun hb => ?_)
    · replace h := h.1 hb
      refine wpE_skip (by kernel_rfl) ?_
      change WpE _ _ c_towpathlaw01_Book_fillByte_12 _ _ _
      refine wpE_seq (x := c_towpathlaw01_Book_fillByte_13) (y := c_towpathlaw01_Book_fillByte_35) (by kernel_rfl) ?_
      refine wpE_block (id := 1) (x := c_towpathlaw01_Book_fillByte_14) (by kernel_rfl) ?_
      refine wpE_seq (x := c_towpathlaw01_Book_fillByte_15) (y := c_towpathlaw01_Book_fillByte_17) (by kernel_rfl) ?_
      refine wpE_region (id := 3) (ops := r_towpathlaw01_Book_fillByte_15) (by kernel_rfl) ?_
      refine reg_run [.plain] 1 [(0, [], Value.pointer b_), (2, [], Value.int .i64 i), (14, [], Value.pointer b_)] (by kernel_rfl) (by kernel_rfl) ?_
      obtain ⟨hp_12, h⟩ := h
      refine reg_conv [(0, [], Value.pointer b_), (2, [], Value.int .i64 i), (14, [], Value.pointer (some ⟨(pblk b_), (poff b_), none⟩))] (congrArg (fun pp => ([(0, [], Value.pointer b_), (2, [], Value.int .i64 i), (14, [], Value.pointer pp)] : GEnv)) hp_12) ?_
      refine reg_run [.plain] 2 [(0, [], Value.pointer b_), (2, [], Value.int .i64 i), (14, [], Value.pointer (some ⟨(pblk b_), (poff b_), none⟩)), (15, [], Value.pointer (some ⟨(pblk b_), (poff b_), none⟩))] (by kernel_rfl) (by kernel_rfl) ?_
      refine reg_run [.plain] 3 [(0, [], Value.pointer b_), (2, [], Value.int .i64 i), (16, [], Value.pointer (some ⟨(pblk b_), (poff b_) + 1, none⟩))] (by kernel_rfl) (by kernel_rfl) ?_
      obtain ⟨v17, hc, h⟩ := h
      refine reg_load1 (t := 31) (a := (Go.Operand.tmp 16)) (b := (pblk b_)) (o := ((poff b_) + 1)) (ty := 31) (dst := some 17) (by kernel_rfl) (by kernel_rfl) (by kernel_rfl) hc ?_
      refine reg_run [.plain] 5 [(0, [], Value.pointer b_), (2, [], Value.int .i64 i), (17, [], Value.slice v17.ptr v17.len v17.cap), (18, [], Value.int .i64 i)] (by kernel_rfl) (by kernel_rfl) ?_
      obtain ⟨hp_13, h⟩ := h
      refine reg_conv [(0, [], Value.pointer b_), (2, [], Value.int .i64 i), (17, [], Value.slice (some ⟨(pblk v17.ptr), (poff v17.ptr), none⟩) v17.len v17.cap), (18, [], Value.int .i64 i)] (congrArg (fun pp => ([(0, [], Value.pointer b_), (2, [], Value.int .i64 i), (17, [], Value.slice pp v17.len v17.cap), (18, [], Value.int .i64 i)] : GEnv)) hp_13) ?_
      obtain ⟨h0, h1, h⟩ := h
      refine reg_indexS (t := 31) (e := 67) (x := (Go.Operand.tmp 17)) (ix := (Go.Operand.tmp 18)) (b := (pblk v17.ptr)) (o := (poff v17.ptr)) (l := v17.len) (c := v17.cap) (k := .i64) (j := i) (ty := 0) (dst := some 19) (sz := 3) (by kernel_rfl) (by kernel_rfl) (by kernel_rfl) (by kernel_rfl) (by kernel_rfl) h0 h1 ?_
      refine reg_run [] 6 [(0, [], Value.pointer b_), (2, [], Value.int .i64 i), (19, [], Value.pointer (some ⟨(pblk v17.ptr), (poff v17.ptr) + i.toNat * 3, none⟩))] (by kernel_rfl) (by kernel_rfl) ?_
      obtain ⟨v20, hc, h⟩ := h
      refine reg_loadN (t := 67) (a := (Go.Operand.tmp 19)) (b := (pblk v17.ptr)) (o := ((poff v17.ptr) + i.toNat * 3)) (ty := 67) (dst := some 20) [Value.slice v20.l.ptr v20.l.len v20.l.cap, Value.slice v20.long.ptr v20.long.len v20.long.cap, Value.int .i64 v20.n] (by kernel_rfl) (by kernel_rfl) (by kernel_rfl) (k := 3) (by kernel_rfl) (by kernel_rfl) hc ?_
      refine reg_run [] 7 [(0, [], Value.pointer b_), (2, [], Value.int .i64 i), (20, [], Value.agg #[Value.slice v20.l.ptr v20.l.len v20.l.cap, Value.slice v20.long.ptr v20.long.len v20.long.cap, Value.int .i64 v20.n])] (by kernel_rfl) (by kernel_rfl) ?_
      refine reg_new (op := (Go.Op.alloc 67)) (ty := 0) (dst := some 3) (fun bb => Value.pointer (some ⟨bb, 0, none⟩)) (Obj.cells ([Value.slice none 0 0, Value.slice none 0 0, Value.int .i64 0]).toArray ty_towpathlaw01_heldByte (0, 0)) (by kernel_rfl) (by kernel_rfl) (fun b_1 w2 hb hw => ?_)
      replace h := h b_1 w2 hb hw
      clear hb hw
      refine reg_run [] 8 [(0, [], Value.pointer b_), (2, [], Value.int .i64 i), (3, [], Value.pointer (some ⟨b_1, 0, none⟩)), (20, [], Value.agg #[Value.slice v20.l.ptr v20.l.len v20.l.cap, Value.slice v20.long.ptr v20.long.len v20.long.cap, Value.int .i64 v20.n])] (by kernel_rfl) (by kernel_rfl) ?_
      obtain ⟨hc, h⟩ := h
      refine reg_store (t := 67) (a := (Go.Operand.tmp 3)) (x := (Go.Operand.tmp 20)) (b := b_1) (o := 0) (ty := 0) (dst := none) [Value.slice v20.l.ptr v20.l.len v20.l.cap, Value.slice v20.long.ptr v20.long.len v20.long.cap, Value.int .i64 v20.n] (by kernel_rfl) (by kernel_rfl) (by kernel_rfl) (k := 3) (by kernel_rfl) (by kernel_rfl) (by kernel_rfl) hc (fun w3 hw => ?_)
      replace h := h w3 hw
      clear hw
      refine reg_end [(0, Value.pointer b_), (2, Value.int .i64 i), (3, Value.pointer (some ⟨b_1, 0, none⟩))] (by kernel_rfl) (by kernel_rfl) ?_
      change WpE _ _ c_towpathlaw01_Book_fillByte_17 _ _ _
      refine wpE_seq (x := c_towpathlaw01_Book_fillByte_18) (y := c_towpathlaw01_Book_fillByte_20) (by kernel_rfl) ?_
      refine wpE_region (id := 4) (ops := r_towpathlaw01_Book_fillByte_18) (by kernel_rfl) ?_
      refine reg_run [.plain] 1 [(0, [], Value.pointer b_), (2, [], Value.int .i64 i), (3, [], Value.pointer (some ⟨b_1, 0, none⟩)), (4, [], Value.int .i64 0)] (by kernel_rfl) (by kernel_rfl) ?_
      refine reg_end [(0, Value.pointer b_), (2, Value.int .i64 i), (3, Value.pointer (some ⟨b_1, 0, none⟩)), (4, Value.int .i64 0)] (by kernel_rfl) (by kernel_rfl) ?_
      change WpE _ _ c_towpathlaw01_Book_fillByte_20 _ _ _
      refine wpE_block (id := 2) (x := c_towpathlaw01_Book_fillByte_21) (by kernel_rfl) ?_
      obtain ⟨I, μ, h0, hr⟩ := h
      refine wpE_loop (x := c_towpathlaw01_Book_fillByte_22) (by kernel_rfl) (fun m l w => ∃ (k : Int), l = [(0, Value.pointer b_), (2, Value.int .i64 i), (3, Value.pointer (some ⟨b_1, 0, none⟩)), (4, Value.int .i64 k)] ∧ I k w ∧ μ k w = m) (l' := [(0, Value.pointer b_), (2, Value.int .i64 i), (3, Value.pointer (some ⟨b_1, 0, none⟩)), (4, Value.int .i64 0)]) (Sub.mk (by kernel_rfl)) ⟨0, rfl, h0, rfl⟩ ?_
      rintro _ _ w4 ⟨k, rfl, hI, rfl⟩
      obtain ⟨again_1, again_1_h, h⟩ : ∃ again_1 : Int → World → Prop, (∀ k' w', again_1 k' w' → I k' w' ∧ μ k' w' < μ k w4) ∧ F_towpathlaw01_Book_fillByte_L1 i again_ b_1 again_1 k w4 := ⟨_, fun _ _ h => h, hr k w4 hI⟩
      clear h0 hI
      unfold F_towpathlaw01_Book_fillByte_L1 at h
      refine wpE_seq (x := c_towpathlaw01_Book_fillByte_23) (y := c_towpathlaw01_Book_fillByte_29) (by kernel_rfl) ?_
      refine wpE_seq (x := c_towpathlaw01_Book_fillByte_24) (y := c_towpathlaw01_Book_fillByte_26) (by kernel_rfl) ?_
      refine wpE_region (id := 5) (ops := r_towpathlaw01_Book_fillByte_24) (by kernel_rfl) ?_
      refine reg_run [.plain, .plain] 2 [(0, [], Value.pointer b_), (2, [], Value.int .i64 i), (3, [], Value.pointer (some ⟨b_1, 0, none⟩)), (4, [], Value.int .i64 k), (21, [], Value.int .i64 k), (22, [], Value.pointer (some ⟨b_1, 0, none⟩))] (by kernel_rfl) (by kernel_rfl) ?_
      obtain ⟨v23, hc, h⟩ := h
      refine reg_load1 (t := 45) (a := (Go.Operand.tmp 22)) (b := b_1) (o := 0) (ty := 45) (dst := some 23) (by kernel_rfl) (by kernel_rfl) (by kernel_rfl) hc ?_
      refine reg_run [.plain, .plain] 5 [(0, [], Value.pointer b_), (2, [], Value.int .i64 i), (3, [], Value.pointer (some ⟨b_1, 0, none⟩)), (4, [], Value.int .i64 k), (25, [], Value.bool (decide (k < ((v23.len : Nat) : Int))))] (by kernel_rfl) (by kernel_rfl) ?_
      refine reg_end [(0, Value.pointer b_), (2, Value.int .i64 i), (3, Value.pointer (some ⟨b_1, 0, none⟩)), (4, Value.int .i64 k), (25, Value.bool (decide (k < ((v23.len : Nat) : Int))))] (by kernel_rfl) (by kernel_rfl) ?_
      change WpE _ _ c_towpathlaw01_Book_fillByte_26 _ _ _
      refine wpE_cond (o := (Operand.tmp 25)) (b := (decide (k < ((v23.len : Nat) : Int)))) (x := c_towpathlaw01_Book_fillByte_27) (y := c_towpathlaw01_Book_fillByte_28) (by kernel_rfl) (by kernel_rfl) (fun hb => ?_) (fun hb => ?_)
      · replace h := h.1 hb
        refine wpE_skip (by kernel_rfl) ?_
        change WpE _ _ c_towpathlaw01_Book_fillByte_29 _ _ _
        refine wpE_seq (x := c_towpathlaw01_Book_fillByte_30) (y := c_towpathlaw01_Book_fillByte_33) (by kernel_rfl) ?_
        refine wpE_block (id := 3) (x := c_towpathlaw01_Book_fillByte_31) (by kernel_rfl) ?_
        refine wpE_mixregion (id := 7) (ops := r_towpathlaw01_Book_fillByte_31) o_towpathlaw01_Book_fillByte_31 (by kernel_rfl) (by kernel_rfl) (by kernel_rfl) (by kernel_rfl) (fun w5 hw => ?_)
        replace h := h w5 hw
        clear hw
        refine mreg_run [.plain] 1 [(0, [], Value.pointer b_), (2, [], Value.int .i64 i), (3, [], Value.pointer (some ⟨b_1, 0, none⟩)), (4, [], Value.int .i64 k), (28, [], Value.pointer (some ⟨b_1, 0, none⟩))] (by kernel_rfl) (by kernel_rfl) ?_
        obtain ⟨v29, hc, h⟩ := h
        refine mreg_load1 (i := 1) (by kernel_rfl) (t := 45) (a := (Go.Operand.tmp 28)) (b := b_1) (o := 0) (ty := 45) (dst := some 29) (by kernel_rfl) (by kernel_rfl) (by kernel_rfl) hc ?_
        refine mreg_run [.plain, .plain] 4 [(0, [], Value.pointer b_), (2, [], Value.int .i64 i), (3, [], Value.pointer (some ⟨b_1, 0, none⟩)), (4, [], Value.int .i64 k), (29, [], Value.slice v29.ptr v29.len v29.cap), (30, [], Value.int .i64 k), (31, [], Value.pointer (some ⟨b_1, 2, none⟩))] (by kernel_rfl) (by kernel_rfl) ?_
        obtain ⟨v32, hc, h⟩ := h
        refine mreg_load1 (i := 4) (by kernel_rfl) (t := 3) (a := (Go.Operand.tmp 31)) (b := b_1) (o := 2) (ty := 3) (dst := some 32) (by kernel_rfl) (by kernel_rfl) (by kernel_rfl) hc ?_
        refine mreg_run [] 5 [(0, [], Value.pointer b_), (2, [], Value.int .i64 i), (3, [], Value.pointer (some ⟨b_1, 0, none⟩)), (4, [], Value.int .i64 k), (29, [], Value.slice v29.ptr v29.len v29.cap), (30, [], Value.int .i64 k), (32, [], Value.int .i64 v32)] (by kernel_rfl) (by kernel_rfl) ?_
        refine mreg_enter (op := (Go.Op.call (Go.Call.mk (Go.Callee.value (Go.Operand.func 68)) #[(Go.Operand.tmp 32)] #[3]))) (ty := 5) (dst := some 33) 5 [4, 3] [(1, fun w' => w'.cell? ⟨b_1, 0, none⟩ = some (Value.slice v29.ptr v29.len v29.cap))] 68 #[Value.int .i64 v32] (by kernel_rfl) (by kernel_rfl) (by kernel_rfl) (by kernel_rfl) (by kernel_rfl) (fun ww => by kernel_rfl) (Calls.mono h ?_)
        rintro _ w6 ⟨v33, rfl, h⟩
        obtain ⟨hk0, h⟩ := h
        refine ⟨_, rfl, ⟨hk0, trivial⟩, ?_⟩
        refine mreg_run [] 6 [(0, [], Value.pointer b_), (2, [], Value.int .i64 i), (3, [], Value.pointer (some ⟨b_1, 0, none⟩)), (4, [], Value.int .i64 k), (29, [], Value.slice v29.ptr v29.len v29.cap), (30, [], Value.int .i64 k), (33, [], Value.int .u8 v33)] (by kernel_rfl) (by kernel_rfl) ?_
        obtain ⟨hp_15, h⟩ := h
        refine mreg_conv [(0, [], Value.pointer b_), (2, [], Value.int .i64 i), (3, [], Value.pointer (some ⟨b_1, 0, none⟩)), (4, [], Value.int .i64 k), (29, [], Value.slice (some ⟨(pblk v29.ptr), (poff v29.ptr), none⟩) v29.len v29.cap), (30, [], Value.int .i64 k), (33, [], Value.int .u8 v33)] (congrArg (fun pp => ([(0, [], Value.pointer b_), (2, [], Value.int .i64 i), (3, [], Value.pointer (some ⟨b_1, 0, none⟩)), (4, [], Value.int .i64 k), (29, [], Value.slice pp v29.len v29.cap), (30, [], Value.int .i64 k), (33, [], Value.int .u8 v33)] : GEnv)) hp_15) ?_
        obtain ⟨h0, h1, h⟩ := h
        refine mreg_indexS1 (i := 6) (by kernel_rfl) (t := 45) (e := 5) (x := (Go.Operand.tmp 29)) (ix := (Go.Operand.tmp 30)) (b := (pblk v29.ptr)) (o := (poff v29.ptr)) (l := v29.len) (c := v29.cap) (k := .i64) (j := k) (ty := 0) (dst := some 34) (by kernel_rfl) (by kernel_rfl) (by kernel_rfl) (by kernel_rfl) (by kernel_rfl) h0 h1 ?_
        refine mreg_run [] 7 [(0, [], Value.pointer b_), (2, [], Value.int .i64 i), (3, [], Value.pointer (some ⟨b_1, 0, none⟩)), (4, [], Value.int .i64 k), (33, [], Value.int .u8 v33), (34, [], Value.pointer (some ⟨(pblk v29.ptr), (poff v29.ptr) + k.toNat, none⟩))] (by kernel_rfl) (by kernel_rfl) ?_
        obtain ⟨hc, h⟩ := h
        refine mreg_store (t := 5) (a := (Go.Operand.tmp 34)) (x := (Go.Operand.tmp 33)) (b := (pblk v29.ptr)) (o := ((poff v29.ptr) + k.toNat)) (k := 1) (ty := 0) (dst := none) 7 [0, 1, 2, 3, 4, 5, 6] [] [Value.int .u8 v33] (by kernel_rfl) (by kernel_rfl) (by kernel_rfl) (by kernel_rfl) (by kernel_rfl) (by kernel_rfl) (by kernel_rfl) (by kernel_rfl) (by kernel_rfl) (by kernel_rfl) hc (fun w7 hw => ?_)
        replace h := h w7 hw
        clear hw
        refine ⟨trivial, ?_⟩
        refine mreg_end [(0, Value.pointer b_), (2, Value.int .i64 i), (3, Value.pointer (some ⟨b_1, 0, none⟩)), (4, Value.int .i64 k)] (by kernel_rfl) (by kernel_rfl) (by kernel_rfl) ?_
        change WpE _ _ c_towpathlaw01_Book_fillByte_33 _ _ _
        refine wpE_region (id := 6) (ops := r_towpathlaw01_Book_fillByte_33) (by kernel_rfl) ?_
        refine reg_run [.plain, .plain, .plain] 3 [(0, [], Value.pointer b_), (2, [], Value.int .i64 i), (3, [], Value.pointer (some ⟨b_1, 0, none⟩)), (4, [], Value.int .i64 (IntKind.i64.wrap (k + 1)))] (by kernel_rfl) (by kernel_rfl) ?_
        refine reg_end [(0, Value.pointer b_), (2, Value.int .i64 i), (3, Value.pointer (some ⟨b_1, 0, none⟩)), (4, Value.int .i64 (IntKind.i64.wrap (k + 1)))] (by kernel_rfl) (by kernel_rfl) ?_
        have hb_ := again_1_h _ _ h
        exact ⟨_, hb_.2, [(0, Value.pointer b_), (2, Value.int .i64 i), (3, Value.pointer (some ⟨b_1, 0, none⟩)), (4, Value.int .i64 (IntKind.i64.wrap (k + 1)))], Sub.mk (by kernel_rfl), (IntKind.i64.wrap (k + 1)), rfl, hb_.1, rfl⟩
      · replace h := h.2 hb
        refine wpE_exit (id := 2) (by kernel_rfl) ?_
        change WpE _ _ c_towpathlaw01_Book_fillByte_35 _ _ _
        refine wpE_region (id := 2) (ops := r_towpathlaw01_Book_fillByte_35) (by kernel_rfl) ?_
        refine reg_run [.plain, .plain, .plain] 3 [(0, [], Value.pointer b_), (2, [], Value.int .i64 (IntKind.i64.wrap (i + 1)))] (by kernel_rfl) (by kernel_rfl) ?_
        refine reg_end [(0, Value.pointer b_), (2, Value.int .i64 (IntKind.i64.wrap (i + 1)))] (by kernel_rfl) (by kernel_rfl) ?_
        have hb_ := again__h _ _ h
        exact ⟨_, hb_.2, [(0, Value.pointer b_), (2, Value.int .i64 (IntKind.i64.wrap (i + 1)))], Sub.mk (by kernel_rfl), (IntKind.i64.wrap (i + 1)), rfl, hb_.1, rfl⟩
    · replace h := h.2 hb
      refine wpE_exit (id := 0) (by kernel_rfl) ?_
      repeat (first | refine seqQ_exit ?_ | refine loopQ_exit ?_ | refine cutQ_exit ?_ | refine blockQ_hit ?_ | refine blockQ_miss (by kernel_rfl) ?_)
      refine retQ_normal ?_
      repeat (first | refine seqQ_ret ?_ | refine blockQ_ret ?_ | refine loopQ_ret ?_ | refine cutQ_ret ?_)
      exact retT (rs := []) (vs := []) (by kernel_rfl) (trivial) (by kernel_rfl) ⟨rfl, h⟩
  · rintro e w' ⟨v, rfl, rfl, h⟩; exact ⟨rfl, h⟩

/-! ### (*towpath/towpathlaw01.Book).fillInt (function 34) -/
noncomputable def c_towpathlaw01_Book_fillInt_0 : Code := (Tryz.f34.body).getD Code.skip
noncomputable def c_towpathlaw01_Book_fillInt_1 : Code := Code.l c_towpathlaw01_Book_fillInt_0
noncomputable def r_towpathlaw01_Book_fillInt_1 : Array Oper := Code.ops c_towpathlaw01_Book_fillInt_1
noncomputable def c_towpathlaw01_Book_fillInt_3 : Code := Code.r c_towpathlaw01_Book_fillInt_0
noncomputable def c_towpathlaw01_Book_fillInt_4 : Code := Code.l c_towpathlaw01_Book_fillInt_3
noncomputable def c_towpathlaw01_Book_fillInt_5 : Code := Code.l c_towpathlaw01_Book_fillInt_4
noncomputable def c_towpathlaw01_Book_fillInt_6 : Code := Code.l c_towpathlaw01_Book_fillInt_5
noncomputable def c_towpathlaw01_Book_fillInt_7 : Code := Code.l c_towpathlaw01_Book_fillInt_6
noncomputable def r_towpathlaw01_Book_fillInt_7 : Array Oper := Code.ops c_towpathlaw01_Book_fillInt_7
noncomputable def c_towpathlaw01_Book_fillInt_9 : Code := Code.r c_towpathlaw01_Book_fillInt_6
noncomputable def c_towpathlaw01_Book_fillInt_10 : Code := Code.l c_towpathlaw01_Book_fillInt_9
noncomputable def c_towpathlaw01_Book_fillInt_11 : Code := Code.r c_towpathlaw01_Book_fillInt_9
noncomputable def c_towpathlaw01_Book_fillInt_12 : Code := Code.r c_towpathlaw01_Book_fillInt_5
noncomputable def c_towpathlaw01_Book_fillInt_13 : Code := Code.l c_towpathlaw01_Book_fillInt_12
noncomputable def c_towpathlaw01_Book_fillInt_14 : Code := Code.l c_towpathlaw01_Book_fillInt_13
noncomputable def c_towpathlaw01_Book_fillInt_15 : Code := Code.l c_towpathlaw01_Book_fillInt_14
noncomputable def r_towpathlaw01_Book_fillInt_15 : Array Oper := Code.ops c_towpathlaw01_Book_fillInt_15
noncomputable def c_towpathlaw01_Book_fillInt_17 : Code := Code.r c_towpathlaw01_Book_fillInt_14
noncomputable def c_towpathlaw01_Book_fillInt_18 : Code := Code.l c_towpathlaw01_Book_fillInt_17
noncomputable def r_towpathlaw01_Book_fillInt_18 : Array Oper := Code.ops c_towpathlaw01_Book_fillInt_18
noncomputable def c_towpathlaw01_Book_fillInt_20 : Code := Code.r c_towpathlaw01_Book_fillInt_17
noncomputable def c_towpathlaw01_Book_fillInt_21 : Code := Code.l c_towpathlaw01_Book_fillInt_20
noncomputable def c_towpathlaw01_Book_fillInt_22 : Code := Code.l c_towpathlaw01_Book_fillInt_21
noncomputable def c_towpathlaw01_Book_fillInt_23 : Code := Code.l c_towpathlaw01_Book_fillInt_22
noncomputable def c_towpathlaw01_Book_fillInt_24 : Code := Code.l c_towpathlaw01_Book_fillInt_23
noncomputable def r_towpathlaw01_Book_fillInt_24 : Array Oper := Code.ops c_towpathlaw01_Book_fillInt_24
noncomputable def c_towpathlaw01_Book_fillInt_26 : Code := Code.r c_towpathlaw01_Book_fillInt_23
noncomputable def c_towpathlaw01_Book_fillInt_27 : Code := Code.l c_towpathlaw01_Book_fillInt_26
noncomputable def c_towpathlaw01_Book_fillInt_28 : Code := Code.r c_towpathlaw01_Book_fillInt_26
noncomputable def c_towpathlaw01_Book_fillInt_29 : Code := Code.r c_towpathlaw01_Book_fillInt_22
noncomputable def c_towpathlaw01_Book_fillInt_30 : Code := Code.l c_towpathlaw01_Book_fillInt_29
noncomputable def c_towpathlaw01_Book_fillInt_31 : Code := Code.l c_towpathlaw01_Book_fillInt_30
noncomputable def r_towpathlaw01_Book_fillInt_31 : Array Oper := Code.ops c_towpathlaw01_Book_fillInt_31
noncomputable def c_towpathlaw01_Book_fillInt_33 : Code := Code.r c_towpathlaw01_Book_fillInt_29
noncomputable def r_towpathlaw01_Book_fillInt_33 : Array Oper := Code.ops c_towpathlaw01_Book_fillInt_33
noncomputable def c_towpathlaw01_Book_fillInt_35 : Code := Code.r c_towpathlaw01_Book_fillInt_12
noncomputable def r_towpathlaw01_Book_fillInt_35 : Array Oper := Code.ops c_towpathlaw01_Book_fillInt_35

set_option maxRecDepth 100000 in
set_option maxHeartbeats 4000000 in
theorem S_towpathlaw01_Book_fillInt {b_ : Option Addr} {w : World} {R : World → Prop} (h : F_towpathlaw01_Book_fillInt b_ R w) : C_towpathlaw01_Book_fillInt b_ w R := by
  unfold F_towpathlaw01_Book_fillInt at h
  unfold C_towpathlaw01_Book_fillInt
  refine Calls.mono (calls_of_wpE (args := [Value.pointer b_]) (R := fun v w' => v = Value.tuple #[] ∧ R w') Tryz.func34 (c := c_towpathlaw01_Book_fillInt_0) (by kernel_rfl) 35 (by kernel_rfl) (by kernel_rfl) [(0, Value.pointer b_)] (by kernel_rfl) ?_) ?_
  · refine wpE_seq (x := c_towpathlaw01_Book_fillInt_1) (y := c_towpathlaw01_Book_fillInt_3) (by kernel_rfl) ?_
    refine wpE_region (id := 0) (ops := r_towpathlaw01_Book_fillInt_1) (by kernel_rfl) ?_
    refine reg_run [.plain] 1 [(0, [], Value.pointer b_), (2, [], Value.int .i64 0)] (by kernel_rfl) (by kernel_rfl) ?_
    refine reg_end [(0, Value.pointer b_), (2, Value.int .i64 0)] (by kernel_rfl) (by kernel_rfl) ?_
    change WpE _ _ c_towpathlaw01_Book_fillInt_3 _ _ _
    refine wpE_block (id := 0) (x := c_towpathlaw01_Book_fillInt_4) (by kernel_rfl) ?_
    obtain ⟨I, μ, h0, hr⟩ := h
    refine wpE_loop (x := c_towpathlaw01_Book_fillInt_5) (by kernel_rfl) (fun m l w => ∃ (i : Int), l = [(0, Value.pointer b_), (2, Value.int .i64 i)] ∧ I i w ∧ μ i w = m) (l' := [(0, Value.pointer b_), (2, Value.int .i64 0)]) (Sub.mk (by kernel_rfl)) ⟨0, rfl, h0, rfl⟩ ?_
    rintro _ _ w1 ⟨i, rfl, hI, rfl⟩
    obtain ⟨again_, again__h, h⟩ : ∃ again_ : Int → World → Prop, (∀ i' w', again_ i' w' → I i' w' ∧ μ i' w' < μ i w1) ∧ F_towpathlaw01_Book_fillInt_L0 b_ R again_ i w1 := ⟨_, fun _ _ h => h, hr i w1 hI⟩
    clear h0 hI
    unfold F_towpathlaw01_Book_fillInt_L0 at h
    refine wpE_seq (x := c_towpathlaw01_Book_fillInt_6) (y := c_towpathlaw01_Book_fillInt_12) (by kernel_rfl) ?_
    refine wpE_seq (x := c_towpathlaw01_Book_fillInt_7) (y := c_towpathlaw01_Book_fillInt_9) (by kernel_rfl) ?_
    refine wpE_region (id := 1) (ops := r_towpathlaw01_Book_fillInt_7) (by kernel_rfl) ?_
    refine reg_run [.plain, .plain] 2 [(0, [], Value.pointer b_), (2, [], Value.int .i64 i), (5, [], Value.int .i64 i), (6, [], Value.pointer b_)] (by kernel_rfl) (by kernel_rfl) ?_
    obtain ⟨hp_3, h⟩ := h
    refine reg_conv [(0, [], Value.pointer b_), (2, [], Value.int .i64 i), (5, [], Value.int .i64 i), (6, [], Value.pointer (some ⟨(pblk b_), (poff b_), none⟩))] (congrArg (fun pp => ([(0, [], Value.pointer b_), (2, [], Value.int .i64 i), (5, [], Value.int .i64 i), (6, [], Value.pointer pp)] : GEnv)) hp_3) ?_
    refine reg_run [.plain] 3 [(0, [], Value.pointer b_), (2, [], Value.int .i64 i), (5, [], Value.int .i64 i), (6, [], Value.pointer (some ⟨(pblk b_), (poff b_), none⟩)), (7, [], Value.pointer (some ⟨(pblk b_), (poff b_), none⟩))] (by kernel_rfl) (by kernel_rfl) ?_
    refine reg_run [.plain] 4 [(0, [], Value.pointer b_), (2, [], Value.int .i64 i), (5, [], Value.int .i64 i), (8, [], Value.pointer (some ⟨(pblk b_), (poff b_) + 2, none⟩))] (by kernel_rfl) (by kernel_rfl) ?_
    obtain ⟨v9, hc, h⟩ := h
    refine reg_load1 (t := 32) (a := (Go.Operand.tmp 8)) (b := (pblk b_)) (o := ((poff b_) + 2)) (ty := 32) (dst := some 9) (by kernel_rfl) (by kernel_rfl) (by kernel_rfl) hc ?_
    refine reg_run [.plain, .plain] 7 [(0, [], Value.pointer b_), (2, [], Value.int .i64 i), (11, [], Value.bool (decide (i < ((v9.len : Nat) : Int))))] (by kernel_rfl) (by kernel_rfl) ?_
    refine reg_end [(0, Value.pointer b_), (2, Value.int .i64 i), (11, Value.bool (decide (i < ((v9.len : Nat) : Int))))] (by kernel_rfl) (by kernel_rfl) ?_
    change WpE _ _ c_towpathlaw01_Book_fillInt_9 _ _ _
    refine wpE_cond (o := (Operand.tmp 11)) (b := (decide (i < ((v9.len : Nat) : Int)))) (x := c_towpathlaw01_Book_fillInt_10) (y := c_towpathlaw01_Book_fillInt_11) (by kernel_rfl) (by kernel_rfl) (fun hb => ?_) (fun hb => ?_)
    · replace h := h.1 hb
      exact h.elim
    · replace h := h.2 hb
      refine wpE_exit (id := 0) (by kernel_rfl) ?_
      repeat (first | refine seqQ_exit ?_ | refine loopQ_exit ?_ | refine cutQ_exit ?_ | refine blockQ_hit ?_ | refine blockQ_miss (by kernel_rfl) ?_)
      refine retQ_normal ?_
      repeat (first | refine seqQ_ret ?_ | refine blockQ_ret ?_ | refine loopQ_ret ?_ | refine cutQ_ret ?_)
      exact retT (rs := []) (vs := []) (by kernel_rfl) (trivial) (by kernel_rfl) ⟨rfl, h⟩
  · rintro e w' ⟨v, rfl, rfl, h⟩; exact ⟨rfl, h⟩

/-! ### (*towpath/towpathlaw01.Book).fillText (function 35) -/
noncomputable def c_towpathlaw01_Book_fillText_0 : Code := (Tryz.f35.body).getD Code.skip
noncomputable def c_towpathlaw01_Book_fillText_1 : Code := Code.l c_towpathlaw01_Book_fillText_0
noncomputable def r_towpathlaw01_Book_fillText_1 : Array Oper := Code.ops c_towpathlaw01_Book_fillText_1
noncomputable def c_towpathlaw01_Book_fillText_3 : Code := Code.r c_towpathlaw01_Book_fillText_0
noncomputable def c_towpathlaw01_Book_fillText_4 : Code := Code.l c_towpathlaw01_Book_fillText_3
noncomputable def c_towpathlaw01_Book_fillText_5 : Code := Code.l c_towpathlaw01_Book_fillText_4
noncomputable def c_towpathlaw01_Book_fillText_6 : Code := Code.l c_towpathlaw01_Book_fillText_5
noncomputable def c_towpathlaw01_Book_fillText_7 : Code := Code.l c_towpathlaw01_Book_fillText_6
noncomputable def r_towpathlaw01_Book_fillText_7 : Array Oper := Code.ops c_towpathlaw01_Book_fillText_7
noncomputable def c_towpathlaw01_Book_fillText_9 : Code := Code.r c_towpathlaw01_Book_fillText_6
noncomputable def c_towpathlaw01_Book_fillText_10 : Code := Code.l c_towpathlaw01_Book_fillText_9
noncomputable def c_towpathlaw01_Book_fillText_11 : Code := Code.r c_towpathlaw01_Book_fillText_9
noncomputable def c_towpathlaw01_Book_fillText_12 : Code := Code.r c_towpathlaw01_Book_fillText_5
noncomputable def c_towpathlaw01_Book_fillText_13 : Code := Code.l c_towpathlaw01_Book_fillText_12
noncomputable def c_towpathlaw01_Book_fillText_14 : Code := Code.l c_towpathlaw01_Book_fillText_13
noncomputable def c_towpathlaw01_Book_fillText_15 : Code := Code.l c_towpathlaw01_Book_fillText_14
noncomputable def r_towpathlaw01_Book_fillText_15 : Array Oper := Code.ops c_towpathlaw01_Book_fillText_15
noncomputable def c_towpathlaw01_Book_fillText_17 : Code := Code.r c_towpathlaw01_Book_fillText_14
noncomputable def c_towpathlaw01_Book_fillText_18 : Code := Code.l c_towpathlaw01_Book_fillText_17
noncomputable def r_towpathlaw01_Book_fillText_18 : Array Oper := Code.ops c_towpathlaw01_Book_fillText_18
noncomputable def c_towpathlaw01_Book_fillText_20 : Code := Code.r c_towpathlaw01_Book_fillText_17
noncomputable def c_towpathlaw01_Book_fillText_21 : Code := Code.l c_towpathlaw01_Book_fillText_20
noncomputable def c_towpathlaw01_Book_fillText_22 : Code := Code.l c_towpathlaw01_Book_fillText_21
noncomputable def c_towpathlaw01_Book_fillText_23 : Code := Code.l c_towpathlaw01_Book_fillText_22
noncomputable def c_towpathlaw01_Book_fillText_24 : Code := Code.l c_towpathlaw01_Book_fillText_23
noncomputable def r_towpathlaw01_Book_fillText_24 : Array Oper := Code.ops c_towpathlaw01_Book_fillText_24
noncomputable def c_towpathlaw01_Book_fillText_26 : Code := Code.r c_towpathlaw01_Book_fillText_23
noncomputable def c_towpathlaw01_Book_fillText_27 : Code := Code.l c_towpathlaw01_Book_fillText_26
noncomputable def c_towpathlaw01_Book_fillText_28 : Code := Code.r c_towpathlaw01_Book_fillText_26
noncomputable def c_towpathlaw01_Book_fillText_29 : Code := Code.r c_towpathlaw01_Book_fillText_22
noncomputable def c_towpathlaw01_Book_fillText_30 : Code := Code.l c_towpathlaw01_Book_fillText_29
noncomputable def c_towpathlaw01_Book_fillText_31 : Code := Code.l c_towpathlaw01_Book_fillText_30
noncomputable def r_towpathlaw01_Book_fillText_31 : Array Oper := Code.ops c_towpathlaw01_Book_fillText_31
noncomputable def c_towpathlaw01_Book_fillText_33 : Code := Code.r c_towpathlaw01_Book_fillText_29
noncomputable def r_towpathlaw01_Book_fillText_33 : Array Oper := Code.ops c_towpathlaw01_Book_fillText_33
noncomputable def c_towpathlaw01_Book_fillText_35 : Code := Code.r c_towpathlaw01_Book_fillText_12
noncomputable def r_towpathlaw01_Book_fillText_35 : Array Oper := Code.ops c_towpathlaw01_Book_fillText_35

set_option maxRecDepth 100000 in
set_option maxHeartbeats 4000000 in
theorem S_towpathlaw01_Book_fillText {b_ : Option Addr} {w : World} {R : World → Prop} (h : F_towpathlaw01_Book_fillText b_ R w) : C_towpathlaw01_Book_fillText b_ w R := by
  unfold F_towpathlaw01_Book_fillText at h
  unfold C_towpathlaw01_Book_fillText
  refine Calls.mono (calls_of_wpE (args := [Value.pointer b_]) (R := fun v w' => v = Value.tuple #[] ∧ R w') Tryz.func35 (c := c_towpathlaw01_Book_fillText_0) (by kernel_rfl) 35 (by kernel_rfl) (by kernel_rfl) [(0, Value.pointer b_)] (by kernel_rfl) ?_) ?_
  · refine wpE_seq (x := c_towpathlaw01_Book_fillText_1) (y := c_towpathlaw01_Book_fillText_3) (by kernel_rfl) ?_
    refine wpE_region (id := 0) (ops := r_towpathlaw01_Book_fillText_1) (by kernel_rfl) ?_
    refine reg_run [.plain] 1 [(0, [], Value.pointer b_), (2, [], Value.int .i64 0)] (by kernel_rfl) (by kernel_rfl) ?_
    refine reg_end [(0, Value.pointer b_), (2, Value.int .i64 0)] (by kernel_rfl) (by kernel_rfl) ?_
    change WpE _ _ c_towpathlaw01_Book_fillText_3 _ _ _
    refine wpE_block (id := 0) (x := c_towpathlaw01_Book_fillText_4) (by kernel_rfl) ?_
    obtain ⟨I, μ, h0, hr⟩ := h
    refine wpE_loop (x := c_towpathlaw01_Book_fillText_5) (by kernel_rfl) (fun m l w => ∃ (i : Int), l = [(0, Value.pointer b_), (2, Value.int .i64 i)] ∧ I i w ∧ μ i w = m) (l' := [(0, Value.pointer b_), (2, Value.int .i64 0)]) (Sub.mk (by kernel_rfl)) ⟨0, rfl, h0, rfl⟩ ?_
    rintro _ _ w1 ⟨i, rfl, hI, rfl⟩
    obtain ⟨again_, again__h, h⟩ : ∃ again_ : Int → World → Prop, (∀ i' w', again_ i' w' → I i' w' ∧ μ i' w' < μ i w1) ∧ F_towpathlaw01_Book_fillText_L0 b_ R again_ i w1 := ⟨_, fun _ _ h => h, hr i w1 hI⟩
    clear h0 hI
    unfold F_towpathlaw01_Book_fillText_L0 at h
    refine wpE_seq (x := c_towpathlaw01_Book_fillText_6) (y := c_towpathlaw01_Book_fillText_12) (by kernel_rfl) ?_
    refine wpE_seq (x := c_towpathlaw01_Book_fillText_7) (y := c_towpathlaw01_Book_fillText_9) (by kernel_rfl) ?_
    refine wpE_region (id := 1) (ops := r_towpathlaw01_Book_fillText_7) (by kernel_rfl) ?_
    refine reg_run [.plain, .plain] 2 [(0, [], Value.pointer b_), (2, [], Value.int .i64 i), (5, [], Value.int .i64 i), (6, [], Value.pointer b_)] (by kernel_rfl) (by kernel_rfl) ?_
    obtain ⟨hp_3, h⟩ := h
    refine reg_conv [(0, [], Value.pointer b_), (2, [], Value.int .i64 i), (5, [], Value.int .i64 i), (6, [], Value.pointer (some ⟨(pblk b_), (poff b_), none⟩))] (congrArg (fun pp => ([(0, [], Value.pointer b_), (2, [], Value.int .i64 i), (5, [], Value.int .i64 i), (6, [], Value.pointer pp)] : GEnv)) hp_3) ?_
    refine reg_run [.plain] 3 [(0, [], Value.pointer b_), (2, [], Value.int .i64 i), (5, [], Value.int .i64 i), (6, [], Value.pointer (some ⟨(pblk b_), (poff b_), none⟩)), (7, [], Value.pointer (some ⟨(pblk b_), (poff b_), none⟩))] (by kernel_rfl) (by kernel_rfl) ?_
    refine reg_run [.plain] 4 [(0, [], Value.pointer b_), (2, [], Value.int .i64 i), (5, [], Value.int .i64 i), (8, [], Value.pointer (some ⟨(pblk b_), (poff b_) + 3, none⟩))] (by kernel_rfl) (by kernel_rfl) ?_
    obtain ⟨v9, hc, h⟩ := h
    refine reg_load1 (t := 33) (a := (Go.Operand.tmp 8)) (b := (pblk b_)) (o := ((poff b_) + 3)) (ty := 33) (dst := some 9) (by kernel_rfl) (by kernel_rfl) (by kernel_rfl) hc ?_
    refine reg_run [.plain, .plain] 7 [(0, [], Value.pointer b_), (2, [], Value.int .i64 i), (11, [], Value.bool (decide (i < ((v9.len : Nat) : Int))))] (by kernel_rfl) (by kernel_rfl) ?_
    refine reg_end [(0, Value.pointer b_), (2, Value.int .i64 i), (11, Value.bool (decide (i < ((v9.len : Nat) : Int))))] (by kernel_rfl) (by kernel_rfl) ?_
    change WpE _ _ c_towpathlaw01_Book_fillText_9 _ _ _
    refine wpE_cond (o := (Operand.tmp 11)) (b := (decide (i < ((v9.len : Nat) : Int)))) (x := c_towpathlaw01_Book_fillText_10) (y := c_towpathlaw01_Book_fillText_11) (by kernel_rfl) (by kernel_rfl) (fun hb => ?_) (fun hb => ?_)
    · replace h := h.1 hb
      exact h.elim
    · replace h := h.2 hb
      refine wpE_exit (id := 0) (by kernel_rfl) ?_
      repeat (first | refine seqQ_exit ?_ | refine loopQ_exit ?_ | refine cutQ_exit ?_ | refine blockQ_hit ?_ | refine blockQ_miss (by kernel_rfl) ?_)
      refine retQ_normal ?_
      repeat (first | refine seqQ_ret ?_ | refine blockQ_ret ?_ | refine loopQ_ret ?_ | refine cutQ_ret ?_)
      exact retT (rs := []) (vs := []) (by kernel_rfl) (trivial) (by kernel_rfl) ⟨rfl, h⟩
  · rintro e w' ⟨v, rfl, rfl, h⟩; exact ⟨rfl, h⟩
end Go.Proofs.YtckmganidgbpgaaGreatDoor
