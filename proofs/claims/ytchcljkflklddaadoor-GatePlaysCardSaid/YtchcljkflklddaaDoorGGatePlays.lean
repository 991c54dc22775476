/- WRITTEN BY PROGRAM (dec.py): for each Go function the clean formula F, the call's contract C, and the proof S that F gives C. -/
import Derived.Test.YtchcljkflklddaaDoorRows
import Derived.Test.YtchcljkflklddaaDoorGF
namespace Go.Proofs.YtchcljkflklddaaDoor
open Go
set_option linter.unusedVariables false

/-! ### towpath/towpathlaw12.GatePlays (function 3) -/
noncomputable def c_towpathlaw12_GatePlays_0 : Code := (Tryd.f3.body).getD Code.skip
noncomputable def c_towpathlaw12_GatePlays_1 : Code := Code.l c_towpathlaw12_GatePlays_0
noncomputable def r_towpathlaw12_GatePlays_1 : Array Oper := Code.ops c_towpathlaw12_GatePlays_1
noncomputable def c_towpathlaw12_GatePlays_3 : Code := Code.r c_towpathlaw12_GatePlays_0
noncomputable def c_towpathlaw12_GatePlays_4 : Code := Code.l c_towpathlaw12_GatePlays_3
noncomputable def c_towpathlaw12_GatePlays_5 : Code := Code.l c_towpathlaw12_GatePlays_4
noncomputable def r_towpathlaw12_GatePlays_5 : Array Oper := Code.ops c_towpathlaw12_GatePlays_5
noncomputable def c_towpathlaw12_GatePlays_7 : Code := Code.r c_towpathlaw12_GatePlays_4
noncomputable def c_towpathlaw12_GatePlays_8 : Code := Code.l c_towpathlaw12_GatePlays_7
noncomputable def c_towpathlaw12_GatePlays_9 : Code := Code.l c_towpathlaw12_GatePlays_8
noncomputable def r_towpathlaw12_GatePlays_9 : Array Oper := Code.ops c_towpathlaw12_GatePlays_9
noncomputable def c_towpathlaw12_GatePlays_11 : Code := Code.r c_towpathlaw12_GatePlays_8
noncomputable def c_towpathlaw12_GatePlays_12 : Code := Code.r c_towpathlaw12_GatePlays_7
noncomputable def c_towpathlaw12_GatePlays_13 : Code := Code.r c_towpathlaw12_GatePlays_3
noncomputable def c_towpathlaw12_GatePlays_14 : Code := Code.l c_towpathlaw12_GatePlays_13
noncomputable def r_towpathlaw12_GatePlays_14 : Array Oper := Code.ops c_towpathlaw12_GatePlays_14
noncomputable def c_towpathlaw12_GatePlays_16 : Code := Code.r c_towpathlaw12_GatePlays_13
noncomputable def c_towpathlaw12_GatePlays_17 : Code := Code.l c_towpathlaw12_GatePlays_16
noncomputable def r_towpathlaw12_GatePlays_17 : Array Oper := Code.ops c_towpathlaw12_GatePlays_17
noncomputable def c_towpathlaw12_GatePlays_19 : Code := Code.r c_towpathlaw12_GatePlays_16
noncomputable def c_towpathlaw12_GatePlays_20 : Code := Code.l c_towpathlaw12_GatePlays_19
noncomputable def r_towpathlaw12_GatePlays_20 : Array Oper := Code.ops c_towpathlaw12_GatePlays_20
noncomputable def c_towpathlaw12_GatePlays_22 : Code := Code.r c_towpathlaw12_GatePlays_19
noncomputable def c_towpathlaw12_GatePlays_23 : Code := Code.l c_towpathlaw12_GatePlays_22
noncomputable def c_towpathlaw12_GatePlays_24 : Code := Code.l c_towpathlaw12_GatePlays_23
noncomputable def r_towpathlaw12_GatePlays_24 : Array Oper := Code.ops c_towpathlaw12_GatePlays_24
noncomputable def c_towpathlaw12_GatePlays_26 : Code := Code.r c_towpathlaw12_GatePlays_23
noncomputable def c_towpathlaw12_GatePlays_27 : Code := Code.l c_towpathlaw12_GatePlays_26
noncomputable def c_towpathlaw12_GatePlays_28 : Code := Code.l c_towpathlaw12_GatePlays_27
noncomputable def r_towpathlaw12_GatePlays_28 : Array Oper := Code.ops c_towpathlaw12_GatePlays_28
noncomputable def c_towpathlaw12_GatePlays_30 : Code := Code.r c_towpathlaw12_GatePlays_27
noncomputable def c_towpathlaw12_GatePlays_31 : Code := Code.r c_towpathlaw12_GatePlays_26
noncomputable def c_towpathlaw12_GatePlays_32 : Code := Code.r c_towpathlaw12_GatePlays_22
noncomputable def c_towpathlaw12_GatePlays_33 : Code := Code.l c_towpathlaw12_GatePlays_32
noncomputable def r_towpathlaw12_GatePlays_33 : Array Oper := Code.ops c_towpathlaw12_GatePlays_33
noncomputable def c_towpathlaw12_GatePlays_35 : Code := Code.r c_towpathlaw12_GatePlays_32
noncomputable def c_towpathlaw12_GatePlays_36 : Code := Code.l c_towpathlaw12_GatePlays_35
noncomputable def r_towpathlaw12_GatePlays_36 : Array Oper := Code.ops c_towpathlaw12_GatePlays_36
noncomputable def c_towpathlaw12_GatePlays_38 : Code := Code.r c_towpathlaw12_GatePlays_35
noncomputable def c_towpathlaw12_GatePlays_39 : Code := Code.l c_towpathlaw12_GatePlays_38
noncomputable def r_towpathlaw12_GatePlays_39 : Array Oper := Code.ops c_towpathlaw12_GatePlays_39
noncomputable def c_towpathlaw12_GatePlays_41 : Code := Code.r c_towpathlaw12_GatePlays_38
noncomputable def c_towpathlaw12_GatePlays_42 : Code := Code.l c_towpathlaw12_GatePlays_41
noncomputable def c_towpathlaw12_GatePlays_43 : Code := Code.l c_towpathlaw12_GatePlays_42
noncomputable def r_towpathlaw12_GatePlays_43 : Array Oper := Code.ops c_towpathlaw12_GatePlays_43
noncomputable def c_towpathlaw12_GatePlays_45 : Code := Code.r c_towpathlaw12_GatePlays_42
noncomputable def c_towpathlaw12_GatePlays_46 : Code := Code.l c_towpathlaw12_GatePlays_45
noncomputable def c_towpathlaw12_GatePlays_47 : Code := Code.l c_towpathlaw12_GatePlays_46
noncomputable def r_towpathlaw12_GatePlays_47 : Array Oper := Code.ops c_towpathlaw12_GatePlays_47
noncomputable def c_towpathlaw12_GatePlays_49 : Code := Code.r c_towpathlaw12_GatePlays_46
noncomputable def c_towpathlaw12_GatePlays_50 : Code := Code.r c_towpathlaw12_GatePlays_45
noncomputable def c_towpathlaw12_GatePlays_51 : Code := Code.r c_towpathlaw12_GatePlays_41
noncomputable def c_towpathlaw12_GatePlays_52 : Code := Code.l c_towpathlaw12_GatePlays_51
noncomputable def r_towpathlaw12_GatePlays_52 : Array Oper := Code.ops c_towpathlaw12_GatePlays_52
noncomputable def c_towpathlaw12_GatePlays_54 : Code := Code.r c_towpathlaw12_GatePlays_51
noncomputable def c_towpathlaw12_GatePlays_55 : Code := Code.l c_towpathlaw12_GatePlays_54
noncomputable def r_towpathlaw12_GatePlays_55 : Array Oper := Code.ops c_towpathlaw12_GatePlays_55
noncomputable def c_towpathlaw12_GatePlays_57 : Code := Code.r c_towpathlaw12_GatePlays_54
noncomputable def c_towpathlaw12_GatePlays_58 : Code := Code.l c_towpathlaw12_GatePlays_57
noncomputable def r_towpathlaw12_GatePlays_58 : Array Oper := Code.ops c_towpathlaw12_GatePlays_58
noncomputable def c_towpathlaw12_GatePlays_60 : Code := Code.r c_towpathlaw12_GatePlays_57
noncomputable def c_towpathlaw12_GatePlays_61 : Code := Code.l c_towpathlaw12_GatePlays_60
noncomputable def c_towpathlaw12_GatePlays_62 : Code := Code.l c_towpathlaw12_GatePlays_61
noncomputable def r_towpathlaw12_GatePlays_62 : Array Oper := Code.ops c_towpathlaw12_GatePlays_62
noncomputable def c_towpathlaw12_GatePlays_64 : Code := Code.r c_towpathlaw12_GatePlays_61
noncomputable def c_towpathlaw12_GatePlays_65 : Code := Code.l c_towpathlaw12_GatePlays_64
noncomputable def c_towpathlaw12_GatePlays_66 : Code := Code.l c_towpathlaw12_GatePlays_65
noncomputable def c_towpathlaw12_GatePlays_67 : Code := Code.l c_towpathlaw12_GatePlays_66
noncomputable def c_towpathlaw12_GatePlays_68 : Code := Code.l c_towpathlaw12_GatePlays_67
noncomputable def r_towpathlaw12_GatePlays_68 : Array Oper := Code.ops c_towpathlaw12_GatePlays_68
noncomputable def c_towpathlaw12_GatePlays_70 : Code := Code.r c_towpathlaw12_GatePlays_67
noncomputable def c_towpathlaw12_GatePlays_71 : Code := Code.l c_towpathlaw12_GatePlays_70
noncomputable def c_towpathlaw12_GatePlays_72 : Code := Code.r c_towpathlaw12_GatePlays_70
noncomputable def c_towpathlaw12_GatePlays_73 : Code := Code.r c_towpathlaw12_GatePlays_66
noncomputable def c_towpathlaw12_GatePlays_74 : Code := Code.l c_towpathlaw12_GatePlays_73
noncomputable def c_towpathlaw12_GatePlays_75 : Code := Code.l c_towpathlaw12_GatePlays_74
noncomputable def c_towpathlaw12_GatePlays_76 : Code := Code.l c_towpathlaw12_GatePlays_75
noncomputable def r_towpathlaw12_GatePlays_76 : Array Oper := Code.ops c_towpathlaw12_GatePlays_76
noncomputable def c_towpathlaw12_GatePlays_78 : Code := Code.r c_towpathlaw12_GatePlays_75
noncomputable def c_towpathlaw12_GatePlays_79 : Code := Code.l c_towpathlaw12_GatePlays_78
noncomputable def r_towpathlaw12_GatePlays_79 : Array Oper := Code.ops c_towpathlaw12_GatePlays_79
noncomputable def c_towpathlaw12_GatePlays_81 : Code := Code.r c_towpathlaw12_GatePlays_78
noncomputable def c_towpathlaw12_GatePlays_82 : Code := Code.l c_towpathlaw12_GatePlays_81
noncomputable def c_towpathlaw12_GatePlays_83 : Code := Code.l c_towpathlaw12_GatePlays_82
noncomputable def r_towpathlaw12_GatePlays_83 : Array Oper := Code.ops c_towpathlaw12_GatePlays_83
noncomputable def c_towpathlaw12_GatePlays_85 : Code := Code.r c_towpathlaw12_GatePlays_82
noncomputable def c_towpathlaw12_GatePlays_86 : Code := Code.l c_towpathlaw12_GatePlays_85
noncomputable def c_towpathlaw12_GatePlays_87 : Code := Code.l c_towpathlaw12_GatePlays_86
noncomputable def r_towpathlaw12_GatePlays_87 : Array Oper := Code.ops c_towpathlaw12_GatePlays_87
noncomputable def c_towpathlaw12_GatePlays_89 : Code := Code.r c_towpathlaw12_GatePlays_86
noncomputable def c_towpathlaw12_GatePlays_90 : Code := Code.r c_towpathlaw12_GatePlays_85
noncomputable def c_towpathlaw12_GatePlays_91 : Code := Code.r c_towpathlaw12_GatePlays_81
noncomputable def c_towpathlaw12_GatePlays_92 : Code := Code.l c_towpathlaw12_GatePlays_91
noncomputable def r_towpathlaw12_GatePlays_92 : Array Oper := Code.ops c_towpathlaw12_GatePlays_92
noncomputable def c_towpathlaw12_GatePlays_94 : Code := Code.r c_towpathlaw12_GatePlays_91
noncomputable def c_towpathlaw12_GatePlays_95 : Code := Code.l c_towpathlaw12_GatePlays_94
noncomputable def r_towpathlaw12_GatePlays_95 : Array Oper := Code.ops c_towpathlaw12_GatePlays_95
noncomputable def c_towpathlaw12_GatePlays_97 : Code := Code.r c_towpathlaw12_GatePlays_94
noncomputable def c_towpathlaw12_GatePlays_98 : Code := Code.r c_towpathlaw12_GatePlays_73
noncomputable def r_towpathlaw12_GatePlays_98 : Array Oper := Code.ops c_towpathlaw12_GatePlays_98
noncomputable def c_towpathlaw12_GatePlays_100 : Code := Code.r c_towpathlaw12_GatePlays_60
noncomputable def c_towpathlaw12_GatePlays_101 : Code := Code.l c_towpathlaw12_GatePlays_100
noncomputable def r_towpathlaw12_GatePlays_101 : Array Oper := Code.ops c_towpathlaw12_GatePlays_101
noncomputable def c_towpathlaw12_GatePlays_103 : Code := Code.r c_towpathlaw12_GatePlays_100
noncomputable def c_towpathlaw12_GatePlays_104 : Code := Code.l c_towpathlaw12_GatePlays_103
noncomputable def r_towpathlaw12_GatePlays_104 : Array Oper := Code.ops c_towpathlaw12_GatePlays_104
noncomputable def c_towpathlaw12_GatePlays_106 : Code := Code.r c_towpathlaw12_GatePlays_103

set_option maxRecDepth 100000 in
set_option maxHeartbeats 4000000 in
theorem S_towpathlaw12_GatePlays {mark : Int} {beyond : Slc} {numbers : Slc} {w : World} {R : Bool → World → Prop} (h : F_towpathlaw12_GatePlays mark beyond numbers R w) : C_towpathlaw12_GatePlays mark beyond numbers w R := by
  unfold F_towpathlaw12_GatePlays at h
  unfold C_towpathlaw12_GatePlays
  refine Calls.mono (calls_of_wpE (args := [Value.int .i64 mark, Value.slice beyond.ptr beyond.len beyond.cap, Value.slice numbers.ptr numbers.len numbers.cap]) (R := fun v w' => ∃ (r0 : Bool), v = Value.bool r0 ∧ R r0 w') Tryd.func3 (c := c_towpathlaw12_GatePlays_0) (by kernel_rfl) 156 (by kernel_rfl) (by kernel_rfl) [(0, Value.int .i64 mark), (1, Value.slice beyond.ptr beyond.len beyond.cap), (2, Value.slice numbers.ptr numbers.len numbers.cap)] (by kernel_rfl) ?_) ?_
  · refine wpE_seq (x := c_towpathlaw12_GatePlays_1) (y := c_towpathlaw12_GatePlays_3) (by kernel_rfl) ?_
    refine wpE_region (id := 0) (ops := r_towpathlaw12_GatePlays_1) (by kernel_rfl) ?_
    refine reg_run [.plain] 1 [(0, [], Value.int .i64 mark), (1, [], Value.slice beyond.ptr beyond.len beyond.cap), (2, [], Value.slice numbers.ptr numbers.len numbers.cap)] (by kernel_rfl) (by kernel_rfl) ?_
    refine reg_end [(0, Value.int .i64 mark), (1, Value.slice beyond.ptr beyond.len beyond.cap), (2, Value.slice numbers.ptr numbers.len numbers.cap)] (by kernel_rfl) (by kernel_rfl) ?_
    change WpE _ _ c_towpathlaw12_GatePlays_3 _ _ _
    refine wpE_seq (x := c_towpathlaw12_GatePlays_4) (y := c_towpathlaw12_GatePlays_13) (by kernel_rfl) ?_
    refine wpE_seq (x := c_towpathlaw12_GatePlays_5) (y := c_towpathlaw12_GatePlays_7) (by kernel_rfl) ?_
    refine wpE_region (id := 1) (ops := r_towpathlaw12_GatePlays_5) (by kernel_rfl) ?_
    refine reg_run [.plain, .plain, .plain, .plain] 4 [(0, [], Value.int .i64 mark), (1, [], Value.slice beyond.ptr beyond.len beyond.cap), (2, [], Value.slice numbers.ptr numbers.len numbers.cap), (23, [], Value.int .i64 ((beyond.len : Nat) : Int)), (25, [], Value.int .i64 ((numbers.len : Nat) : Int))] (by kernel_rfl) (by kernel_rfl) ?_
    refine reg_new (op := (Go.Op.buildSlice 22 2 #[(0, (Go.Operand.tmp 23)), (1, (Go.Operand.tmp 25))])) (ty := 22) (dst := some 26) (fun bb => Value.slice (some ⟨bb, 0, none⟩) 2 2) (Obj.cells ([Value.int .i64 ((beyond.len : Nat) : Int), Value.int .i64 ((numbers.len : Nat) : Int)]).toArray ty_int (0, 0)) (by kernel_rfl) (by kernel_rfl) (fun b_ w1 hb hw => ?_)
    replace h := h b_ w1 hb hw
    clear hb hw
    refine reg_run [] 5 [(0, [], Value.int .i64 mark), (1, [], Value.slice beyond.ptr beyond.len beyond.cap), (2, [], Value.slice numbers.ptr numbers.len numbers.cap), (26, [], Value.slice (some ⟨b_, 0, none⟩) 2 2)] (by kernel_rfl) (by kernel_rfl) ?_
    refine reg_enter (op := (Go.Op.call (Go.Call.mk (Go.Callee.value (Go.Operand.func 5)) #[(Go.Operand.tmp 26)] #[22]))) (ty := 4) (dst := some 27) 5 #[Value.slice (some ⟨b_, 0, none⟩) 2 2] (by kernel_rfl) (fun ww => by kernel_rfl) (Calls.mono h ?_)
    rintro _ w2 ⟨v27, rfl, h⟩
    refine ⟨_, rfl, ?_⟩
    refine reg_end [(0, Value.int .i64 mark), (1, Value.slice beyond.ptr beyond.len beyond.cap), (2, Value.slice numbers.ptr numbers.len numbers.cap), (27, Value.bool v27)] (by kernel_rfl) (by kernel_rfl) ?_
    change WpE _ _ c_towpathlaw12_GatePlays_7 _ _ _
    refine wpE_cond (o := (Operand.tmp 27)) (b := v27) (x := c_towpathlaw12_GatePlays_8) (y := c_towpathlaw12_GatePlays_12) (by kernel_rfl) (by kernel_rfl) (fun hb => ?_) (fun hb => ?_)
    · replace h := h.1 hb
      refine wpE_seq (x := c_towpathlaw12_GatePlays_9) (y := c_towpathlaw12_GatePlays_11) (by kernel_rfl) ?_
      refine wpE_region (id := 2) (ops := r_towpathlaw12_GatePlays_9) (by kernel_rfl) ?_
      refine reg_run [.plain] 1 [(6, [], Value.bool true)] (by kernel_rfl) (by kernel_rfl) ?_
      refine reg_end [(6, Value.bool true)] (by kernel_rfl) (by kernel_rfl) ?_
      change WpE _ _ c_towpathlaw12_GatePlays_11 _ _ _
      refine wpE_ret (by kernel_rfl) ?_
      repeat (first | refine seqQ_ret ?_ | refine blockQ_ret ?_ | refine loopQ_ret ?_ | refine cutQ_ret ?_)
      exact retS (rs := [(Go.ResultVar.tmp 6)]) (v := Value.bool true) (by kernel_rfl) (⟨by kernel_rfl, trivial⟩) ⟨true, rfl, h⟩
    · replace h := h.2 hb
      refine wpE_skip (by kernel_rfl) ?_
      change WpE _ _ c_towpathlaw12_GatePlays_13 _ _ _
      refine wpE_seq (x := c_towpathlaw12_GatePlays_14) (y := c_towpathlaw12_GatePlays_16) (by kernel_rfl) ?_
      refine wpE_region (id := 3) (ops := r_towpathlaw12_GatePlays_14) (by kernel_rfl) ?_
      refine reg_run [.plain] 1 [(0, [], Value.int .i64 mark), (1, [], Value.slice beyond.ptr beyond.len beyond.cap), (2, [], Value.slice numbers.ptr numbers.len numbers.cap), (28, [], Value.slice beyond.ptr beyond.len beyond.cap)] (by kernel_rfl) (by kernel_rfl) ?_
      refine reg_enter (op := (Go.Op.call (Go.Call.mk (Go.Callee.value (Go.Operand.func 6)) #[(Go.Operand.tmp 28)] #[22]))) (ty := 22) (dst := some 29) 6 #[Value.slice beyond.ptr beyond.len beyond.cap] (by kernel_rfl) (fun ww => by kernel_rfl) (Calls.mono h ?_)
      rintro _ w3 ⟨v29, rfl, h⟩
      refine ⟨_, rfl, ?_⟩
      refine reg_run [.plain] 3 [(0, [], Value.int .i64 mark), (1, [], Value.slice beyond.ptr beyond.len beyond.cap), (2, [], Value.slice numbers.ptr numbers.len numbers.cap), (7, [], Value.slice v29.ptr v29.len v29.cap)] (by kernel_rfl) (by kernel_rfl) ?_
      refine reg_end [(0, Value.int .i64 mark), (1, Value.slice beyond.ptr beyond.len beyond.cap), (2, Value.slice numbers.ptr numbers.len numbers.cap), (7, Value.slice v29.ptr v29.len v29.cap)] (by kernel_rfl) (by kernel_rfl) ?_
      change WpE _ _ c_towpathlaw12_GatePlays_16 _ _ _
      refine wpE_seq (x := c_towpathlaw12_GatePlays_17) (y := c_towpathlaw12_GatePlays_19) (by kernel_rfl) ?_
      refine wpE_region (id := 4) (ops := r_towpathlaw12_GatePlays_17) (by kernel_rfl) ?_
      refine reg_run [.plain, .plain] 2 [(0, [], Value.int .i64 mark), (1, [], Value.slice beyond.ptr beyond.len beyond.cap), (2, [], Value.slice numbers.ptr numbers.len numbers.cap), (7, [], Value.slice v29.ptr v29.len v29.cap), (31, [], Value.int .i64 mark), (32, [], Value.slice v29.ptr v29.len v29.cap)] (by kernel_rfl) (by kernel_rfl) ?_
      refine reg_enter (op := (Go.Op.call (Go.Call.mk (Go.Callee.value (Go.Operand.func 7)) #[(Go.Operand.tmp 31), (Go.Operand.tmp 32)] #[3, 22]))) (ty := 27) (dst := some 33) 7 #[Value.int .i64 mark, Value.slice v29.ptr v29.len v29.cap] (by kernel_rfl) (fun ww => by kernel_rfl) (Calls.mono h ?_)
      rintro _ w4 ⟨g, e, rfl, h⟩
      refine ⟨_, rfl, ?_⟩
      refine reg_run [.plain, .plain, .plain, .plain, .plain] 8 [(0, [], Value.int .i64 mark), (1, [], Value.slice beyond.ptr beyond.len beyond.cap), (2, [], Value.slice numbers.ptr numbers.len numbers.cap), (7, [], Value.slice v29.ptr v29.len v29.cap), (8, [], Value.pointer g), (9, [], Value.int .i64 e)] (by kernel_rfl) (by kernel_rfl) ?_
      refine reg_end [(0, Value.int .i64 mark), (1, Value.slice beyond.ptr beyond.len beyond.cap), (2, Value.slice numbers.ptr numbers.len numbers.cap), (7, Value.slice v29.ptr v29.len v29.cap), (8, Value.pointer g), (9, Value.int .i64 e)] (by kernel_rfl) (by kernel_rfl) ?_
      change WpE _ _ c_towpathlaw12_GatePlays_19 _ _ _
      refine wpE_seq (x := c_towpathlaw12_GatePlays_20) (y := c_towpathlaw12_GatePlays_22) (by kernel_rfl) ?_
      refine wpE_region (id := 5) (ops := r_towpathlaw12_GatePlays_20) (by kernel_rfl) ?_
      refine reg_run [.plain, .plain] 2 [(1, [], Value.slice beyond.ptr beyond.len beyond.cap), (2, [], Value.slice numbers.ptr numbers.len numbers.cap), (7, [], Value.slice v29.ptr v29.len v29.cap), (8, [], Value.pointer g), (9, [], Value.int .i64 e), (37, [], Value.int .i64 mark), (38, [], Value.slice beyond.ptr beyond.len beyond.cap)] (by kernel_rfl) (by kernel_rfl) ?_
      refine reg_enter (op := (Go.Op.call (Go.Call.mk (Go.Callee.value (Go.Operand.func 8)) #[(Go.Operand.tmp 37), (Go.Operand.tmp 38)] #[3, 22]))) (ty := 30) (dst := some 39) 8 #[Value.int .i64 mark, Value.slice beyond.ptr beyond.len beyond.cap] (by kernel_rfl) (fun ww => by kernel_rfl) (Calls.mono h ?_)
      rintro _ w5 ⟨r, f, rfl, h⟩
      refine ⟨_, rfl, ?_⟩
      refine reg_run [.plain, .plain, .plain, .plain, .plain] 8 [(1, [], Value.slice beyond.ptr beyond.len beyond.cap), (2, [], Value.slice numbers.ptr numbers.len numbers.cap), (7, [], Value.slice v29.ptr v29.len v29.cap), (8, [], Value.pointer g), (9, [], Value.int .i64 e), (10, [], Value.pointer r), (11, [], Value.int .i64 f)] (by kernel_rfl) (by kernel_rfl) ?_
      refine reg_end [(1, Value.slice beyond.ptr beyond.len beyond.cap), (2, Value.slice numbers.ptr numbers.len numbers.cap), (7, Value.slice v29.ptr v29.len v29.cap), (8, Value.pointer g), (9, Value.int .i64 e), (10, Value.pointer r), (11, Value.int .i64 f)] (by kernel_rfl) (by kernel_rfl) ?_
      change WpE _ _ c_towpathlaw12_GatePlays_22 _ _ _
      refine wpE_seq (x := c_towpathlaw12_GatePlays_23) (y := c_towpathlaw12_GatePlays_32) (by kernel_rfl) ?_
      refine wpE_seq_cut (x := c_towpathlaw12_GatePlays_24) (y := c_towpathlaw12_GatePlays_26) (by kernel_rfl) (fun l w => ∃ (t57 : Bool), l = [(2, Value.slice numbers.ptr numbers.len numbers.cap), (7, Value.slice v29.ptr v29.len v29.cap), (8, Value.pointer g), (10, Value.pointer r), (57, Value.bool t57)] ∧ F_towpathlaw12_GatePlays_k0 numbers R v29 g r t57 w) ?_ ?_
      · refine wpE_region (id := 6) (ops := r_towpathlaw12_GatePlays_24) (by kernel_rfl) ?_
        refine reg_run [.plain, .plain, .plain, .plain, .plain] 5 [(1, [], Value.slice beyond.ptr beyond.len beyond.cap), (2, [], Value.slice numbers.ptr numbers.len numbers.cap), (7, [], Value.slice v29.ptr v29.len v29.cap), (8, [], Value.pointer g), (10, [], Value.pointer r), (45, [], Value.bool (e != f)), (46, [(45, false)], Value.pointer g)] (by kernel_rfl) (by kernel_rfl) ?_
        refine reg_split 45 (e != f) (by kernel_rfl) (fun hb => ?_) (fun hb => ?_)
        · replace h := h.1 hb
          refine reg_run [] 5 [(1, [], Value.slice beyond.ptr beyond.len beyond.cap), (2, [], Value.slice numbers.ptr numbers.len numbers.cap), (7, [], Value.slice v29.ptr v29.len v29.cap), (8, [], Value.pointer g), (10, [], Value.pointer r), (45, [], Value.bool true), (46, [], undef)] (by kernel_rfl) (by kernel_rfl) ?_
          refine reg_run [.skip, .skip, .skip, .skip, .plain, .plain, .skip, .skip, .skip, .skip, .plain] 16 [(2, [], Value.slice numbers.ptr numbers.len numbers.cap), (7, [], Value.slice v29.ptr v29.len v29.cap), (8, [], Value.pointer g), (10, [], Value.pointer r), (57, [], Value.bool true)] (by kernel_rfl) (by kernel_rfl) ?_
          refine reg_end [(2, Value.slice numbers.ptr numbers.len numbers.cap), (7, Value.slice v29.ptr v29.len v29.cap), (8, Value.pointer g), (10, Value.pointer r), (57, Value.bool true)] (by kernel_rfl) (by kernel_rfl) ?_
          exact ⟨[(2, Value.slice numbers.ptr numbers.len numbers.cap), (7, Value.slice v29.ptr v29.len v29.cap), (8, Value.pointer g), (10, Value.pointer r), (57, Value.bool true)], Sub.mk (by kernel_rfl), true, rfl, h⟩
        · replace h := h.2 hb
          refine reg_run [] 5 [(1, [], Value.slice beyond.ptr beyond.len beyond.cap), (2, [], Value.slice numbers.ptr numbers.len numbers.cap), (7, [], Value.slice v29.ptr v29.len v29.cap), (8, [], Value.pointer g), (10, [], Value.pointer r), (45, [], Value.bool false), (46, [], Value.pointer g)] (by kernel_rfl) (by kernel_rfl) ?_
          refine reg_run [] 5 [(1, [], Value.slice beyond.ptr beyond.len beyond.cap), (2, [], Value.slice numbers.ptr numbers.len numbers.cap), (7, [], Value.slice v29.ptr v29.len v29.cap), (8, [], Value.pointer g), (10, [], Value.pointer r), (45, [], Value.bool false), (46, [], Value.pointer g)] (by kernel_rfl) (by kernel_rfl) ?_
          refine reg_val (op := (Go.Op.binOp Go.BinOp.eql 25 (Go.Operand.tmp 46) (Go.Operand.const (Go.Value.pointer none)) 25)) (ty := 4) (dst := some 47) (Value.bool g.isNone) (by kernel_rfl) (fun ww => run_ptr_eql_R (p := g) (by kernel_rfl) (by kernel_rfl) (by kernel_rfl) ww) ?_
          refine reg_run [.sure] 7 [(1, [], Value.slice beyond.ptr beyond.len beyond.cap), (2, [], Value.slice numbers.ptr numbers.len numbers.cap), (7, [], Value.slice v29.ptr v29.len v29.cap), (8, [], Value.pointer g), (10, [], Value.pointer r), (45, [], Value.bool false), (47, [], Value.bool g.isNone), (48, [], Value.pointer r)] (by kernel_rfl) (by kernel_rfl) ?_
          refine reg_val (op := (Go.Op.binOp Go.BinOp.eql 29 (Go.Operand.tmp 48) (Go.Operand.const (Go.Value.pointer none)) 29)) (ty := 4) (dst := some 49) (Value.bool r.isNone) (by kernel_rfl) (fun ww => run_ptr_eql_R (p := r) (by kernel_rfl) (by kernel_rfl) (by kernel_rfl) ww) ?_
          refine reg_run [.sure, .plain, .plain, .plain, .plain] 13 [(2, [], Value.slice numbers.ptr numbers.len numbers.cap), (7, [], Value.slice v29.ptr v29.len v29.cap), (8, [], Value.pointer g), (10, [], Value.pointer r), (52, [], Value.bool (!(g.isNone == r.isNone))), (53, [(52, false)], Value.slice v29.ptr v29.len v29.cap), (54, [(52, false)], Value.slice beyond.ptr beyond.len beyond.cap)] (by kernel_rfl) (by kernel_rfl) ?_
          refine reg_split 52 (!(g.isNone == r.isNone)) (by kernel_rfl) (fun hb => ?_) (fun hb => ?_)
          · replace h := h.1 hb
            refine reg_run [] 13 [(2, [], Value.slice numbers.ptr numbers.len numbers.cap), (7, [], Value.slice v29.ptr v29.len v29.cap), (8, [], Value.pointer g), (10, [], Value.pointer r), (52, [], Value.bool true), (53, [], undef), (54, [], undef)] (by kernel_rfl) (by kernel_rfl) ?_
            refine reg_run [.skip, .skip, .plain] 16 [(2, [], Value.slice numbers.ptr numbers.len numbers.cap), (7, [], Value.slice v29.ptr v29.len v29.cap), (8, [], Value.pointer g), (10, [], Value.pointer r), (57, [], Value.bool true)] (by kernel_rfl) (by kernel_rfl) ?_
            refine reg_end [(2, Value.slice numbers.ptr numbers.len numbers.cap), (7, Value.slice v29.ptr v29.len v29.cap), (8, Value.pointer g), (10, Value.pointer r), (57, Value.bool true)] (by kernel_rfl) (by kernel_rfl) ?_
            exact ⟨[(2, Value.slice numbers.ptr numbers.len numbers.cap), (7, Value.slice v29.ptr v29.len v29.cap), (8, Value.pointer g), (10, Value.pointer r), (57, Value.bool true)], Sub.mk (by kernel_rfl), true, rfl, h⟩
          · replace h := h.2 hb
            refine reg_run [] 13 [(2, [], Value.slice numbers.ptr numbers.len numbers.cap), (7, [], Value.slice v29.ptr v29.len v29.cap), (8, [], Value.pointer g), (10, [], Value.pointer r), (52, [], Value.bool false), (53, [], Value.slice v29.ptr v29.len v29.cap), (54, [], Value.slice beyond.ptr beyond.len beyond.cap)] (by kernel_rfl) (by kernel_rfl) ?_
            refine reg_run [] 13 [(2, [], Value.slice numbers.ptr numbers.len numbers.cap), (7, [], Value.slice v29.ptr v29.len v29.cap), (8, [], Value.pointer g), (10, [], Value.pointer r), (52, [], Value.bool false), (53, [], Value.slice v29.ptr v29.len v29.cap), (54, [], Value.slice beyond.ptr beyond.len beyond.cap)] (by kernel_rfl) (by kernel_rfl) ?_
            refine reg_enter (op := (Go.Op.call (Go.Call.mk (Go.Callee.value (Go.Operand.func 9)) #[(Go.Operand.tmp 53), (Go.Operand.tmp 54)] #[22, 22]))) (ty := 4) (dst := some 55) 9 #[Value.slice v29.ptr v29.len v29.cap, Value.slice beyond.ptr beyond.len beyond.cap] (by kernel_rfl) (fun ww => by kernel_rfl) (Calls.mono h ?_)
            rintro _ w33 ⟨v55, rfl, h⟩
            refine ⟨_, rfl, ?_⟩
            refine reg_run [.sure, .plain] 16 [(2, [], Value.slice numbers.ptr numbers.len numbers.cap), (7, [], Value.slice v29.ptr v29.len v29.cap), (8, [], Value.pointer g), (10, [], Value.pointer r), (57, [], Value.bool (!v55))] (by kernel_rfl) (by kernel_rfl) ?_
            refine reg_end [(2, Value.slice numbers.ptr numbers.len numbers.cap), (7, Value.slice v29.ptr v29.len v29.cap), (8, Value.pointer g), (10, Value.pointer r), (57, Value.bool (!v55))] (by kernel_rfl) (by kernel_rfl) ?_
            exact ⟨[(2, Value.slice numbers.ptr numbers.len numbers.cap), (7, Value.slice v29.ptr v29.len v29.cap), (8, Value.pointer g), (10, Value.pointer r), (57, Value.bool (!v55))], Sub.mk (by kernel_rfl), (!v55), rfl, h⟩
      · rintro _ w6 ⟨t57, rfl, h⟩
        unfold F_towpathlaw12_GatePlays_k0 at h
        refine wpE_cond (o := (Operand.tmp 57)) (b := t57) (x := c_towpathlaw12_GatePlays_27) (y := c_towpathlaw12_GatePlays_31) (by kernel_rfl) (by kernel_rfl) (fun hb => ?_) (fun hb => ?_)
        · replace h := h.1 hb
          refine wpE_seq (x := c_towpathlaw12_GatePlays_28) (y := c_towpathlaw12_GatePlays_30) (by kernel_rfl) ?_
          refine wpE_region (id := 7) (ops := r_towpathlaw12_GatePlays_28) (by kernel_rfl) ?_
          refine reg_run [.plain] 1 [(6, [], Value.bool false)] (by kernel_rfl) (by kernel_rfl) ?_
          refine reg_end [(6, Value.bool false)] (by kernel_rfl) (by kernel_rfl) ?_
          change WpE _ _ c_towpathlaw12_GatePlays_30 _ _ _
          refine wpE_ret (by kernel_rfl) ?_
          repeat (first | refine seqQ_ret ?_ | refine blockQ_ret ?_ | refine loopQ_ret ?_ | refine cutQ_ret ?_)
          exact retS (rs := [(Go.ResultVar.tmp 6)]) (v := Value.bool false) (by kernel_rfl) (⟨by kernel_rfl, trivial⟩) ⟨false, rfl, h⟩
        · replace h := h.2 hb
          refine wpE_skip (by kernel_rfl) ?_
          change WpE _ _ c_towpathlaw12_GatePlays_32 _ _ _
          refine wpE_seq (x := c_towpathlaw12_GatePlays_33) (y := c_towpathlaw12_GatePlays_35) (by kernel_rfl) ?_
          refine wpE_region (id := 8) (ops := r_towpathlaw12_GatePlays_33) (by kernel_rfl) ?_
          refine reg_run [.plain] 1 [(2, [], Value.slice numbers.ptr numbers.len numbers.cap), (7, [], Value.slice v29.ptr v29.len v29.cap), (8, [], Value.pointer g), (10, [], Value.pointer r), (58, [], Value.agg #[Value.int .i64 0, Value.slice none 0 0, Value.slice none 0 0, Value.slice none 0 0, Value.slice none 0 0, Value.slice none 0 0, Value.slice none 0 0, Value.slice none 0 0, Value.slice none 0 0, Value.slice none 0 0, Value.slice none 0 0, Value.slice none 0 0])] (by kernel_rfl) (by kernel_rfl) ?_
          refine reg_new (op := (Go.Op.alloc 45)) (ty := 0) (dst := some 12) (fun bb => Value.pointer (some ⟨bb, 0, none⟩)) (Obj.cells ([Value.int .i64 0, Value.slice none 0 0, Value.slice none 0 0, Value.slice none 0 0, Value.slice none 0 0, Value.slice none 0 0, Value.slice none 0 0, Value.slice none 0 0, Value.slice none 0 0, Value.slice none 0 0, Value.slice none 0 0, Value.slice none 0 0]).toArray ty_towpathlaw01_Book (0, 0)) (by kernel_rfl) (by kernel_rfl) (fun b_1 w7 hb hw => ?_)
          replace h := h b_1 w7 hb hw
          clear hb hw
          refine reg_run [] 2 [(2, [], Value.slice numbers.ptr numbers.len numbers.cap), (7, [], Value.slice v29.ptr v29.len v29.cap), (8, [], Value.pointer g), (10, [], Value.pointer r), (12, [], Value.pointer (some ⟨b_1, 0, none⟩)), (58, [], Value.agg #[Value.int .i64 0, Value.slice none 0 0, Value.slice none 0 0, Value.slice none 0 0, Value.slice none 0 0, Value.slice none 0 0, Value.slice none 0 0, Value.slice none 0 0, Value.slice none 0 0, Value.slice none 0 0, Value.slice none 0 0, Value.slice none 0 0])] (by kernel_rfl) (by kernel_rfl) ?_
          obtain ⟨hc, h⟩ := h
          refine reg_store (t := 45) (a := (Go.Operand.tmp 12)) (x := (Go.Operand.tmp 58)) (b := b_1) (o := 0) (ty := 0) (dst := none) [Value.int .i64 0, Value.slice none 0 0, Value.slice none 0 0, Value.slice none 0 0, Value.slice none 0 0, Value.slice none 0 0, Value.slice none 0 0, Value.slice none 0 0, Value.slice none 0 0, Value.slice none 0 0, Value.slice none 0 0, Value.slice none 0 0] (by kernel_rfl) (by kernel_rfl) (by kernel_rfl) (k := 12) (by kernel_rfl) (by kernel_rfl) (by kernel_rfl) hc (fun w8 hw => ?_)
          replace h := h w8 hw
          clear hw
          refine reg_end [(2, Value.slice numbers.ptr numbers.len numbers.cap), (7, Value.slice v29.ptr v29.len v29.cap), (8, Value.pointer g), (10, Value.pointer r), (12, Value.pointer (some ⟨b_1, 0, none⟩))] (by kernel_rfl) (by kernel_rfl) ?_
          change WpE _ _ c_towpathlaw12_GatePlays_35 _ _ _
          refine wpE_seq (x := c_towpathlaw12_GatePlays_36) (y := c_towpathlaw12_GatePlays_38) (by kernel_rfl) ?_
          refine wpE_region (id := 9) (ops := r_towpathlaw12_GatePlays_36) (by kernel_rfl) ?_
          refine reg_run [.plain] 1 [(2, [], Value.slice numbers.ptr numbers.len numbers.cap), (8, [], Value.pointer g), (10, [], Value.pointer r), (12, [], Value.pointer (some ⟨b_1, 0, none⟩)), (59, [], Value.slice v29.ptr v29.len v29.cap)] (by kernel_rfl) (by kernel_rfl) ?_
          refine reg_enter (op := (Go.Op.call (Go.Call.mk (Go.Callee.value (Go.Operand.func 10)) #[(Go.Operand.tmp 12), (Go.Operand.tmp 59)] #[45, 22]))) (ty := 0) (dst := some 60) 10 #[Value.pointer (some ⟨b_1, 0, none⟩), Value.slice v29.ptr v29.len v29.cap] (by kernel_rfl) (fun ww => by kernel_rfl) (Calls.mono h ?_)
          rintro _ w9 ⟨rfl, h⟩
          refine ⟨_, rfl, ?_⟩
          refine reg_end [(2, Value.slice numbers.ptr numbers.len numbers.cap), (8, Value.pointer g), (10, Value.pointer r), (12, Value.pointer (some ⟨b_1, 0, none⟩))] (by kernel_rfl) (by kernel_rfl) ?_
          change WpE _ _ c_towpathlaw12_GatePlays_38 _ _ _
          refine wpE_seq (x := c_towpathlaw12_GatePlays_39) (y := c_towpathlaw12_GatePlays_41) (by kernel_rfl) ?_
          refine wpE_region (id := 10) (ops := r_towpathlaw12_GatePlays_39) (by kernel_rfl) ?_
          refine reg_run [.plain] 1 [(2, [], Value.slice numbers.ptr numbers.len numbers.cap), (8, [], Value.pointer g), (10, [], Value.pointer r), (12, [], Value.pointer (some ⟨b_1, 0, none⟩)), (61, [], Value.pointer g)] (by kernel_rfl) (by kernel_rfl) ?_
          refine reg_enter (op := (Go.Op.call (Go.Call.mk (Go.Callee.value (Go.Operand.func 11)) #[(Go.Operand.tmp 61)] #[25]))) (ty := 22) (dst := some 62) 11 #[Value.pointer g] (by kernel_rfl) (fun ww => by kernel_rfl) (Calls.mono h ?_)
          rintro _ w10 ⟨v62, rfl, h⟩
          refine ⟨_, rfl, ?_⟩
          refine reg_run [] 2 [(2, [], Value.slice numbers.ptr numbers.len numbers.cap), (8, [], Value.pointer g), (10, [], Value.pointer r), (12, [], Value.pointer (some ⟨b_1, 0, none⟩)), (62, [], Value.slice v62.ptr v62.len v62.cap)] (by kernel_rfl) (by kernel_rfl) ?_
          refine reg_enter (op := (Go.Op.call (Go.Call.mk (Go.Callee.value (Go.Operand.func 10)) #[(Go.Operand.tmp 12), (Go.Operand.tmp 62)] #[45, 22]))) (ty := 0) (dst := some 63) 10 #[Value.pointer (some ⟨b_1, 0, none⟩), Value.slice v62.ptr v62.len v62.cap] (by kernel_rfl) (fun ww => by kernel_rfl) (Calls.mono h ?_)
          rintro _ w11 ⟨rfl, h⟩
          refine ⟨_, rfl, ?_⟩
          refine reg_end [(2, Value.slice numbers.ptr numbers.len numbers.cap), (8, Value.pointer g), (10, Value.pointer r), (12, Value.pointer (some ⟨b_1, 0, none⟩))] (by kernel_rfl) (by kernel_rfl) ?_
          change WpE _ _ c_towpathlaw12_GatePlays_41 _ _ _
          refine wpE_seq (x := c_towpathlaw12_GatePlays_42) (y := c_towpathlaw12_GatePlays_51) (by kernel_rfl) ?_
          refine wpE_seq_cut (x := c_towpathlaw12_GatePlays_43) (y := c_towpathlaw12_GatePlays_45) (by kernel_rfl) (fun l w => ∃ (t71 : Bool), l = [(2, Value.slice numbers.ptr numbers.len numbers.cap), (8, Value.pointer g), (10, Value.pointer r), (12, Value.pointer (some ⟨b_1, 0, none⟩)), (71, Value.bool t71)] ∧ F_towpathlaw12_GatePlays_k1 numbers R g r b_1 t71 w) ?_ ?_
          · refine wpE_region (id := 11) (ops := r_towpathlaw12_GatePlays_43) (by kernel_rfl) ?_
            refine reg_run [] 0 [(2, [], Value.slice numbers.ptr numbers.len numbers.cap), (8, [], Value.pointer g), (10, [], Value.pointer r), (12, [], Value.pointer (some ⟨b_1, 0, none⟩))] (by kernel_rfl) (by kernel_rfl) ?_
            refine reg_enter (op := (Go.Op.call (Go.Call.mk (Go.Callee.value (Go.Operand.func 12)) #[(Go.Operand.tmp 12)] #[45]))) (ty := 4) (dst := some 64) 12 #[Value.pointer (some ⟨b_1, 0, none⟩)] (by kernel_rfl) (fun ww => by kernel_rfl) (Calls.mono h ?_)
            rintro _ w31 ⟨v64, rfl, h⟩
            refine ⟨_, rfl, ?_⟩
            refine reg_run [.plain, .plain, .plain, .plain] 5 [(2, [], Value.slice numbers.ptr numbers.len numbers.cap), (8, [], Value.pointer g), (10, [], Value.pointer r), (12, [], Value.pointer (some ⟨b_1, 0, none⟩)), (66, [], Value.bool (!v64)), (67, [(66, false)], Value.pointer g), (68, [(66, false)], Value.pointer r)] (by kernel_rfl) (by kernel_rfl) ?_
            refine reg_split 66 (!v64) (by kernel_rfl) (fun hb => ?_) (fun hb => ?_)
            · replace h := h.1 hb
              refine reg_run [] 5 [(2, [], Value.slice numbers.ptr numbers.len numbers.cap), (8, [], Value.pointer g), (10, [], Value.pointer r), (12, [], Value.pointer (some ⟨b_1, 0, none⟩)), (66, [], Value.bool true), (67, [], undef), (68, [], undef)] (by kernel_rfl) (by kernel_rfl) ?_
              refine reg_run [.skip, .skip, .plain] 8 [(2, [], Value.slice numbers.ptr numbers.len numbers.cap), (8, [], Value.pointer g), (10, [], Value.pointer r), (12, [], Value.pointer (some ⟨b_1, 0, none⟩)), (71, [], Value.bool true)] (by kernel_rfl) (by kernel_rfl) ?_
              refine reg_end [(2, Value.slice numbers.ptr numbers.len numbers.cap), (8, Value.pointer g), (10, Value.pointer r), (12, Value.pointer (some ⟨b_1, 0, none⟩)), (71, Value.bool true)] (by kernel_rfl) (by kernel_rfl) ?_
              exact ⟨[(2, Value.slice numbers.ptr numbers.len numbers.cap), (8, Value.pointer g), (10, Value.pointer r), (12, Value.pointer (some ⟨b_1, 0, none⟩)), (71, Value.bool true)], Sub.mk (by kernel_rfl), true, rfl, h⟩
            · replace h := h.2 hb
              refine reg_run [] 5 [(2, [], Value.slice numbers.ptr numbers.len numbers.cap), (8, [], Value.pointer g), (10, [], Value.pointer r), (12, [], Value.pointer (some ⟨b_1, 0, none⟩)), (66, [], Value.bool false), (67, [], Value.pointer g), (68, [], Value.pointer r)] (by kernel_rfl) (by kernel_rfl) ?_
              refine reg_run [] 5 [(2, [], Value.slice numbers.ptr numbers.len numbers.cap), (8, [], Value.pointer g), (10, [], Value.pointer r), (12, [], Value.pointer (some ⟨b_1, 0, none⟩)), (66, [], Value.bool false), (67, [], Value.pointer g), (68, [], Value.pointer r)] (by kernel_rfl) (by kernel_rfl) ?_
              refine reg_enter (op := (Go.Op.call (Go.Call.mk (Go.Callee.value (Go.Operand.func 13)) #[(Go.Operand.tmp 67), (Go.Operand.tmp 68), (Go.Operand.const (Go.Value.int Go.IntKind.i64 1))] #[25, 29, 3]))) (ty := 4) (dst := some 69) 13 #[Value.pointer g, Value.pointer r, Value.int .i64 1] (by kernel_rfl) (fun ww => by kernel_rfl) (Calls.mono h ?_)
              rintro _ w32 ⟨v69, rfl, h⟩
              refine ⟨_, rfl, ?_⟩
              refine reg_run [.sure, .plain] 8 [(2, [], Value.slice numbers.ptr numbers.len numbers.cap), (8, [], Value.pointer g), (10, [], Value.pointer r), (12, [], Value.pointer (some ⟨b_1, 0, none⟩)), (71, [], Value.bool (!v69))] (by kernel_rfl) (by kernel_rfl) ?_
              refine reg_end [(2, Value.slice numbers.ptr numbers.len numbers.cap), (8, Value.pointer g), (10, Value.pointer r), (12, Value.pointer (some ⟨b_1, 0, none⟩)), (71, Value.bool (!v69))] (by kernel_rfl) (by kernel_rfl) ?_
              exact ⟨[(2, Value.slice numbers.ptr numbers.len numbers.cap), (8, Value.pointer g), (10, Value.pointer r), (12, Value.pointer (some ⟨b_1, 0, none⟩)), (71, Value.bool (!v69))], Sub.mk (by kernel_rfl), (!v69), rfl, h⟩
          · rintro _ w12 ⟨t71, rfl, h⟩
            unfold F_towpathlaw12_GatePlays_k1 at h
            refine wpE_cond (o := (Operand.tmp 71)) (b := t71) (x := c_towpathlaw12_GatePlays_46) (y := c_towpathlaw12_GatePlays_50) (by kernel_rfl) (by kernel_rfl) (fun hb => ?_) (fun hb => ?_)
            · replace h := h.1 hb
              refine wpE_seq (x := c_towpathlaw12_GatePlays_47) (y := c_towpathlaw12_GatePlays_49) (by kernel_rfl) ?_
              refine wpE_region (id := 12) (ops := r_towpathlaw12_GatePlays_47) (by kernel_rfl) ?_
              refine reg_run [.plain] 1 [(6, [], Value.bool false)] (by kernel_rfl) (by kernel_rfl) ?_
              refine reg_end [(6, Value.bool false)] (by kernel_rfl) (by kernel_rfl) ?_
              change WpE _ _ c_towpathlaw12_GatePlays_49 _ _ _
              refine wpE_ret (by kernel_rfl) ?_
              repeat (first | refine seqQ_ret ?_ | refine blockQ_ret ?_ | refine loopQ_ret ?_ | refine cutQ_ret ?_)
              exact retS (rs := [(Go.ResultVar.tmp 6)]) (v := Value.bool false) (by kernel_rfl) (⟨by kernel_rfl, trivial⟩) ⟨false, rfl, h⟩
            · replace h := h.2 hb
              refine wpE_skip (by kernel_rfl) ?_
              change WpE _ _ c_towpathlaw12_GatePlays_51 _ _ _
              refine wpE_seq (x := c_towpathlaw12_GatePlays_52) (y := c_towpathlaw12_GatePlays_54) (by kernel_rfl) ?_
              refine wpE_region (id := 13) (ops := r_towpathlaw12_GatePlays_52) (by kernel_rfl) ?_
              refine reg_run [.plain] 1 [(2, [], Value.slice numbers.ptr numbers.len numbers.cap), (8, [], Value.pointer g), (10, [], Value.pointer r), (12, [], Value.pointer (some ⟨b_1, 0, none⟩)), (72, [], Value.agg (([Value.bool false, Value.int .i64 0] ++ (List.map (Value.int .u64) (List.replicate 1025 0)) ++ [Value.int .i64 0])).toArray)] (by kernel_rfl) (by kernel_rfl) ?_
              refine reg_new (op := (Go.Op.box 53 (Go.Operand.tmp 72))) (ty := 25) (dst := some 73) (fun bb => Value.pointer (some ⟨bb, 0, none⟩)) (Obj.cells (([Value.bool false, Value.int .i64 0] ++ (List.map (Value.int .u64) (List.replicate 1025 0)) ++ [Value.int .i64 0])).toArray ty_gate_Gate (0, 0)) (by kernel_rfl) (by kernel_rfl) (fun b_2 w13 hb hw => ?_)
              replace h := h b_2 w13 hb hw
              clear hb hw
              refine reg_run [.plain] 3 [(2, [], Value.slice numbers.ptr numbers.len numbers.cap), (8, [], Value.pointer g), (10, [], Value.pointer r), (12, [], Value.pointer (some ⟨b_1, 0, none⟩)), (13, [], Value.pointer (some ⟨b_2, 0, none⟩))] (by kernel_rfl) (by kernel_rfl) ?_
              refine reg_end [(2, Value.slice numbers.ptr numbers.len numbers.cap), (8, Value.pointer g), (10, Value.pointer r), (12, Value.pointer (some ⟨b_1, 0, none⟩)), (13, Value.pointer (some ⟨b_2, 0, none⟩))] (by kernel_rfl) (by kernel_rfl) ?_
              change WpE _ _ c_towpathlaw12_GatePlays_54 _ _ _
              refine wpE_seq (x := c_towpathlaw12_GatePlays_55) (y := c_towpathlaw12_GatePlays_57) (by kernel_rfl) ?_
              refine wpE_region (id := 14) (ops := r_towpathlaw12_GatePlays_55) (by kernel_rfl) ?_
              refine reg_run [.plain] 1 [(2, [], Value.slice numbers.ptr numbers.len numbers.cap), (8, [], Value.pointer g), (10, [], Value.pointer r), (12, [], Value.pointer (some ⟨b_1, 0, none⟩)), (13, [], Value.pointer (some ⟨b_2, 0, none⟩)), (14, [], Value.pointer none)] (by kernel_rfl) (by kernel_rfl) ?_
              refine reg_end [(2, Value.slice numbers.ptr numbers.len numbers.cap), (8, Value.pointer g), (10, Value.pointer r), (12, Value.pointer (some ⟨b_1, 0, none⟩)), (13, Value.pointer (some ⟨b_2, 0, none⟩)), (14, Value.pointer none)] (by kernel_rfl) (by kernel_rfl) ?_
              change WpE _ _ c_towpathlaw12_GatePlays_57 _ _ _
              refine wpE_seq (x := c_towpathlaw12_GatePlays_58) (y := c_towpathlaw12_GatePlays_60) (by kernel_rfl) ?_
              refine wpE_region (id := 15) (ops := r_towpathlaw12_GatePlays_58) (by kernel_rfl) ?_
              refine reg_run [.plain] 1 [(2, [], Value.slice numbers.ptr numbers.len numbers.cap), (8, [], Value.pointer g), (10, [], Value.pointer r), (12, [], Value.pointer (some ⟨b_1, 0, none⟩)), (13, [], Value.pointer (some ⟨b_2, 0, none⟩)), (14, [], Value.pointer none), (74, [], Value.agg #[Value.int .i64 0, Value.slice none 0 0, Value.slice none 0 0, Value.slice none 0 0, Value.slice none 0 0, Value.slice none 0 0, Value.slice none 0 0, Value.slice none 0 0, Value.slice none 0 0, Value.slice none 0 0, Value.slice none 0 0, Value.slice none 0 0])] (by kernel_rfl) (by kernel_rfl) ?_
              obtain ⟨hc, h⟩ := h
              refine reg_store (t := 45) (a := (Go.Operand.tmp 12)) (x := (Go.Operand.tmp 74)) (b := b_1) (o := 0) (ty := 0) (dst := none) [Value.int .i64 0, Value.slice none 0 0, Value.slice none 0 0, Value.slice none 0 0, Value.slice none 0 0, Value.slice none 0 0, Value.slice none 0 0, Value.slice none 0 0, Value.slice none 0 0, Value.slice none 0 0, Value.slice none 0 0, Value.slice none 0 0] (by kernel_rfl) (by kernel_rfl) (by kernel_rfl) (k := 12) (by kernel_rfl) (by kernel_rfl) (by kernel_rfl) hc (fun w14 hw => ?_)
              replace h := h w14 hw
              clear hw
              refine reg_end [(2, Value.slice numbers.ptr numbers.len numbers.cap), (8, Value.pointer g), (10, Value.pointer r), (12, Value.pointer (some ⟨b_1, 0, none⟩)), (13, Value.pointer (some ⟨b_2, 0, none⟩)), (14, Value.pointer none)] (by kernel_rfl) (by kernel_rfl) ?_
              change WpE _ _ c_towpathlaw12_GatePlays_60 _ _ _
              refine wpE_seq (x := c_towpathlaw12_GatePlays_61) (y := c_towpathlaw12_GatePlays_100) (by kernel_rfl) ?_
              refine wpE_seq (x := c_towpathlaw12_GatePlays_62) (y := c_towpathlaw12_GatePlays_64) (by kernel_rfl) ?_
              refine wpE_region (id := 16) (ops := r_towpathlaw12_GatePlays_62) (by kernel_rfl) ?_
              refine reg_run [.plain] 1 [(2, [], Value.slice numbers.ptr numbers.len numbers.cap), (8, [], Value.pointer g), (10, [], Value.pointer r), (12, [], Value.pointer (some ⟨b_1, 0, none⟩)), (13, [], Value.pointer (some ⟨b_2, 0, none⟩)), (14, [], Value.pointer none), (15, [], Value.int .i64 0)] (by kernel_rfl) (by kernel_rfl) ?_
              refine reg_end [(2, Value.slice numbers.ptr numbers.len numbers.cap), (8, Value.pointer g), (10, Value.pointer r), (12, Value.pointer (some ⟨b_1, 0, none⟩)), (13, Value.pointer (some ⟨b_2, 0, none⟩)), (14, Value.pointer none), (15, Value.int .i64 0)] (by kernel_rfl) (by kernel_rfl) ?_
              change WpE _ _ c_towpathlaw12_GatePlays_64 _ _ _
              refine wpE_block (id := 0) (x := c_towpathlaw12_GatePlays_65) (by kernel_rfl) ?_
              obtain ⟨I, μ, h0, hr⟩ := h
              refine wpE_loop (x := c_towpathlaw12_GatePlays_66) (by kernel_rfl) (fun m l w => ∃ (i : Int), l = [(2, Value.slice numbers.ptr numbers.len numbers.cap), (8, Value.pointer g), (10, Value.pointer r), (12, Value.pointer (some ⟨b_1, 0, none⟩)), (13, Value.pointer (some ⟨b_2, 0, none⟩)), (14, Value.pointer none), (15, Value.int .i64 i)] ∧ I i w ∧ μ i w = m) (l' := [(2, Value.slice numbers.ptr numbers.len numbers.cap), (8, Value.pointer g), (10, Value.pointer r), (12, Value.pointer (some ⟨b_1, 0, none⟩)), (13, Value.pointer (some ⟨b_2, 0, none⟩)), (14, Value.pointer none), (15, Value.int .i64 0)]) (Sub.mk (by kernel_rfl)) ⟨0, rfl, h0, rfl⟩ ?_
              rintro _ _ w15 ⟨i, rfl, hI, rfl⟩
              obtain ⟨again_, again__h, h⟩ : ∃ again_ : Int → World → Prop, (∀ i' w', again_ i' w' → I i' w' ∧ μ i' w' < μ i w15) ∧ F_towpathlaw12_GatePlays_L2 numbers R g r b_1 b_2 again_ i w15 := ⟨_, fun _ _ h => h, hr i w15 hI⟩
              clear h0 hI
              unfold F_towpathlaw12_GatePlays_L2 at h
              refine wpE_seq (x := c_towpathlaw12_GatePlays_67) (y := c_towpathlaw12_GatePlays_73) (by kernel_rfl) ?_
              refine wpE_seq (x := c_towpathlaw12_GatePlays_68) (y := c_towpathlaw12_GatePlays_70) (by kernel_rfl) ?_
              refine wpE_region (id := 17) (ops := r_towpathlaw12_GatePlays_68) (by kernel_rfl) ?_
              refine reg_run [.plain, .plain, .plain, .plain] 4 [(2, [], Value.slice numbers.ptr numbers.len numbers.cap), (8, [], Value.pointer g), (10, [], Value.pointer r), (12, [], Value.pointer (some ⟨b_1, 0, none⟩)), (13, [], Value.pointer (some ⟨b_2, 0, none⟩)), (14, [], Value.pointer none), (15, [], Value.int .i64 i), (78, [], Value.bool (decide (i < ((numbers.len : Nat) : Int))))] (by kernel_rfl) (by kernel_rfl) ?_
              refine reg_end [(2, Value.slice numbers.ptr numbers.len numbers.cap), (8, Value.pointer g), (10, Value.pointer r), (12, Value.pointer (some ⟨b_1, 0, none⟩)), (13, Value.pointer (some ⟨b_2, 0, none⟩)), (14, Value.pointer none), (15, Value.int .i64 i), (78, Value.bool (decide (i < ((numbers.len : Nat) : Int))))] (by kernel_rfl) (by kernel_rfl) ?_
              change WpE _ _ c_towpathlaw12_GatePlays_70 _ _ _
              refine wpE_cond (o := (Operand.tmp 78)) (b := (decide (i < ((numbers.len : Nat) : Int)))) (x := c_towpathlaw12_GatePlays_71) (y := c_towpathlaw12_GatePlays_72) (by kernel_rfl) (by kernel_rfl) (fun hb => ?_) (fun hb => ?_)
              · replace h := h.1 hb
                refine wpE_skip (by kernel_rfl) ?_
                change WpE _ _ c_towpathlaw12_GatePlays_73 _ _ _
                refine wpE_seq_cut (x := c_towpathlaw12_GatePlays_74) (y := c_towpathlaw12_GatePlays_98) (by kernel_rfl) (fun l w => l = [(2, Value.slice numbers.ptr numbers.len numbers.cap), (8, Value.pointer g), (10, Value.pointer r), (12, Value.pointer (some ⟨b_1, 0, none⟩)), (13, Value.pointer (some ⟨b_2, 0, none⟩)), (14, Value.pointer none), (15, Value.int .i64 i)] ∧ F_towpathlaw12_GatePlays_k3 i again_ w) ?_ ?_
                · refine wpE_block (id := 1) (x := c_towpathlaw12_GatePlays_75) (by kernel_rfl) ?_
                  refine wpE_seq (x := c_towpathlaw12_GatePlays_76) (y := c_towpathlaw12_GatePlays_78) (by kernel_rfl) ?_
                  refine wpE_region (id := 19) (ops := r_towpathlaw12_GatePlays_76) (by kernel_rfl) ?_
                  refine reg_run [.plain, .plain, .plain] 3 [(2, [], Value.slice numbers.ptr numbers.len numbers.cap), (8, [], Value.pointer g), (10, [], Value.pointer r), (12, [], Value.pointer (some ⟨b_1, 0, none⟩)), (13, [], Value.pointer (some ⟨b_2, 0, none⟩)), (14, [], Value.pointer none), (15, [], Value.int .i64 i), (82, [], Value.pointer g), (83, [], Value.slice numbers.ptr numbers.len numbers.cap), (84, [], Value.int .i64 i)] (by kernel_rfl) (by kernel_rfl) ?_
                  obtain ⟨hp_37, h⟩ := h
                  refine reg_conv [(2, [], Value.slice numbers.ptr numbers.len numbers.cap), (8, [], Value.pointer g), (10, [], Value.pointer r), (12, [], Value.pointer (some ⟨b_1, 0, none⟩)), (13, [], Value.pointer (some ⟨b_2, 0, none⟩)), (14, [], Value.pointer none), (15, [], Value.int .i64 i), (82, [], Value.pointer g), (83, [], Value.slice (some ⟨(pblk numbers.ptr), (poff numbers.ptr), none⟩) numbers.len numbers.cap), (84, [], Value.int .i64 i)] (congrArg (fun pp => ([(2, [], Value.slice numbers.ptr numbers.len numbers.cap), (8, [], Value.pointer g), (10, [], Value.pointer r), (12, [], Value.pointer (some ⟨b_1, 0, none⟩)), (13, [], Value.pointer (some ⟨b_2, 0, none⟩)), (14, [], Value.pointer none), (15, [], Value.int .i64 i), (82, [], Value.pointer g), (83, [], Value.slice pp numbers.len numbers.cap), (84, [], Value.int .i64 i)] : GEnv)) hp_37) ?_
                  obtain ⟨h0, h1, h⟩ := h
                  refine reg_indexS1 (t := 22) (e := 3) (x := (Go.Operand.tmp 83)) (ix := (Go.Operand.tmp 84)) (b := (pblk numbers.ptr)) (o := (poff numbers.ptr)) (l := numbers.len) (c := numbers.cap) (k := .i64) (j := i) (ty := 0) (dst := some 85) (by kernel_rfl) (by kernel_rfl) (by kernel_rfl) (by kernel_rfl) (by kernel_rfl) h0 h1 ?_
                  refine reg_run [] 4 [(2, [], Value.slice numbers.ptr numbers.len numbers.cap), (8, [], Value.pointer g), (10, [], Value.pointer r), (12, [], Value.pointer (some ⟨b_1, 0, none⟩)), (13, [], Value.pointer (some ⟨b_2, 0, none⟩)), (14, [], Value.pointer none), (15, [], Value.int .i64 i), (82, [], Value.pointer g), (85, [], Value.pointer (some ⟨(pblk numbers.ptr), (poff numbers.ptr) + i.toNat, none⟩))] (by kernel_rfl) (by kernel_rfl) ?_
                  obtain ⟨v86, hc, h⟩ := h
                  refine reg_load1 (t := 3) (a := (Go.Operand.tmp 85)) (b := (pblk numbers.ptr)) (o := ((poff numbers.ptr) + i.toNat)) (ty := 3) (dst := some 86) (by kernel_rfl) (by kernel_rfl) (by kernel_rfl) hc ?_
                  refine reg_run [] 5 [(2, [], Value.slice numbers.ptr numbers.len numbers.cap), (8, [], Value.pointer g), (10, [], Value.pointer r), (12, [], Value.pointer (some ⟨b_1, 0, none⟩)), (13, [], Value.pointer (some ⟨b_2, 0, none⟩)), (14, [], Value.pointer none), (15, [], Value.int .i64 i), (82, [], Value.pointer g), (86, [], Value.int .i64 v86)] (by kernel_rfl) (by kernel_rfl) ?_
                  refine reg_enter (op := (Go.Op.call (Go.Call.mk (Go.Callee.value (Go.Operand.func 14)) #[(Go.Operand.tmp 82), (Go.Operand.tmp 86)] #[25, 3]))) (ty := 54) (dst := some 87) 14 #[Value.pointer g, Value.int .i64 v86] (by kernel_rfl) (fun ww => by kernel_rfl) (Calls.mono h ?_)
                  rintro _ w17 ⟨n_, h_, rfl, h⟩
                  refine ⟨_, rfl, ?_⟩
                  refine reg_run [.plain, .plain, .plain, .plain, .plain] 11 [(2, [], Value.slice numbers.ptr numbers.len numbers.cap), (8, [], Value.pointer g), (10, [], Value.pointer r), (12, [], Value.pointer (some ⟨b_1, 0, none⟩)), (13, [], Value.pointer (some ⟨b_2, 0, none⟩)), (14, [], Value.pointer none), (15, [], Value.int .i64 i), (16, [], Value.int .i64 n_), (17, [], Value.int .i64 h_)] (by kernel_rfl) (by kernel_rfl) ?_
                  refine reg_end [(2, Value.slice numbers.ptr numbers.len numbers.cap), (8, Value.pointer g), (10, Value.pointer r), (12, Value.pointer (some ⟨b_1, 0, none⟩)), (13, Value.pointer (some ⟨b_2, 0, none⟩)), (14, Value.pointer none), (15, Value.int .i64 i), (16, Value.int .i64 n_), (17, Value.int .i64 h_)] (by kernel_rfl) (by kernel_rfl) ?_
                  change WpE _ _ c_towpathlaw12_GatePlays_78 _ _ _
                  refine wpE_seq (x := c_towpathlaw12_GatePlays_79) (y := c_towpathlaw12_GatePlays_81) (by kernel_rfl) ?_
                  refine wpE_region (id := 20) (ops := r_towpathlaw12_GatePlays_79) (by kernel_rfl) ?_
                  refine reg_run [.plain, .plain, .plain] 3 [(2, [], Value.slice numbers.ptr numbers.len numbers.cap), (8, [], Value.pointer g), (10, [], Value.pointer r), (12, [], Value.pointer (some ⟨b_1, 0, none⟩)), (13, [], Value.pointer (some ⟨b_2, 0, none⟩)), (14, [], Value.pointer none), (15, [], Value.int .i64 i), (16, [], Value.int .i64 n_), (17, [], Value.int .i64 h_), (91, [], Value.pointer r), (92, [], Value.slice numbers.ptr numbers.len numbers.cap), (93, [], Value.int .i64 i)] (by kernel_rfl) (by kernel_rfl) ?_
                  obtain ⟨hp_39, h⟩ := h
                  refine reg_conv [(2, [], Value.slice numbers.ptr numbers.len numbers.cap), (8, [], Value.pointer g), (10, [], Value.pointer r), (12, [], Value.pointer (some ⟨b_1, 0, none⟩)), (13, [], Value.pointer (some ⟨b_2, 0, none⟩)), (14, [], Value.pointer none), (15, [], Value.int .i64 i), (16, [], Value.int .i64 n_), (17, [], Value.int .i64 h_), (91, [], Value.pointer r), (92, [], Value.slice (some ⟨(pblk numbers.ptr), (poff numbers.ptr), none⟩) numbers.len numbers.cap), (93, [], Value.int .i64 i)] (congrArg (fun pp => ([(2, [], Value.slice numbers.ptr numbers.len numbers.cap), (8, [], Value.pointer g), (10, [], Value.pointer r), (12, [], Value.pointer (some ⟨b_1, 0, none⟩)), (13, [], Value.pointer (some ⟨b_2, 0, none⟩)), (14, [], Value.pointer none), (15, [], Value.int .i64 i), (16, [], Value.int .i64 n_), (17, [], Value.int .i64 h_), (91, [], Value.pointer r), (92, [], Value.slice pp numbers.len numbers.cap), (93, [], Value.int .i64 i)] : GEnv)) hp_39) ?_
                  obtain ⟨h0, h1, h⟩ := h
                  refine reg_indexS1 (t := 22) (e := 3) (x := (Go.Operand.tmp 92)) (ix := (Go.Operand.tmp 93)) (b := (pblk numbers.ptr)) (o := (poff numbers.ptr)) (l := numbers.len) (c := numbers.cap) (k := .i64) (j := i) (ty := 0) (dst := some 94) (by kernel_rfl) (by kernel_rfl) (by kernel_rfl) (by kernel_rfl) (by kernel_rfl) h0 h1 ?_
                  refine reg_run [] 4 [(2, [], Value.slice numbers.ptr numbers.len numbers.cap), (8, [], Value.pointer g), (10, [], Value.pointer r), (12, [], Value.pointer (some ⟨b_1, 0, none⟩)), (13, [], Value.pointer (some ⟨b_2, 0, none⟩)), (14, [], Value.pointer none), (15, [], Value.int .i64 i), (16, [], Value.int .i64 n_), (17, [], Value.int .i64 h_), (91, [], Value.pointer r), (94, [], Value.pointer (some ⟨(pblk numbers.ptr), (poff numbers.ptr) + i.toNat, none⟩))] (by kernel_rfl) (by kernel_rfl) ?_
                  obtain ⟨v95, hc, h⟩ := h
                  refine reg_load1 (t := 3) (a := (Go.Operand.tmp 94)) (b := (pblk numbers.ptr)) (o := ((poff numbers.ptr) + i.toNat)) (ty := 3) (dst := some 95) (by kernel_rfl) (by kernel_rfl) (by kernel_rfl) hc ?_
                  refine reg_run [] 5 [(2, [], Value.slice numbers.ptr numbers.len numbers.cap), (8, [], Value.pointer g), (10, [], Value.pointer r), (12, [], Value.pointer (some ⟨b_1, 0, none⟩)), (13, [], Value.pointer (some ⟨b_2, 0, none⟩)), (14, [], Value.pointer none), (15, [], Value.int .i64 i), (16, [], Value.int .i64 n_), (17, [], Value.int .i64 h_), (91, [], Value.pointer r), (95, [], Value.int .i64 v95)] (by kernel_rfl) (by kernel_rfl) ?_
                  refine reg_enter (op := (Go.Op.call (Go.Call.mk (Go.Callee.value (Go.Operand.func 15)) #[(Go.Operand.tmp 91), (Go.Operand.tmp 95)] #[29, 3]))) (ty := 54) (dst := some 96) 15 #[Value.pointer r, Value.int .i64 v95] (by kernel_rfl) (fun ww => by kernel_rfl) (Calls.mono h ?_)
                  rintro _ w18 ⟨want, j, rfl, h⟩
                  refine ⟨_, rfl, ?_⟩
                  refine reg_run [.plain, .plain, .plain, .plain, .plain] 11 [(2, [], Value.slice numbers.ptr numbers.len numbers.cap), (8, [], Value.pointer g), (10, [], Value.pointer r), (12, [], Value.pointer (some ⟨b_1, 0, none⟩)), (13, [], Value.pointer (some ⟨b_2, 0, none⟩)), (14, [], Value.pointer none), (15, [], Value.int .i64 i), (16, [], Value.int .i64 n_), (17, [], Value.int .i64 h_), (18, [], Value.int .i64 want), (19, [], Value.int .i64 j)] (by kernel_rfl) (by kernel_rfl) ?_
                  refine reg_end [(2, Value.slice numbers.ptr numbers.len numbers.cap), (8, Value.pointer g), (10, Value.pointer r), (12, Value.pointer (some ⟨b_1, 0, none⟩)), (13, Value.pointer (some ⟨b_2, 0, none⟩)), (14, Value.pointer none), (15, Value.int .i64 i), (16, Value.int .i64 n_), (17, Value.int .i64 h_), (18, Value.int .i64 want), (19, Value.int .i64 j)] (by kernel_rfl) (by kernel_rfl) ?_
                  change WpE _ _ c_towpathlaw12_GatePlays_81 _ _ _
                  refine wpE_seq (x := c_towpathlaw12_GatePlays_82) (y := c_towpathlaw12_GatePlays_91) (by kernel_rfl) ?_
                  refine wpE_seq_cut (x := c_towpathlaw12_GatePlays_83) (y := c_towpathlaw12_GatePlays_85) (by kernel_rfl) (fun l w => ∃ (t126 : Bool), l = [(2, Value.slice numbers.ptr numbers.len numbers.cap), (8, Value.pointer g), (10, Value.pointer r), (12, Value.pointer (some ⟨b_1, 0, none⟩)), (13, Value.pointer (some ⟨b_2, 0, none⟩)), (14, Value.pointer none), (15, Value.int .i64 i), (126, Value.bool t126)] ∧ F_towpathlaw12_GatePlays_k4 R g b_1 i again_ t126 w) ?_ ?_
                  · refine wpE_region (id := 21) (ops := r_towpathlaw12_GatePlays_83) (by kernel_rfl) ?_
                    refine reg_run [.plain, .plain, .plain, .plain, .plain, .plain, .plain, .pick, .plain, .plain, .plain, .plain, .plain] 13 [(2, [], Value.slice numbers.ptr numbers.len numbers.cap), (8, [], Value.pointer g), (10, [], Value.pointer r), (12, [], Value.pointer (some ⟨b_1, 0, none⟩)), (13, [], Value.pointer (some ⟨b_2, 0, none⟩)), (14, [], Value.pointer none), (15, [], Value.int .i64 i), (107, [], Value.bool ((n_ != want) || (h_ != j))), (108, [(107, false)], Value.pointer g), (109, [(107, false)], Value.pointer r), (110, [(107, false)], Value.slice numbers.ptr numbers.len numbers.cap), (111, [(107, false)], Value.int .i64 i)] (by kernel_rfl) (by kernel_rfl) ?_
                    refine reg_split 107 ((n_ != want) || (h_ != j)) (by kernel_rfl) (fun hb => ?_) (fun hb => ?_)
                    · replace h := h.1 hb
                      refine reg_run [] 13 [(2, [], Value.slice numbers.ptr numbers.len numbers.cap), (8, [], Value.pointer g), (10, [], Value.pointer r), (12, [], Value.pointer (some ⟨b_1, 0, none⟩)), (13, [], Value.pointer (some ⟨b_2, 0, none⟩)), (14, [], Value.pointer none), (15, [], Value.int .i64 i), (107, [], Value.bool true), (108, [], undef), (109, [], undef), (110, [], undef), (111, [], undef)] (by kernel_rfl) (by kernel_rfl) ?_
                      refine reg_run [.skip, .skip, .skip, .skip, .plain, .plain, .skip, .skip, .skip, .skip, .skip, .skip, .skip, .skip, .plain] 28 [(2, [], Value.slice numbers.ptr numbers.len numbers.cap), (8, [], Value.pointer g), (10, [], Value.pointer r), (12, [], Value.pointer (some ⟨b_1, 0, none⟩)), (13, [], Value.pointer (some ⟨b_2, 0, none⟩)), (14, [], Value.pointer none), (15, [], Value.int .i64 i), (126, [], Value.bool true)] (by kernel_rfl) (by kernel_rfl) ?_
                      refine reg_end [(2, Value.slice numbers.ptr numbers.len numbers.cap), (8, Value.pointer g), (10, Value.pointer r), (12, Value.pointer (some ⟨b_1, 0, none⟩)), (13, Value.pointer (some ⟨b_2, 0, none⟩)), (14, Value.pointer none), (15, Value.int .i64 i), (126, Value.bool true)] (by kernel_rfl) (by kernel_rfl) ?_
                      exact ⟨[(2, Value.slice numbers.ptr numbers.len numbers.cap), (8, Value.pointer g), (10, Value.pointer r), (12, Value.pointer (some ⟨b_1, 0, none⟩)), (13, Value.pointer (some ⟨b_2, 0, none⟩)), (14, Value.pointer none), (15, Value.int .i64 i), (126, Value.bool true)], Sub.mk (by kernel_rfl), true, rfl, h⟩
                    · replace h := h.2 hb
                      refine reg_run [] 13 [(2, [], Value.slice numbers.ptr numbers.len numbers.cap), (8, [], Value.pointer g), (10, [], Value.pointer r), (12, [], Value.pointer (some ⟨b_1, 0, none⟩)), (13, [], Value.pointer (some ⟨b_2, 0, none⟩)), (14, [], Value.pointer none), (15, [], Value.int .i64 i), (107, [], Value.bool false), (108, [], Value.pointer g), (109, [], Value.pointer r), (110, [], Value.slice numbers.ptr numbers.len numbers.cap), (111, [], Value.int .i64 i)] (by kernel_rfl) (by kernel_rfl) ?_
                      refine reg_run [] 13 [(2, [], Value.slice numbers.ptr numbers.len numbers.cap), (8, [], Value.pointer g), (10, [], Value.pointer r), (12, [], Value.pointer (some ⟨b_1, 0, none⟩)), (13, [], Value.pointer (some ⟨b_2, 0, none⟩)), (14, [], Value.pointer none), (15, [], Value.int .i64 i), (107, [], Value.bool false), (108, [], Value.pointer g), (109, [], Value.pointer r), (110, [], Value.slice numbers.ptr numbers.len numbers.cap), (111, [], Value.int .i64 i)] (by kernel_rfl) (by kernel_rfl) ?_
                      obtain ⟨hp_46, h⟩ := h
                      refine reg_conv [(2, [], Value.slice numbers.ptr numbers.len numbers.cap), (8, [], Value.pointer g), (10, [], Value.pointer r), (12, [], Value.pointer (some ⟨b_1, 0, none⟩)), (13, [], Value.pointer (some ⟨b_2, 0, none⟩)), (14, [], Value.pointer none), (15, [], Value.int .i64 i), (107, [], Value.bool false), (108, [], Value.pointer g), (109, [], Value.pointer r), (110, [], Value.slice (some ⟨(pblk numbers.ptr), (poff numbers.ptr), none⟩) numbers.len numbers.cap), (111, [], Value.int .i64 i)] (congrArg (fun pp => ([(2, [], Value.slice numbers.ptr numbers.len numbers.cap), (8, [], Value.pointer g), (10, [], Value.pointer r), (12, [], Value.pointer (some ⟨b_1, 0, none⟩)), (13, [], Value.pointer (some ⟨b_2, 0, none⟩)), (14, [], Value.pointer none), (15, [], Value.int .i64 i), (107, [], Value.bool false), (108, [], Value.pointer g), (109, [], Value.pointer r), (110, [], Value.slice pp numbers.len numbers.cap), (111, [], Value.int .i64 i)] : GEnv)) hp_46) ?_
                      obtain ⟨h0, h1, h⟩ := h
                      refine reg_indexS1 (t := 22) (e := 3) (x := (Go.Operand.tmp 110)) (ix := (Go.Operand.tmp 111)) (b := (pblk numbers.ptr)) (o := (poff numbers.ptr)) (l := numbers.len) (c := numbers.cap) (k := .i64) (j := i) (ty := 0) (dst := some 112) (by kernel_rfl) (by kernel_rfl) (by kernel_rfl) (by kernel_rfl) (by kernel_rfl) h0 h1 ?_
                      refine reg_run [] 14 [(2, [], Value.slice numbers.ptr numbers.len numbers.cap), (8, [], Value.pointer g), (10, [], Value.pointer r), (12, [], Value.pointer (some ⟨b_1, 0, none⟩)), (13, [], Value.pointer (some ⟨b_2, 0, none⟩)), (14, [], Value.pointer none), (15, [], Value.int .i64 i), (107, [], Value.bool false), (108, [], Value.pointer g), (109, [], Value.pointer r), (112, [], Value.pointer (some ⟨(pblk numbers.ptr), (poff numbers.ptr) + i.toNat, none⟩))] (by kernel_rfl) (by kernel_rfl) ?_
                      obtain ⟨v113, hc, h⟩ := h
                      refine reg_load1 (t := 3) (a := (Go.Operand.tmp 112)) (b := (pblk numbers.ptr)) (o := ((poff numbers.ptr) + i.toNat)) (ty := 3) (dst := some 113) (by kernel_rfl) (by kernel_rfl) (by kernel_rfl) hc ?_
                      refine reg_run [] 15 [(2, [], Value.slice numbers.ptr numbers.len numbers.cap), (8, [], Value.pointer g), (10, [], Value.pointer r), (12, [], Value.pointer (some ⟨b_1, 0, none⟩)), (13, [], Value.pointer (some ⟨b_2, 0, none⟩)), (14, [], Value.pointer none), (15, [], Value.int .i64 i), (107, [], Value.bool false), (108, [], Value.pointer g), (109, [], Value.pointer r), (113, [], Value.int .i64 v113)] (by kernel_rfl) (by kernel_rfl) ?_
                      refine reg_enter (op := (Go.Op.call (Go.Call.mk (Go.Callee.value (Go.Operand.func 13)) #[(Go.Operand.tmp 108), (Go.Operand.tmp 109), (Go.Operand.tmp 113)] #[25, 29, 3]))) (ty := 4) (dst := some 114) 13 #[Value.pointer g, Value.pointer r, Value.int .i64 v113] (by kernel_rfl) (fun ww => by kernel_rfl) (Calls.mono h ?_)
                      rintro _ w22 ⟨v114, rfl, h⟩
                      refine ⟨_, rfl, ?_⟩
                      refine reg_run [.sure, .plain, .plain, .plain, .plain, .plain, .plain] 23 [(2, [], Value.slice numbers.ptr numbers.len numbers.cap), (8, [], Value.pointer g), (10, [], Value.pointer r), (12, [], Value.pointer (some ⟨b_1, 0, none⟩)), (13, [], Value.pointer (some ⟨b_2, 0, none⟩)), (14, [], Value.pointer none), (15, [], Value.int .i64 i), (117, [], Value.bool (!v114)), (118, [(117, false)], Value.pointer (some ⟨b_2, 0, none⟩)), (119, [(117, false)], Value.pointer none), (120, [(117, false)], Value.slice numbers.ptr numbers.len numbers.cap), (121, [(117, false)], Value.int .i64 i)] (by kernel_rfl) (by kernel_rfl) ?_
                      refine reg_split 117 (!v114) (by kernel_rfl) (fun hb => ?_) (fun hb => ?_)
                      · replace h := h.1 hb
                        refine reg_run [] 23 [(2, [], Value.slice numbers.ptr numbers.len numbers.cap), (8, [], Value.pointer g), (10, [], Value.pointer r), (12, [], Value.pointer (some ⟨b_1, 0, none⟩)), (13, [], Value.pointer (some ⟨b_2, 0, none⟩)), (14, [], Value.pointer none), (15, [], Value.int .i64 i), (117, [], Value.bool true), (118, [], undef), (119, [], undef), (120, [], undef), (121, [], undef)] (by kernel_rfl) (by kernel_rfl) ?_
                        refine reg_run [.skip, .skip, .skip, .skip, .plain] 28 [(2, [], Value.slice numbers.ptr numbers.len numbers.cap), (8, [], Value.pointer g), (10, [], Value.pointer r), (12, [], Value.pointer (some ⟨b_1, 0, none⟩)), (13, [], Value.pointer (some ⟨b_2, 0, none⟩)), (14, [], Value.pointer none), (15, [], Value.int .i64 i), (126, [], Value.bool true)] (by kernel_rfl) (by kernel_rfl) ?_
                        refine reg_end [(2, Value.slice numbers.ptr numbers.len numbers.cap), (8, Value.pointer g), (10, Value.pointer r), (12, Value.pointer (some ⟨b_1, 0, none⟩)), (13, Value.pointer (some ⟨b_2, 0, none⟩)), (14, Value.pointer none), (15, Value.int .i64 i), (126, Value.bool true)] (by kernel_rfl) (by kernel_rfl) ?_
                        exact ⟨[(2, Value.slice numbers.ptr numbers.len numbers.cap), (8, Value.pointer g), (10, Value.pointer r), (12, Value.pointer (some ⟨b_1, 0, none⟩)), (13, Value.pointer (some ⟨b_2, 0, none⟩)), (14, Value.pointer none), (15, Value.int .i64 i), (126, Value.bool true)], Sub.mk (by kernel_rfl), true, rfl, h⟩
                      · replace h := h.2 hb
                        refine reg_run [] 23 [(2, [], Value.slice numbers.ptr numbers.len numbers.cap), (8, [], Value.pointer g), (10, [], Value.pointer r), (12, [], Value.pointer (some ⟨b_1, 0, none⟩)), (13, [], Value.pointer (some ⟨b_2, 0, none⟩)), (14, [], Value.pointer none), (15, [], Value.int .i64 i), (117, [], Value.bool false), (118, [], Value.pointer (some ⟨b_2, 0, none⟩)), (119, [], Value.pointer none), (120, [], Value.slice numbers.ptr numbers.len numbers.cap), (121, [], Value.int .i64 i)] (by kernel_rfl) (by kernel_rfl) ?_
                        refine reg_run [] 23 [(2, [], Value.slice numbers.ptr numbers.len numbers.cap), (8, [], Value.pointer g), (10, [], Value.pointer r), (12, [], Value.pointer (some ⟨b_1, 0, none⟩)), (13, [], Value.pointer (some ⟨b_2, 0, none⟩)), (14, [], Value.pointer none), (15, [], Value.int .i64 i), (117, [], Value.bool false), (118, [], Value.pointer (some ⟨b_2, 0, none⟩)), (119, [], Value.pointer none), (120, [], Value.slice numbers.ptr numbers.len numbers.cap), (121, [], Value.int .i64 i)] (by kernel_rfl) (by kernel_rfl) ?_
                        obtain ⟨hp_47, h⟩ := h
                        refine reg_conv [(2, [], Value.slice numbers.ptr numbers.len numbers.cap), (8, [], Value.pointer g), (10, [], Value.pointer r), (12, [], Value.pointer (some ⟨b_1, 0, none⟩)), (13, [], Value.pointer (some ⟨b_2, 0, none⟩)), (14, [], Value.pointer none), (15, [], Value.int .i64 i), (117, [], Value.bool false), (118, [], Value.pointer (some ⟨b_2, 0, none⟩)), (119, [], Value.pointer none), (120, [], Value.slice (some ⟨(pblk numbers.ptr), (poff numbers.ptr), none⟩) numbers.len numbers.cap), (121, [], Value.int .i64 i)] (congrArg (fun pp => ([(2, [], Value.slice numbers.ptr numbers.len numbers.cap), (8, [], Value.pointer g), (10, [], Value.pointer r), (12, [], Value.pointer (some ⟨b_1, 0, none⟩)), (13, [], Value.pointer (some ⟨b_2, 0, none⟩)), (14, [], Value.pointer none), (15, [], Value.int .i64 i), (117, [], Value.bool false), (118, [], Value.pointer (some ⟨b_2, 0, none⟩)), (119, [], Value.pointer none), (120, [], Value.slice pp numbers.len numbers.cap), (121, [], Value.int .i64 i)] : GEnv)) hp_47) ?_
                        obtain ⟨h0, h1, h⟩ := h
                        refine reg_indexS1 (t := 22) (e := 3) (x := (Go.Operand.tmp 120)) (ix := (Go.Operand.tmp 121)) (b := (pblk numbers.ptr)) (o := (poff numbers.ptr)) (l := numbers.len) (c := numbers.cap) (k := .i64) (j := i) (ty := 0) (dst := some 122) (by kernel_rfl) (by kernel_rfl) (by kernel_rfl) (by kernel_rfl) (by kernel_rfl) h0 h1 ?_
                        refine reg_run [] 24 [(2, [], Value.slice numbers.ptr numbers.len numbers.cap), (8, [], Value.pointer g), (10, [], Value.pointer r), (12, [], Value.pointer (some ⟨b_1, 0, none⟩)), (13, [], Value.pointer (some ⟨b_2, 0, none⟩)), (14, [], Value.pointer none), (15, [], Value.int .i64 i), (117, [], Value.bool false), (118, [], Value.pointer (some ⟨b_2, 0, none⟩)), (119, [], Value.pointer none), (122, [], Value.pointer (some ⟨(pblk numbers.ptr), (poff numbers.ptr) + i.toNat, none⟩))] (by kernel_rfl) (by kernel_rfl) ?_
                        obtain ⟨v123, hc, h⟩ := h
                        refine reg_load1 (t := 3) (a := (Go.Operand.tmp 122)) (b := (pblk numbers.ptr)) (o := ((poff numbers.ptr) + i.toNat)) (ty := 3) (dst := some 123) (by kernel_rfl) (by kernel_rfl) (by kernel_rfl) hc ?_
                        refine reg_run [] 25 [(2, [], Value.slice numbers.ptr numbers.len numbers.cap), (8, [], Value.pointer g), (10, [], Value.pointer r), (12, [], Value.pointer (some ⟨b_1, 0, none⟩)), (13, [], Value.pointer (some ⟨b_2, 0, none⟩)), (14, [], Value.pointer none), (15, [], Value.int .i64 i), (117, [], Value.bool false), (118, [], Value.pointer (some ⟨b_2, 0, none⟩)), (119, [], Value.pointer none), (123, [], Value.int .i64 v123)] (by kernel_rfl) (by kernel_rfl) ?_
                        refine reg_enter (op := (Go.Op.call (Go.Call.mk (Go.Callee.value (Go.Operand.func 13)) #[(Go.Operand.tmp 118), (Go.Operand.tmp 119), (Go.Operand.tmp 123)] #[25, 29, 3]))) (ty := 4) (dst := some 124) 13 #[Value.pointer (some ⟨b_2, 0, none⟩), Value.pointer none, Value.int .i64 v123] (by kernel_rfl) (fun ww => by kernel_rfl) (Calls.mono h ?_)
                        rintro _ w23 ⟨v124, rfl, h⟩
                        refine ⟨_, rfl, ?_⟩
                        refine reg_run [.sure, .plain] 28 [(2, [], Value.slice numbers.ptr numbers.len numbers.cap), (8, [], Value.pointer g), (10, [], Value.pointer r), (12, [], Value.pointer (some ⟨b_1, 0, none⟩)), (13, [], Value.pointer (some ⟨b_2, 0, none⟩)), (14, [], Value.pointer none), (15, [], Value.int .i64 i), (126, [], Value.bool (!v124))] (by kernel_rfl) (by kernel_rfl) ?_
                        refine reg_end [(2, Value.slice numbers.ptr numbers.len numbers.cap), (8, Value.pointer g), (10, Value.pointer r), (12, Value.pointer (some ⟨b_1, 0, none⟩)), (13, Value.pointer (some ⟨b_2, 0, none⟩)), (14, Value.pointer none), (15, Value.int .i64 i), (126, Value.bool (!v124))] (by kernel_rfl) (by kernel_rfl) ?_
                        exact ⟨[(2, Value.slice numbers.ptr numbers.len numbers.cap), (8, Value.pointer g), (10, Value.pointer r), (12, Value.pointer (some ⟨b_1, 0, none⟩)), (13, Value.pointer (some ⟨b_2, 0, none⟩)), (14, Value.pointer none), (15, Value.int .i64 i), (126, Value.bool (!v124))], Sub.mk (by kernel_rfl), (!v124), rfl, h⟩
                  · rintro _ w19 ⟨t126, rfl, h⟩
                    unfold F_towpathlaw12_GatePlays_k4 at h
                    refine wpE_cond (o := (Operand.tmp 126)) (b := t126) (x := c_towpathlaw12_GatePlays_86) (y := c_towpathlaw12_GatePlays_90) (by kernel_rfl) (by kernel_rfl) (fun hb => ?_) (fun hb => ?_)
                    · replace h := h.1 hb
                      refine wpE_seq (x := c_towpathlaw12_GatePlays_87) (y := c_towpathlaw12_GatePlays_89) (by kernel_rfl) ?_
                      refine wpE_region (id := 22) (ops := r_towpathlaw12_GatePlays_87) (by kernel_rfl) ?_
                      refine reg_run [.plain] 1 [(6, [], Value.bool false)] (by kernel_rfl) (by kernel_rfl) ?_
                      refine reg_end [(6, Value.bool false)] (by kernel_rfl) (by kernel_rfl) ?_
                      change WpE _ _ c_towpathlaw12_GatePlays_89 _ _ _
                      refine wpE_ret (by kernel_rfl) ?_
                      repeat (first | refine seqQ_ret ?_ | refine blockQ_ret ?_ | refine loopQ_ret ?_ | refine cutQ_ret ?_)
                      exact retS (rs := [(Go.ResultVar.tmp 6)]) (v := Value.bool false) (by kernel_rfl) (⟨by kernel_rfl, trivial⟩) ⟨false, rfl, h⟩
                    · replace h := h.2 hb
                      refine wpE_skip (by kernel_rfl) ?_
                      change WpE _ _ c_towpathlaw12_GatePlays_91 _ _ _
                      refine wpE_seq (x := c_towpathlaw12_GatePlays_92) (y := c_towpathlaw12_GatePlays_94) (by kernel_rfl) ?_
                      refine wpE_region (id := 23) (ops := r_towpathlaw12_GatePlays_92) (by kernel_rfl) ?_
                      refine reg_run [.plain, .plain] 2 [(2, [], Value.slice numbers.ptr numbers.len numbers.cap), (8, [], Value.pointer g), (10, [], Value.pointer r), (12, [], Value.pointer (some ⟨b_1, 0, none⟩)), (13, [], Value.pointer (some ⟨b_2, 0, none⟩)), (14, [], Value.pointer none), (15, [], Value.int .i64 i), (128, [], Value.bool (decide (i < 20)))] (by kernel_rfl) (by kernel_rfl) ?_
                      refine reg_end [(2, Value.slice numbers.ptr numbers.len numbers.cap), (8, Value.pointer g), (10, Value.pointer r), (12, Value.pointer (some ⟨b_1, 0, none⟩)), (13, Value.pointer (some ⟨b_2, 0, none⟩)), (14, Value.pointer none), (15, Value.int .i64 i), (128, Value.bool (decide (i < 20)))] (by kernel_rfl) (by kernel_rfl) ?_
                      change WpE _ _ c_towpathlaw12_GatePlays_94 _ _ _
                      refine wpE_cond (o := (Operand.tmp 128)) (b := (decide (i < 20))) (x := c_towpathlaw12_GatePlays_95) (y := c_towpathlaw12_GatePlays_97) (by kernel_rfl) (by kernel_rfl) (fun hb => ?_) (fun hb => ?_)
                      · replace h := h.1 hb
                        refine wpE_region (id := 24) (ops := r_towpathlaw12_GatePlays_95) (by kernel_rfl) ?_
                        refine reg_run [.plain] 1 [(2, [], Value.slice numbers.ptr numbers.len numbers.cap), (8, [], Value.pointer g), (10, [], Value.pointer r), (12, [], Value.pointer (some ⟨b_1, 0, none⟩)), (13, [], Value.pointer (some ⟨b_2, 0, none⟩)), (14, [], Value.pointer none), (15, [], Value.int .i64 i), (129, [], Value.pointer g)] (by kernel_rfl) (by kernel_rfl) ?_
                        refine reg_enter (op := (Go.Op.call (Go.Call.mk (Go.Callee.value (Go.Operand.func 11)) #[(Go.Operand.tmp 129)] #[25]))) (ty := 22) (dst := some 130) 11 #[Value.pointer g] (by kernel_rfl) (fun ww => by kernel_rfl) (Calls.mono h ?_)
                        rintro _ w20 ⟨v130, rfl, h⟩
                        refine ⟨_, rfl, ?_⟩
                        refine reg_run [] 2 [(2, [], Value.slice numbers.ptr numbers.len numbers.cap), (8, [], Value.pointer g), (10, [], Value.pointer r), (12, [], Value.pointer (some ⟨b_1, 0, none⟩)), (13, [], Value.pointer (some ⟨b_2, 0, none⟩)), (14, [], Value.pointer none), (15, [], Value.int .i64 i), (130, [], Value.slice v130.ptr v130.len v130.cap)] (by kernel_rfl) (by kernel_rfl) ?_
                        refine reg_enter (op := (Go.Op.call (Go.Call.mk (Go.Callee.value (Go.Operand.func 10)) #[(Go.Operand.tmp 12), (Go.Operand.tmp 130)] #[45, 22]))) (ty := 0) (dst := some 131) 10 #[Value.pointer (some ⟨b_1, 0, none⟩), Value.slice v130.ptr v130.len v130.cap] (by kernel_rfl) (fun ww => by kernel_rfl) (Calls.mono h ?_)
                        rintro _ w21 ⟨rfl, h⟩
                        refine ⟨_, rfl, ?_⟩
                        refine reg_end [(2, Value.slice numbers.ptr numbers.len numbers.cap), (8, Value.pointer g), (10, Value.pointer r), (12, Value.pointer (some ⟨b_1, 0, none⟩)), (13, Value.pointer (some ⟨b_2, 0, none⟩)), (14, Value.pointer none), (15, Value.int .i64 i)] (by kernel_rfl) (by kernel_rfl) ?_
                        exact ⟨[(2, Value.slice numbers.ptr numbers.len numbers.cap), (8, Value.pointer g), (10, Value.pointer r), (12, Value.pointer (some ⟨b_1, 0, none⟩)), (13, Value.pointer (some ⟨b_2, 0, none⟩)), (14, Value.pointer none), (15, Value.int .i64 i)], Sub.mk (by kernel_rfl), rfl, h⟩
                      · replace h := h.2 hb
                        refine wpE_skip (by kernel_rfl) ?_
                        exact ⟨[(2, Value.slice numbers.ptr numbers.len numbers.cap), (8, Value.pointer g), (10, Value.pointer r), (12, Value.pointer (some ⟨b_1, 0, none⟩)), (13, Value.pointer (some ⟨b_2, 0, none⟩)), (14, Value.pointer none), (15, Value.int .i64 i)], Sub.mk (by kernel_rfl), rfl, h⟩
                · rintro _ w16 ⟨rfl, h⟩
                  unfold F_towpathlaw12_GatePlays_k3 at h
                  refine wpE_region (id := 18) (ops := r_towpathlaw12_GatePlays_98) (by kernel_rfl) ?_
                  refine reg_run [.plain, .plain, .plain] 3 [(2, [], Value.slice numbers.ptr numbers.len numbers.cap), (8, [], Value.pointer g), (10, [], Value.pointer r), (12, [], Value.pointer (some ⟨b_1, 0, none⟩)), (13, [], Value.pointer (some ⟨b_2, 0, none⟩)), (14, [], Value.pointer none), (15, [], Value.int .i64 (IntKind.i64.wrap (i + 1)))] (by kernel_rfl) (by kernel_rfl) ?_
                  refine reg_end [(2, Value.slice numbers.ptr numbers.len numbers.cap), (8, Value.pointer g), (10, Value.pointer r), (12, Value.pointer (some ⟨b_1, 0, none⟩)), (13, Value.pointer (some ⟨b_2, 0, none⟩)), (14, Value.pointer none), (15, Value.int .i64 (IntKind.i64.wrap (i + 1)))] (by kernel_rfl) (by kernel_rfl) ?_
                  have hb_ := again__h _ _ h
                  exact ⟨_, hb_.2, [(2, Value.slice numbers.ptr numbers.len numbers.cap), (8, Value.pointer g), (10, Value.pointer r), (12, Value.pointer (some ⟨b_1, 0, none⟩)), (13, Value.pointer (some ⟨b_2, 0, none⟩)), (14, Value.pointer none), (15, Value.int .i64 (IntKind.i64.wrap (i + 1)))], Sub.mk (by kernel_rfl), (IntKind.i64.wrap (i + 1)), rfl, hb_.1, rfl⟩
              · replace h := h.2 hb
                refine wpE_exit (id := 0) (by kernel_rfl) ?_
                change WpE _ _ c_towpathlaw12_GatePlays_100 _ _ _
                refine wpE_seq (x := c_towpathlaw12_GatePlays_101) (y := c_towpathlaw12_GatePlays_103) (by kernel_rfl) ?_
                refine wpE_region (id := 25) (ops := r_towpathlaw12_GatePlays_101) (by kernel_rfl) ?_
                refine reg_run [.plain] 1 [(8, [], Value.pointer g), (10, [], Value.pointer r), (12, [], Value.pointer (some ⟨b_1, 0, none⟩)), (133, [], Value.pointer (some ⟨b_2, 0, none⟩))] (by kernel_rfl) (by kernel_rfl) ?_
                refine reg_enter (op := (Go.Op.call (Go.Call.mk (Go.Callee.value (Go.Operand.func 14)) #[(Go.Operand.tmp 133), (Go.Operand.const (Go.Value.int Go.IntKind.i64 1))] #[25, 3]))) (ty := 54) (dst := some 134) 14 #[Value.pointer (some ⟨b_2, 0, none⟩), Value.int .i64 1] (by kernel_rfl) (fun ww => by kernel_rfl) (Calls.mono h ?_)
                rintro _ w24 ⟨v134, h_1, rfl, h⟩
                refine ⟨_, rfl, ?_⟩
                refine reg_run [.plain, .plain, .plain, .plain, .plain] 7 [(8, [], Value.pointer g), (10, [], Value.pointer r), (12, [], Value.pointer (some ⟨b_1, 0, none⟩)), (21, [], Value.int .i64 h_1)] (by kernel_rfl) (by kernel_rfl) ?_
                refine reg_end [(8, Value.pointer g), (10, Value.pointer r), (12, Value.pointer (some ⟨b_1, 0, none⟩)), (21, Value.int .i64 h_1)] (by kernel_rfl) (by kernel_rfl) ?_
                change WpE _ _ c_towpathlaw12_GatePlays_103 _ _ _
                refine wpE_seq (x := c_towpathlaw12_GatePlays_104) (y := c_towpathlaw12_GatePlays_106) (by kernel_rfl) ?_
                refine wpE_region (id := 26) (ops := r_towpathlaw12_GatePlays_104) (by kernel_rfl) ?_
                refine reg_run [] 0 [(8, [], Value.pointer g), (10, [], Value.pointer r), (12, [], Value.pointer (some ⟨b_1, 0, none⟩)), (21, [], Value.int .i64 h_1)] (by kernel_rfl) (by kernel_rfl) ?_
                refine reg_enter (op := (Go.Op.call (Go.Call.mk (Go.Callee.value (Go.Operand.func 12)) #[(Go.Operand.tmp 12)] #[45]))) (ty := 4) (dst := some 137) 12 #[Value.pointer (some ⟨b_1, 0, none⟩)] (by kernel_rfl) (fun ww => by kernel_rfl) (Calls.mono h ?_)
                rintro _ w25 ⟨v137, rfl, h⟩
                refine ⟨_, rfl, ?_⟩
                refine reg_run [.plain, .plain] 3 [(8, [], Value.pointer g), (10, [], Value.pointer r), (21, [], Value.int .i64 h_1), (138, [], Value.bool v137), (139, [(138, true)], Value.pointer g)] (by kernel_rfl) (by kernel_rfl) ?_
                refine reg_split 138 v137 (by kernel_rfl) (fun hb => ?_) (fun hb => ?_)
                · replace h := h.1 hb
                  refine reg_run [] 3 [(8, [], Value.pointer g), (10, [], Value.pointer r), (21, [], Value.int .i64 h_1), (138, [], Value.bool true), (139, [], Value.pointer g)] (by kernel_rfl) (by kernel_rfl) ?_
                  refine reg_run [] 3 [(8, [], Value.pointer g), (10, [], Value.pointer r), (21, [], Value.int .i64 h_1), (138, [], Value.bool true), (139, [], Value.pointer g)] (by kernel_rfl) (by kernel_rfl) ?_
                  refine reg_enter (op := (Go.Op.call (Go.Call.mk (Go.Callee.value (Go.Operand.func 11)) #[(Go.Operand.tmp 139)] #[25]))) (ty := 22) (dst := some 140) 11 #[Value.pointer g] (by kernel_rfl) (fun ww => by kernel_rfl) (Calls.mono h ?_)
                  rintro _ w26 ⟨v140, rfl, h⟩
                  refine ⟨_, rfl, ?_⟩
                  refine reg_run [.sure] 5 [(8, [], Value.pointer g), (10, [], Value.pointer r), (21, [], Value.int .i64 h_1), (138, [], Value.bool true), (140, [], Value.slice v140.ptr v140.len v140.cap), (141, [], Value.pointer r)] (by kernel_rfl) (by kernel_rfl) ?_
                  refine reg_enter (op := (Go.Op.call (Go.Call.mk (Go.Callee.value (Go.Operand.func 17)) #[(Go.Operand.tmp 141)] #[29]))) (ty := 22) (dst := some 142) 17 #[Value.pointer r] (by kernel_rfl) (fun ww => by kernel_rfl) (Calls.mono h ?_)
                  rintro _ w27 ⟨v142, rfl, h⟩
                  refine ⟨_, rfl, ?_⟩
                  refine reg_run [] 6 [(8, [], Value.pointer g), (10, [], Value.pointer r), (21, [], Value.int .i64 h_1), (138, [], Value.bool true), (140, [], Value.slice v140.ptr v140.len v140.cap), (142, [], Value.slice v142.ptr v142.len v142.cap)] (by kernel_rfl) (by kernel_rfl) ?_
                  refine reg_enter (op := (Go.Op.call (Go.Call.mk (Go.Callee.value (Go.Operand.func 16)) #[(Go.Operand.tmp 140), (Go.Operand.tmp 142)] #[22, 22]))) (ty := 4) (dst := some 143) 16 #[Value.slice v140.ptr v140.len v140.cap, Value.slice v142.ptr v142.len v142.cap] (by kernel_rfl) (fun ww => by kernel_rfl) (Calls.mono h ?_)
                  rintro _ w28 ⟨v143, rfl, h⟩
                  refine ⟨_, rfl, ?_⟩
                  refine reg_run [.plain, .plain, .plain] 10 [(10, [], Value.pointer r), (21, [], Value.int .i64 h_1), (145, [], Value.bool v143), (146, [(145, true)], Value.pointer g)] (by kernel_rfl) (by kernel_rfl) ?_
                  refine reg_split 145 v143 (by kernel_rfl) (fun hb => ?_) (fun hb => ?_)
                  · replace h := h.1 hb
                    refine reg_run [] 10 [(10, [], Value.pointer r), (21, [], Value.int .i64 h_1), (145, [], Value.bool true), (146, [], Value.pointer g)] (by kernel_rfl) (by kernel_rfl) ?_
                    refine reg_run [] 10 [(10, [], Value.pointer r), (21, [], Value.int .i64 h_1), (145, [], Value.bool true), (146, [], Value.pointer g)] (by kernel_rfl) (by kernel_rfl) ?_
                    refine reg_enter (op := (Go.Op.call (Go.Call.mk (Go.Callee.value (Go.Operand.func 18)) #[(Go.Operand.tmp 146)] #[25]))) (ty := 3) (dst := some 147) 18 #[Value.pointer g] (by kernel_rfl) (fun ww => by kernel_rfl) (Calls.mono h ?_)
                    rintro _ w29 ⟨v147, rfl, h⟩
                    refine ⟨_, rfl, ?_⟩
                    refine reg_run [.sure] 12 [(21, [], Value.int .i64 h_1), (145, [], Value.bool true), (147, [], Value.int .i64 v147), (148, [], Value.pointer r)] (by kernel_rfl) (by kernel_rfl) ?_
                    refine reg_enter (op := (Go.Op.call (Go.Call.mk (Go.Callee.value (Go.Operand.func 19)) #[(Go.Operand.tmp 148)] #[29]))) (ty := 3) (dst := some 149) 19 #[Value.pointer r] (by kernel_rfl) (fun ww => by kernel_rfl) (Calls.mono h ?_)
                    rintro _ w30 ⟨v149, rfl, h⟩
                    refine ⟨_, rfl, ?_⟩
                    refine reg_run [.sure, .plain, .plain, .plain, .plain, .pick, .plain] 20 [(6, [], Value.bool ((v147 == v149) && (h_1 == 2)))] (by kernel_rfl) (by kernel_rfl) ?_
                    refine reg_end [(6, Value.bool ((v147 == v149) && (h_1 == 2)))] (by kernel_rfl) (by kernel_rfl) ?_
                    change WpE _ _ c_towpathlaw12_GatePlays_106 _ _ _
                    refine wpE_ret (by kernel_rfl) ?_
                    repeat (first | refine seqQ_ret ?_ | refine blockQ_ret ?_ | refine loopQ_ret ?_ | refine cutQ_ret ?_)
                    exact retS (rs := [(Go.ResultVar.tmp 6)]) (v := Value.bool ((v147 == v149) && (h_1 == 2))) (by kernel_rfl) (⟨by kernel_rfl, trivial⟩) ⟨((v147 == v149) && (h_1 == 2)), rfl, h⟩
                  · replace h := h.2 hb
                    refine reg_run [] 10 [(10, [], Value.pointer r), (21, [], Value.int .i64 h_1), (145, [], Value.bool false), (146, [], undef)] (by kernel_rfl) (by kernel_rfl) ?_
                    refine reg_run [.skip, .skip, .skip, .skip, .plain, .plain, .skip, .skip, .plain, .plain] 20 [(6, [], Value.bool false)] (by kernel_rfl) (by kernel_rfl) ?_
                    refine reg_end [(6, Value.bool false)] (by kernel_rfl) (by kernel_rfl) ?_
                    change WpE _ _ c_towpathlaw12_GatePlays_106 _ _ _
                    refine wpE_ret (by kernel_rfl) ?_
                    repeat (first | refine seqQ_ret ?_ | refine blockQ_ret ?_ | refine loopQ_ret ?_ | refine cutQ_ret ?_)
                    exact retS (rs := [(Go.ResultVar.tmp 6)]) (v := Value.bool false) (by kernel_rfl) (⟨by kernel_rfl, trivial⟩) ⟨false, rfl, h⟩
                · replace h := h.2 hb
                  refine reg_run [] 3 [(8, [], Value.pointer g), (10, [], Value.pointer r), (21, [], Value.int .i64 h_1), (138, [], Value.bool false), (139, [], undef)] (by kernel_rfl) (by kernel_rfl) ?_
                  refine reg_run [.skip, .skip, .skip, .skip, .plain, .plain, .skip, .skip, .skip, .skip, .skip, .plain, .plain, .skip, .skip, .plain, .plain] 20 [(6, [], Value.bool false)] (by kernel_rfl) (by kernel_rfl) ?_
                  refine reg_end [(6, Value.bool false)] (by kernel_rfl) (by kernel_rfl) ?_
                  change WpE _ _ c_towpathlaw12_GatePlays_106 _ _ _
                  refine wpE_ret (by kernel_rfl) ?_
                  repeat (first | refine seqQ_ret ?_ | refine blockQ_ret ?_ | refine loopQ_ret ?_ | refine cutQ_ret ?_)
                  exact retS (rs := [(Go.ResultVar.tmp 6)]) (v := Value.bool false) (by kernel_rfl) (⟨by kernel_rfl, trivial⟩) ⟨false, rfl, h⟩
  · rintro e w' ⟨v, rfl, r0, rfl, h⟩; exact ⟨r0, rfl, h⟩
end Go.Proofs.YtchcljkflklddaaDoor
