/- WRITTEN BY PROGRAM (dec.py): for each Go function the clean formula F, the call's contract C, and the proof S that F gives C. -/
import Derived.Test.YtchcljkflklddaaRows
import Derived.Test.YtchcljkflklddaaGF
namespace Go.Proofs.Ytchcljkflklddaa
open Go
set_option linter.unusedVariables false

/-! ### towpath/towpathlaw12.GateAgain (function 7) -/
noncomputable def c_towpathlaw12_GateAgain_0 : Code := (Try.f7.body).getD Code.skip
noncomputable def c_towpathlaw12_GateAgain_1 : Code := Code.l c_towpathlaw12_GateAgain_0
noncomputable def r_towpathlaw12_GateAgain_1 : Array Oper := Code.ops c_towpathlaw12_GateAgain_1
noncomputable def c_towpathlaw12_GateAgain_3 : Code := Code.r c_towpathlaw12_GateAgain_0
noncomputable def c_towpathlaw12_GateAgain_4 : Code := Code.l c_towpathlaw12_GateAgain_3
noncomputable def c_towpathlaw12_GateAgain_5 : Code := Code.l c_towpathlaw12_GateAgain_4
noncomputable def r_towpathlaw12_GateAgain_5 : Array Oper := Code.ops c_towpathlaw12_GateAgain_5
noncomputable def c_towpathlaw12_GateAgain_7 : Code := Code.r c_towpathlaw12_GateAgain_4
noncomputable def c_towpathlaw12_GateAgain_8 : Code := Code.l c_towpathlaw12_GateAgain_7
noncomputable def c_towpathlaw12_GateAgain_9 : Code := Code.l c_towpathlaw12_GateAgain_8
noncomputable def r_towpathlaw12_GateAgain_9 : Array Oper := Code.ops c_towpathlaw12_GateAgain_9
noncomputable def c_towpathlaw12_GateAgain_11 : Code := Code.r c_towpathlaw12_GateAgain_8
noncomputable def c_towpathlaw12_GateAgain_12 : Code := Code.r c_towpathlaw12_GateAgain_7
noncomputable def c_towpathlaw12_GateAgain_13 : Code := Code.r c_towpathlaw12_GateAgain_3
noncomputable def c_towpathlaw12_GateAgain_14 : Code := Code.l c_towpathlaw12_GateAgain_13
noncomputable def r_towpathlaw12_GateAgain_14 : Array Oper := Code.ops c_towpathlaw12_GateAgain_14
noncomputable def c_towpathlaw12_GateAgain_16 : Code := Code.r c_towpathlaw12_GateAgain_13
noncomputable def c_towpathlaw12_GateAgain_17 : Code := Code.l c_towpathlaw12_GateAgain_16
noncomputable def r_towpathlaw12_GateAgain_17 : Array Oper := Code.ops c_towpathlaw12_GateAgain_17
noncomputable def c_towpathlaw12_GateAgain_19 : Code := Code.r c_towpathlaw12_GateAgain_16
noncomputable def c_towpathlaw12_GateAgain_20 : Code := Code.l c_towpathlaw12_GateAgain_19
noncomputable def c_towpathlaw12_GateAgain_21 : Code := Code.l c_towpathlaw12_GateAgain_20
noncomputable def r_towpathlaw12_GateAgain_21 : Array Oper := Code.ops c_towpathlaw12_GateAgain_21
noncomputable def c_towpathlaw12_GateAgain_23 : Code := Code.r c_towpathlaw12_GateAgain_20
noncomputable def c_towpathlaw12_GateAgain_24 : Code := Code.l c_towpathlaw12_GateAgain_23
noncomputable def c_towpathlaw12_GateAgain_25 : Code := Code.l c_towpathlaw12_GateAgain_24
noncomputable def c_towpathlaw12_GateAgain_26 : Code := Code.l c_towpathlaw12_GateAgain_25
noncomputable def c_towpathlaw12_GateAgain_27 : Code := Code.l c_towpathlaw12_GateAgain_26
noncomputable def r_towpathlaw12_GateAgain_27 : Array Oper := Code.ops c_towpathlaw12_GateAgain_27
noncomputable def c_towpathlaw12_GateAgain_29 : Code := Code.r c_towpathlaw12_GateAgain_26
noncomputable def c_towpathlaw12_GateAgain_30 : Code := Code.l c_towpathlaw12_GateAgain_29
noncomputable def c_towpathlaw12_GateAgain_31 : Code := Code.r c_towpathlaw12_GateAgain_29
noncomputable def c_towpathlaw12_GateAgain_32 : Code := Code.r c_towpathlaw12_GateAgain_25
noncomputable def c_towpathlaw12_GateAgain_33 : Code := Code.l c_towpathlaw12_GateAgain_32
noncomputable def c_towpathlaw12_GateAgain_34 : Code := Code.l c_towpathlaw12_GateAgain_33
noncomputable def c_towpathlaw12_GateAgain_35 : Code := Code.l c_towpathlaw12_GateAgain_34
noncomputable def r_towpathlaw12_GateAgain_35 : Array Oper := Code.ops c_towpathlaw12_GateAgain_35
noncomputable def c_towpathlaw12_GateAgain_37 : Code := Code.r c_towpathlaw12_GateAgain_34
noncomputable def r_towpathlaw12_GateAgain_37 : Array Oper := Code.ops c_towpathlaw12_GateAgain_37
noncomputable def c_towpathlaw12_GateAgain_39 : Code := Code.r c_towpathlaw12_GateAgain_32
noncomputable def r_towpathlaw12_GateAgain_39 : Array Oper := Code.ops c_towpathlaw12_GateAgain_39
noncomputable def c_towpathlaw12_GateAgain_41 : Code := Code.r c_towpathlaw12_GateAgain_19
noncomputable def c_towpathlaw12_GateAgain_42 : Code := Code.l c_towpathlaw12_GateAgain_41
noncomputable def r_towpathlaw12_GateAgain_42 : Array Oper := Code.ops c_towpathlaw12_GateAgain_42
noncomputable def c_towpathlaw12_GateAgain_44 : Code := Code.r c_towpathlaw12_GateAgain_41
noncomputable def c_towpathlaw12_GateAgain_45 : Code := Code.l c_towpathlaw12_GateAgain_44
noncomputable def c_towpathlaw12_GateAgain_46 : Code := Code.l c_towpathlaw12_GateAgain_45
noncomputable def r_towpathlaw12_GateAgain_46 : Array Oper := Code.ops c_towpathlaw12_GateAgain_46
noncomputable def c_towpathlaw12_GateAgain_48 : Code := Code.r c_towpathlaw12_GateAgain_45
noncomputable def c_towpathlaw12_GateAgain_49 : Code := Code.l c_towpathlaw12_GateAgain_48
noncomputable def c_towpathlaw12_GateAgain_50 : Code := Code.l c_towpathlaw12_GateAgain_49
noncomputable def r_towpathlaw12_GateAgain_50 : Array Oper := Code.ops c_towpathlaw12_GateAgain_50
noncomputable def c_towpathlaw12_GateAgain_52 : Code := Code.r c_towpathlaw12_GateAgain_49
noncomputable def c_towpathlaw12_GateAgain_53 : Code := Code.r c_towpathlaw12_GateAgain_48
noncomputable def c_towpathlaw12_GateAgain_54 : Code := Code.r c_towpathlaw12_GateAgain_44
noncomputable def c_towpathlaw12_GateAgain_55 : Code := Code.l c_towpathlaw12_GateAgain_54
noncomputable def c_towpathlaw12_GateAgain_56 : Code := Code.l c_towpathlaw12_GateAgain_55
noncomputable def r_towpathlaw12_GateAgain_56 : Array Oper := Code.ops c_towpathlaw12_GateAgain_56
noncomputable def c_towpathlaw12_GateAgain_58 : Code := Code.r c_towpathlaw12_GateAgain_55
noncomputable def c_towpathlaw12_GateAgain_59 : Code := Code.l c_towpathlaw12_GateAgain_58
noncomputable def c_towpathlaw12_GateAgain_60 : Code := Code.l c_towpathlaw12_GateAgain_59
noncomputable def c_towpathlaw12_GateAgain_61 : Code := Code.l c_towpathlaw12_GateAgain_60
noncomputable def c_towpathlaw12_GateAgain_62 : Code := Code.l c_towpathlaw12_GateAgain_61
noncomputable def r_towpathlaw12_GateAgain_62 : Array Oper := Code.ops c_towpathlaw12_GateAgain_62
noncomputable def c_towpathlaw12_GateAgain_64 : Code := Code.r c_towpathlaw12_GateAgain_61
noncomputable def c_towpathlaw12_GateAgain_65 : Code := Code.l c_towpathlaw12_GateAgain_64
noncomputable def c_towpathlaw12_GateAgain_66 : Code := Code.r c_towpathlaw12_GateAgain_64
noncomputable def c_towpathlaw12_GateAgain_67 : Code := Code.r c_towpathlaw12_GateAgain_60
noncomputable def c_towpathlaw12_GateAgain_68 : Code := Code.l c_towpathlaw12_GateAgain_67
noncomputable def c_towpathlaw12_GateAgain_69 : Code := Code.l c_towpathlaw12_GateAgain_68
noncomputable def c_towpathlaw12_GateAgain_70 : Code := Code.l c_towpathlaw12_GateAgain_69
noncomputable def r_towpathlaw12_GateAgain_70 : Array Oper := Code.ops c_towpathlaw12_GateAgain_70
noncomputable def c_towpathlaw12_GateAgain_72 : Code := Code.r c_towpathlaw12_GateAgain_69
noncomputable def c_towpathlaw12_GateAgain_73 : Code := Code.l c_towpathlaw12_GateAgain_72
noncomputable def r_towpathlaw12_GateAgain_73 : Array Oper := Code.ops c_towpathlaw12_GateAgain_73
noncomputable def c_towpathlaw12_GateAgain_75 : Code := Code.r c_towpathlaw12_GateAgain_72
noncomputable def c_towpathlaw12_GateAgain_76 : Code := Code.l c_towpathlaw12_GateAgain_75
noncomputable def r_towpathlaw12_GateAgain_76 : Array Oper := Code.ops c_towpathlaw12_GateAgain_76
noncomputable def c_towpathlaw12_GateAgain_78 : Code := Code.r c_towpathlaw12_GateAgain_75
noncomputable def c_towpathlaw12_GateAgain_79 : Code := Code.l c_towpathlaw12_GateAgain_78
noncomputable def r_towpathlaw12_GateAgain_79 : Array Oper := Code.ops c_towpathlaw12_GateAgain_79
noncomputable def c_towpathlaw12_GateAgain_81 : Code := Code.r c_towpathlaw12_GateAgain_78
noncomputable def c_towpathlaw12_GateAgain_82 : Code := Code.l c_towpathlaw12_GateAgain_81
noncomputable def r_towpathlaw12_GateAgain_82 : Array Oper := Code.ops c_towpathlaw12_GateAgain_82
noncomputable def c_towpathlaw12_GateAgain_84 : Code := Code.r c_towpathlaw12_GateAgain_81
noncomputable def c_towpathlaw12_GateAgain_85 : Code := Code.l c_towpathlaw12_GateAgain_84
noncomputable def c_towpathlaw12_GateAgain_86 : Code := Code.l c_towpathlaw12_GateAgain_85
noncomputable def r_towpathlaw12_GateAgain_86 : Array Oper := Code.ops c_towpathlaw12_GateAgain_86
noncomputable def c_towpathlaw12_GateAgain_88 : Code := Code.r c_towpathlaw12_GateAgain_85
noncomputable def c_towpathlaw12_GateAgain_89 : Code := Code.r c_towpathlaw12_GateAgain_84
noncomputable def c_towpathlaw12_GateAgain_90 : Code := Code.r c_towpathlaw12_GateAgain_67
noncomputable def r_towpathlaw12_GateAgain_90 : Array Oper := Code.ops c_towpathlaw12_GateAgain_90
noncomputable def c_towpathlaw12_GateAgain_92 : Code := Code.r c_towpathlaw12_GateAgain_54
noncomputable def c_towpathlaw12_GateAgain_93 : Code := Code.l c_towpathlaw12_GateAgain_92
noncomputable def r_towpathlaw12_GateAgain_93 : Array Oper := Code.ops c_towpathlaw12_GateAgain_93
noncomputable def c_towpathlaw12_GateAgain_95 : Code := Code.r c_towpathlaw12_GateAgain_92
def o_towpathlaw12_GateAgain_73 : List Nat := [0, 2, 3, 4, 5, 6, 7, 1, 8, 9]

set_option maxRecDepth 100000 in
set_option maxHeartbeats 4000000 in
theorem S_towpathlaw12_GateAgain {mark : Int} {beyond : Slc} {numbers : Slc} {w : World} {R : Bool → World → Prop} (h : F_towpathlaw12_GateAgain mark beyond numbers R w) : C_towpathlaw12_GateAgain mark beyond numbers w R := by
  unfold F_towpathlaw12_GateAgain at h
  unfold C_towpathlaw12_GateAgain
  refine Calls.mono (calls_of_wpE (args := [Value.int .u16 mark, Value.slice beyond.ptr beyond.len beyond.cap, Value.slice numbers.ptr numbers.len numbers.cap]) (R := fun v w' => ∃ (r0 : Bool), v = Value.bool r0 ∧ R r0 w') Try.func7 (c := c_towpathlaw12_GateAgain_0) (by kernel_rfl) 138 (by kernel_rfl) (by kernel_rfl) [(0, Value.int .u16 mark), (1, Value.slice beyond.ptr beyond.len beyond.cap), (2, Value.slice numbers.ptr numbers.len numbers.cap)] (by kernel_rfl) ?_) ?_
  · refine wpE_seq (x := c_towpathlaw12_GateAgain_1) (y := c_towpathlaw12_GateAgain_3) (by kernel_rfl) ?_
    refine wpE_region (id := 0) (ops := r_towpathlaw12_GateAgain_1) (by kernel_rfl) ?_
    refine reg_run [.plain] 1 [(0, [], Value.int .u16 mark), (1, [], Value.slice beyond.ptr beyond.len beyond.cap), (2, [], Value.slice numbers.ptr numbers.len numbers.cap)] (by kernel_rfl) (by kernel_rfl) ?_
    refine reg_end [(0, Value.int .u16 mark), (1, Value.slice beyond.ptr beyond.len beyond.cap), (2, Value.slice numbers.ptr numbers.len numbers.cap)] (by kernel_rfl) (by kernel_rfl) ?_
    change WpE _ _ c_towpathlaw12_GateAgain_3 _ _ _
    refine wpE_seq (x := c_towpathlaw12_GateAgain_4) (y := c_towpathlaw12_GateAgain_13) (by kernel_rfl) ?_
    refine wpE_seq (x := c_towpathlaw12_GateAgain_5) (y := c_towpathlaw12_GateAgain_7) (by kernel_rfl) ?_
    refine wpE_region (id := 1) (ops := r_towpathlaw12_GateAgain_5) (by kernel_rfl) ?_
    refine reg_run [] 0 [(0, [], Value.int .u16 mark), (1, [], Value.slice beyond.ptr beyond.len beyond.cap), (2, [], Value.slice numbers.ptr numbers.len numbers.cap)] (by kernel_rfl) (by kernel_rfl) ?_
    refine reg_enter (op := (Go.Op.call (Go.Call.mk (Go.Callee.value (Go.Operand.func 29)) #[] #[]))) (ty := 4) (dst := some 20) 29 #[] (by kernel_rfl) (fun ww => by kernel_rfl) (Calls.mono h ?_)
    rintro _ w1 ⟨v20, rfl, h⟩
    refine ⟨_, rfl, ?_⟩
    refine reg_run [.plain, .plain, .plain, .plain, .plain, .pick, .plain, .plain, .plain, .plain, .pick] 12 [(0, [], Value.int .u16 mark), (1, [], Value.slice beyond.ptr beyond.len beyond.cap), (2, [], Value.slice numbers.ptr numbers.len numbers.cap), (31, [], Value.bool (((!v20) || (decide (((beyond.len : Nat) : Int) > 60))) || (decide (((numbers.len : Nat) : Int) > 300))))] (by kernel_rfl) (by kernel_rfl) ?_
    refine reg_end [(0, Value.int .u16 mark), (1, Value.slice beyond.ptr beyond.len beyond.cap), (2, Value.slice numbers.ptr numbers.len numbers.cap), (31, Value.bool (((!v20) || (decide (((beyond.len : Nat) : Int) > 60))) || (decide (((numbers.len : Nat) : Int) > 300))))] (by kernel_rfl) (by kernel_rfl) ?_
    change WpE _ _ c_towpathlaw12_GateAgain_7 _ _ _
    refine wpE_cond (o := (Operand.tmp 31)) (b := (((!v20) || (decide (((beyond.len : Nat) : Int) > 60))) || (decide (((numbers.len : Nat) : Int) > 300)))) (x := c_towpathlaw12_GateAgain_8) (y := c_towpathlaw12_GateAgain_12) (by kernel_rfl) (by kernel_rfl) (fun hb => ?_) (fun hb => ?_)
    · replace h := h.1 hb
      refine wpE_seq (x := c_towpathlaw12_GateAgain_9) (y := c_towpathlaw12_GateAgain_11) (by kernel_rfl) ?_
      refine wpE_region (id := 2) (ops := r_towpathlaw12_GateAgain_9) (by kernel_rfl) ?_
      refine reg_run [] 0 [] (by kernel_rfl) (by kernel_rfl) ?_
      refine reg_enter (op := (Go.Op.call (Go.Call.mk (Go.Callee.value (Go.Operand.func 29)) #[] #[]))) (ty := 4) (dst := some 32) 29 #[] (by kernel_rfl) (fun ww => by kernel_rfl) (Calls.mono h ?_)
      rintro _ w2 ⟨v32, rfl, h⟩
      refine ⟨_, rfl, ?_⟩
      refine reg_run [.plain] 2 [(6, [], Value.bool v32)] (by kernel_rfl) (by kernel_rfl) ?_
      refine reg_end [(6, Value.bool v32)] (by kernel_rfl) (by kernel_rfl) ?_
      change WpE _ _ c_towpathlaw12_GateAgain_11 _ _ _
      refine wpE_ret (by kernel_rfl) ?_
      repeat (first | refine seqQ_ret ?_ | refine blockQ_ret ?_ | refine loopQ_ret ?_ | refine cutQ_ret ?_)
      exact retS (rs := [(Go.ResultVar.tmp 6)]) (v := Value.bool v32) (by kernel_rfl) (⟨by kernel_rfl, trivial⟩) ⟨v32, rfl, h⟩
    · replace h := h.2 hb
      refine wpE_skip (by kernel_rfl) ?_
      change WpE _ _ c_towpathlaw12_GateAgain_13 _ _ _
      refine wpE_seq (x := c_towpathlaw12_GateAgain_14) (y := c_towpathlaw12_GateAgain_16) (by kernel_rfl) ?_
      refine wpE_region (id := 3) (ops := r_towpathlaw12_GateAgain_14) (by kernel_rfl) ?_
      refine reg_run [.plain] 1 [(0, [], Value.int .u16 mark), (1, [], Value.slice beyond.ptr beyond.len beyond.cap), (2, [], Value.slice numbers.ptr numbers.len numbers.cap), (7, [], Value.slice none 0 0)] (by kernel_rfl) (by kernel_rfl) ?_
      refine reg_end [(0, Value.int .u16 mark), (1, Value.slice beyond.ptr beyond.len beyond.cap), (2, Value.slice numbers.ptr numbers.len numbers.cap), (7, Value.slice none 0 0)] (by kernel_rfl) (by kernel_rfl) ?_
      change WpE _ _ c_towpathlaw12_GateAgain_16 _ _ _
      refine wpE_seq (x := c_towpathlaw12_GateAgain_17) (y := c_towpathlaw12_GateAgain_19) (by kernel_rfl) ?_
      refine wpE_region (id := 4) (ops := r_towpathlaw12_GateAgain_17) (by kernel_rfl) ?_
      refine reg_run [.plain, .plain, .plain, .plain] 4 [(0, [], Value.int .u16 mark), (1, [], Value.slice beyond.ptr beyond.len beyond.cap), (2, [], Value.slice numbers.ptr numbers.len numbers.cap), (7, [], Value.slice none 0 0), (8, [], Value.int .i64 (IntKind.i64.wrap ((IntKind.i64.wrap mark) + 1)))] (by kernel_rfl) (by kernel_rfl) ?_
      refine reg_end [(0, Value.int .u16 mark), (1, Value.slice beyond.ptr beyond.len beyond.cap), (2, Value.slice numbers.ptr numbers.len numbers.cap), (7, Value.slice none 0 0), (8, Value.int .i64 (IntKind.i64.wrap ((IntKind.i64.wrap mark) + 1)))] (by kernel_rfl) (by kernel_rfl) ?_
      change WpE _ _ c_towpathlaw12_GateAgain_19 _ _ _
      refine wpE_seq (x := c_towpathlaw12_GateAgain_20) (y := c_towpathlaw12_GateAgain_41) (by kernel_rfl) ?_
      refine wpE_seq (x := c_towpathlaw12_GateAgain_21) (y := c_towpathlaw12_GateAgain_23) (by kernel_rfl) ?_
      refine wpE_region (id := 5) (ops := r_towpathlaw12_GateAgain_21) (by kernel_rfl) ?_
      refine reg_run [.plain] 1 [(0, [], Value.int .u16 mark), (1, [], Value.slice beyond.ptr beyond.len beyond.cap), (2, [], Value.slice numbers.ptr numbers.len numbers.cap), (7, [], Value.slice none 0 0), (8, [], Value.int .i64 (IntKind.i64.wrap ((IntKind.i64.wrap mark) + 1))), (9, [], Value.int .i64 0)] (by kernel_rfl) (by kernel_rfl) ?_
      refine reg_end [(0, Value.int .u16 mark), (1, Value.slice beyond.ptr beyond.len beyond.cap), (2, Value.slice numbers.ptr numbers.len numbers.cap), (7, Value.slice none 0 0), (8, Value.int .i64 (IntKind.i64.wrap ((IntKind.i64.wrap mark) + 1))), (9, Value.int .i64 0)] (by kernel_rfl) (by kernel_rfl) ?_
      change WpE _ _ c_towpathlaw12_GateAgain_23 _ _ _
      refine wpE_block (id := 0) (x := c_towpathlaw12_GateAgain_24) (by kernel_rfl) ?_
      obtain ⟨I, μ, h0, hr⟩ := h
      refine wpE_loop (x := c_towpathlaw12_GateAgain_25) (by kernel_rfl) (fun m l w => ∃ (l_ : Slc) (last : Int) (i : Int), l = [(0, Value.int .u16 mark), (1, Value.slice beyond.ptr beyond.len beyond.cap), (2, Value.slice numbers.ptr numbers.len numbers.cap), (7, Value.slice l_.ptr l_.len l_.cap), (8, Value.int .i64 last), (9, Value.int .i64 i)] ∧ I l_ last i w ∧ μ l_ last i w = m) (l' := [(0, Value.int .u16 mark), (1, Value.slice beyond.ptr beyond.len beyond.cap), (2, Value.slice numbers.ptr numbers.len numbers.cap), (7, Value.slice none 0 0), (8, Value.int .i64 (IntKind.i64.wrap ((IntKind.i64.wrap mark) + 1))), (9, Value.int .i64 0)]) (Sub.mk (by kernel_rfl)) ⟨(Slc.mk none 0 0), (IntKind.i64.wrap ((IntKind.i64.wrap mark) + 1)), 0, rfl, h0, rfl⟩ ?_
      rintro _ _ w3 ⟨l_, last, i, rfl, hI, rfl⟩
      obtain ⟨again_, again__h, h⟩ : ∃ again_ : Slc → Int → Int → World → Prop, (∀ l_' last' i' w', again_ l_' last' i' w' → I l_' last' i' w' ∧ μ l_' last' i' w' < μ l_ last i w3) ∧ F_towpathlaw12_GateAgain_L0 mark beyond numbers R again_ l_ last i w3 := ⟨_, fun _ _ _ _ h => h, hr l_ last i w3 hI⟩
      clear h0 hI
      unfold F_towpathlaw12_GateAgain_L0 at h
      refine wpE_seq (x := c_towpathlaw12_GateAgain_26) (y := c_towpathlaw12_GateAgain_32) (by kernel_rfl) ?_
      refine wpE_seq (x := c_towpathlaw12_GateAgain_27) (y := c_towpathlaw12_GateAgain_29) (by kernel_rfl) ?_
      refine wpE_region (id := 6) (ops := r_towpathlaw12_GateAgain_27) (by kernel_rfl) ?_
      refine reg_run [.plain, .plain, .plain, .plain] 4 [(0, [], Value.int .u16 mark), (1, [], Value.slice beyond.ptr beyond.len beyond.cap), (2, [], Value.slice numbers.ptr numbers.len numbers.cap), (7, [], Value.slice l_.ptr l_.len l_.cap), (8, [], Value.int .i64 last), (9, [], Value.int .i64 i), (39, [], Value.bool (decide (i < ((beyond.len : Nat) : Int))))] (by kernel_rfl) (by kernel_rfl) ?_
      refine reg_end [(0, Value.int .u16 mark), (1, Value.slice beyond.ptr beyond.len beyond.cap), (2, Value.slice numbers.ptr numbers.len numbers.cap), (7, Value.slice l_.ptr l_.len l_.cap), (8, Value.int .i64 last), (9, Value.int .i64 i), (39, Value.bool (decide (i < ((beyond.len : Nat) : Int))))] (by kernel_rfl) (by kernel_rfl) ?_
      change WpE _ _ c_towpathlaw12_GateAgain_29 _ _ _
      refine wpE_cond (o := (Operand.tmp 39)) (b := (decide (i < ((beyond.len : Nat) : Int)))) (x := c_towpathlaw12_GateAgain_30) (y := c_towpathlaw12_GateAgain_31) (by kernel_rfl) (by kernel_rfl) (fun hb => ?_) (fun hb => ?_)
      · replace h := h.1 hb
        refine wpE_skip (by kernel_rfl) ?_
        change WpE _ _ c_towpathlaw12_GateAgain_32 _ _ _
        refine wpE_seq (x := c_towpathlaw12_GateAgain_33) (y := c_towpathlaw12_GateAgain_39) (by kernel_rfl) ?_
        refine wpE_block (id := 1) (x := c_towpathlaw12_GateAgain_34) (by kernel_rfl) ?_
        refine wpE_seq (x := c_towpathlaw12_GateAgain_35) (y := c_towpathlaw12_GateAgain_37) (by kernel_rfl) ?_
        refine wpE_region (id := 8) (ops := r_towpathlaw12_GateAgain_35) (by kernel_rfl) ?_
        refine reg_run [.plain, .plain, .plain, .plain] 4 [(0, [], Value.int .u16 mark), (1, [], Value.slice beyond.ptr beyond.len beyond.cap), (2, [], Value.slice numbers.ptr numbers.len numbers.cap), (7, [], Value.slice l_.ptr l_.len l_.cap), (8, [], Value.int .i64 last), (9, [], Value.int .i64 i), (43, [], Value.int .i64 (IntKind.i64.wrap (last + 1))), (44, [], Value.slice beyond.ptr beyond.len beyond.cap), (45, [], Value.int .i64 i)] (by kernel_rfl) (by kernel_rfl) ?_
        obtain ⟨hp_7, h⟩ := h
        refine reg_conv [(0, [], Value.int .u16 mark), (1, [], Value.slice beyond.ptr beyond.len beyond.cap), (2, [], Value.slice numbers.ptr numbers.len numbers.cap), (7, [], Value.slice l_.ptr l_.len l_.cap), (8, [], Value.int .i64 last), (9, [], Value.int .i64 i), (43, [], Value.int .i64 (IntKind.i64.wrap (last + 1))), (44, [], Value.slice (some ⟨(pblk beyond.ptr), (poff beyond.ptr), none⟩) beyond.len beyond.cap), (45, [], Value.int .i64 i)] (congrArg (fun pp => ([(0, [], Value.int .u16 mark), (1, [], Value.slice beyond.ptr beyond.len beyond.cap), (2, [], Value.slice numbers.ptr numbers.len numbers.cap), (7, [], Value.slice l_.ptr l_.len l_.cap), (8, [], Value.int .i64 last), (9, [], Value.int .i64 i), (43, [], Value.int .i64 (IntKind.i64.wrap (last + 1))), (44, [], Value.slice pp beyond.len beyond.cap), (45, [], Value.int .i64 i)] : GEnv)) hp_7) ?_
        obtain ⟨h0, h1, h⟩ := h
        refine reg_indexS1 (t := 34) (e := 5) (x := (Go.Operand.tmp 44)) (ix := (Go.Operand.tmp 45)) (b := (pblk beyond.ptr)) (o := (poff beyond.ptr)) (l := beyond.len) (c := beyond.cap) (k := .i64) (j := i) (ty := 0) (dst := some 46) (by kernel_rfl) (by kernel_rfl) (by kernel_rfl) (by kernel_rfl) (by kernel_rfl) h0 h1 ?_
        refine reg_run [] 5 [(0, [], Value.int .u16 mark), (1, [], Value.slice beyond.ptr beyond.len beyond.cap), (2, [], Value.slice numbers.ptr numbers.len numbers.cap), (7, [], Value.slice l_.ptr l_.len l_.cap), (8, [], Value.int .i64 last), (9, [], Value.int .i64 i), (43, [], Value.int .i64 (IntKind.i64.wrap (last + 1))), (46, [], Value.pointer (some ⟨(pblk beyond.ptr), (poff beyond.ptr) + i.toNat, none⟩))] (by kernel_rfl) (by kernel_rfl) ?_
        obtain ⟨v47, hc, h⟩ := h
        refine reg_load1 (t := 5) (a := (Go.Operand.tmp 46)) (b := (pblk beyond.ptr)) (o := ((poff beyond.ptr) + i.toNat)) (ty := 5) (dst := some 47) (by kernel_rfl) (by kernel_rfl) (by kernel_rfl) hc ?_
        refine reg_run [.plain, .plain, .plain, .plain] 10 [(0, [], Value.int .u16 mark), (1, [], Value.slice beyond.ptr beyond.len beyond.cap), (2, [], Value.slice numbers.ptr numbers.len numbers.cap), (7, [], Value.slice l_.ptr l_.len l_.cap), (8, [], Value.int .i64 (IntKind.i64.wrap ((IntKind.i64.wrap (last + 1)) + (IntKind.i64.wrap (Int.tmod v47 4))))), (9, [], Value.int .i64 i)] (by kernel_rfl) (by kernel_rfl) ?_
        refine reg_end [(0, Value.int .u16 mark), (1, Value.slice beyond.ptr beyond.len beyond.cap), (2, Value.slice numbers.ptr numbers.len numbers.cap), (7, Value.slice l_.ptr l_.len l_.cap), (8, Value.int .i64 (IntKind.i64.wrap ((IntKind.i64.wrap (last + 1)) + (IntKind.i64.wrap (Int.tmod v47 4))))), (9, Value.int .i64 i)] (by kernel_rfl) (by kernel_rfl) ?_
        change WpE _ _ c_towpathlaw12_GateAgain_37 _ _ _
        refine wpE_region (id := 9) (ops := r_towpathlaw12_GateAgain_37) (by kernel_rfl) ?_
        refine reg_run [.plain, .plain] 2 [(0, [], Value.int .u16 mark), (1, [], Value.slice beyond.ptr beyond.len beyond.cap), (2, [], Value.slice numbers.ptr numbers.len numbers.cap), (7, [], Value.slice l_.ptr l_.len l_.cap), (8, [], Value.int .i64 (IntKind.i64.wrap ((IntKind.i64.wrap (last + 1)) + (IntKind.i64.wrap (Int.tmod v47 4))))), (9, [], Value.int .i64 i), (51, [], Value.slice l_.ptr l_.len l_.cap), (52, [], Value.int .i64 (IntKind.i64.wrap ((IntKind.i64.wrap (last + 1)) + (IntKind.i64.wrap (Int.tmod v47 4)))))] (by kernel_rfl) (by kernel_rfl) ?_
        refine reg_new (op := (Go.Op.buildSlice 49 1 #[(0, (Go.Operand.tmp 52))])) (ty := 49) (dst := some 53) (fun bb => Value.slice (some ⟨bb, 0, none⟩) 1 1) (Obj.cells ([Value.int .i64 (IntKind.i64.wrap ((IntKind.i64.wrap (last + 1)) + (IntKind.i64.wrap (Int.tmod v47 4))))]).toArray ty_int (0, 0)) (by kernel_rfl) (by kernel_rfl) (fun b_ w4 hb hw => ?_)
        replace h := h b_ w4 hb hw
        clear hb hw
        refine reg_run [] 3 [(0, [], Value.int .u16 mark), (1, [], Value.slice beyond.ptr beyond.len beyond.cap), (2, [], Value.slice numbers.ptr numbers.len numbers.cap), (7, [], Value.slice l_.ptr l_.len l_.cap), (8, [], Value.int .i64 (IntKind.i64.wrap ((IntKind.i64.wrap (last + 1)) + (IntKind.i64.wrap (Int.tmod v47 4))))), (9, [], Value.int .i64 i), (51, [], Value.slice l_.ptr l_.len l_.cap), (53, [], Value.slice (some ⟨b_, 0, none⟩) 1 1)] (by kernel_rfl) (by kernel_rfl) ?_
        obtain ⟨src, hs, h⟩ := h
        refine reg_append (t := 49) (tx := 49) (e := 3) (a := (Go.Operand.tmp 51)) (xo := (Go.Operand.tmp 53)) (s := l_) (x := (Slc.mk (some ⟨b_, 0, none⟩) 1 1)) (sz := 1) (by_ := 8) (zs := [Value.int .i64 0]) (ty := 49) (dst := some 54)  src (by kernel_rfl) (by kernel_rfl) (by kernel_rfl) (by kernel_rfl) (by kernel_rfl) (by kernel_rfl) (by kernel_rfl) (by kernel_rfl) (by kernel_rfl) hs (AppendW.mono h (fun l_1 w5 h => ?_))
        refine reg_run [.plain] 5 [(0, [], Value.int .u16 mark), (1, [], Value.slice beyond.ptr beyond.len beyond.cap), (2, [], Value.slice numbers.ptr numbers.len numbers.cap), (7, [], Value.slice l_1.ptr l_1.len l_1.cap), (8, [], Value.int .i64 (IntKind.i64.wrap ((IntKind.i64.wrap (last + 1)) + (IntKind.i64.wrap (Int.tmod v47 4))))), (9, [], Value.int .i64 i)] (by kernel_rfl) (by kernel_rfl) ?_
        refine reg_end [(0, Value.int .u16 mark), (1, Value.slice beyond.ptr beyond.len beyond.cap), (2, Value.slice numbers.ptr numbers.len numbers.cap), (7, Value.slice l_1.ptr l_1.len l_1.cap), (8, Value.int .i64 (IntKind.i64.wrap ((IntKind.i64.wrap (last + 1)) + (IntKind.i64.wrap (Int.tmod v47 4))))), (9, Value.int .i64 i)] (by kernel_rfl) (by kernel_rfl) ?_
        change WpE _ _ c_towpathlaw12_GateAgain_39 _ _ _
        refine wpE_region (id := 7) (ops := r_towpathlaw12_GateAgain_39) (by kernel_rfl) ?_
        refine reg_run [.plain, .plain, .plain] 3 [(0, [], Value.int .u16 mark), (1, [], Value.slice beyond.ptr beyond.len beyond.cap), (2, [], Value.slice numbers.ptr numbers.len numbers.cap), (7, [], Value.slice l_1.ptr l_1.len l_1.cap), (8, [], Value.int .i64 (IntKind.i64.wrap ((IntKind.i64.wrap (last + 1)) + (IntKind.i64.wrap (Int.tmod v47 4))))), (9, [], Value.int .i64 (IntKind.i64.wrap (i + 1)))] (by kernel_rfl) (by kernel_rfl) ?_
        refine reg_end [(0, Value.int .u16 mark), (1, Value.slice beyond.ptr beyond.len beyond.cap), (2, Value.slice numbers.ptr numbers.len numbers.cap), (7, Value.slice l_1.ptr l_1.len l_1.cap), (8, Value.int .i64 (IntKind.i64.wrap ((IntKind.i64.wrap (last + 1)) + (IntKind.i64.wrap (Int.tmod v47 4))))), (9, Value.int .i64 (IntKind.i64.wrap (i + 1)))] (by kernel_rfl) (by kernel_rfl) ?_
        have hb_ := again__h _ _ _ _ h
        exact ⟨_, hb_.2, [(0, Value.int .u16 mark), (1, Value.slice beyond.ptr beyond.len beyond.cap), (2, Value.slice numbers.ptr numbers.len numbers.cap), (7, Value.slice l_1.ptr l_1.len l_1.cap), (8, Value.int .i64 (IntKind.i64.wrap ((IntKind.i64.wrap (last + 1)) + (IntKind.i64.wrap (Int.tmod v47 4))))), (9, Value.int .i64 (IntKind.i64.wrap (i + 1)))], Sub.mk (by kernel_rfl), l_1, (IntKind.i64.wrap ((IntKind.i64.wrap (last + 1)) + (IntKind.i64.wrap (Int.tmod v47 4)))), (IntKind.i64.wrap (i + 1)), rfl, hb_.1, rfl⟩
      · replace h := h.2 hb
        refine wpE_exit (id := 0) (by kernel_rfl) ?_
        change WpE _ _ c_towpathlaw12_GateAgain_41 _ _ _
        refine wpE_seq (x := c_towpathlaw12_GateAgain_42) (y := c_towpathlaw12_GateAgain_44) (by kernel_rfl) ?_
        refine wpE_region (id := 10) (ops := r_towpathlaw12_GateAgain_42) (by kernel_rfl) ?_
        refine reg_run [.plain, .plain, .plain] 3 [(2, [], Value.slice numbers.ptr numbers.len numbers.cap), (8, [], Value.int .i64 last), (57, [], Value.int .i64 (IntKind.i64.wrap mark)), (58, [], Value.slice l_.ptr l_.len l_.cap)] (by kernel_rfl) (by kernel_rfl) ?_
        refine reg_enter (op := (Go.Op.call (Go.Call.mk (Go.Callee.value (Go.Operand.func 30)) #[(Go.Operand.tmp 57), (Go.Operand.tmp 58)] #[3, 49]))) (ty := 45) (dst := some 59) 30 #[Value.int .i64 (IntKind.i64.wrap mark), Value.slice l_.ptr l_.len l_.cap] (by kernel_rfl) (fun ww => by kernel_rfl) (Calls.mono h ?_)
        rintro _ w6 ⟨g, e, rfl, h⟩
        refine ⟨_, rfl, ?_⟩
        refine reg_run [.plain, .plain, .plain, .plain, .plain] 9 [(2, [], Value.slice numbers.ptr numbers.len numbers.cap), (8, [], Value.int .i64 last), (10, [], Value.pointer g), (11, [], Value.int .i64 e)] (by kernel_rfl) (by kernel_rfl) ?_
        refine reg_end [(2, Value.slice numbers.ptr numbers.len numbers.cap), (8, Value.int .i64 last), (10, Value.pointer g), (11, Value.int .i64 e)] (by kernel_rfl) (by kernel_rfl) ?_
        change WpE _ _ c_towpathlaw12_GateAgain_44 _ _ _
        refine wpE_seq (x := c_towpathlaw12_GateAgain_45) (y := c_towpathlaw12_GateAgain_54) (by kernel_rfl) ?_
        refine wpE_seq (x := c_towpathlaw12_GateAgain_46) (y := c_towpathlaw12_GateAgain_48) (by kernel_rfl) ?_
        refine wpE_region (id := 11) (ops := r_towpathlaw12_GateAgain_46) (by kernel_rfl) ?_
        refine reg_run [.plain, .plain] 2 [(2, [], Value.slice numbers.ptr numbers.len numbers.cap), (8, [], Value.int .i64 last), (10, [], Value.pointer g), (63, [], Value.bool (e != 0))] (by kernel_rfl) (by kernel_rfl) ?_
        refine reg_end [(2, Value.slice numbers.ptr numbers.len numbers.cap), (8, Value.int .i64 last), (10, Value.pointer g), (63, Value.bool (e != 0))] (by kernel_rfl) (by kernel_rfl) ?_
        change WpE _ _ c_towpathlaw12_GateAgain_48 _ _ _
        refine wpE_cond (o := (Operand.tmp 63)) (b := (e != 0)) (x := c_towpathlaw12_GateAgain_49) (y := c_towpathlaw12_GateAgain_53) (by kernel_rfl) (by kernel_rfl) (fun hb => ?_) (fun hb => ?_)
        · replace h := h.1 hb
          refine wpE_seq (x := c_towpathlaw12_GateAgain_50) (y := c_towpathlaw12_GateAgain_52) (by kernel_rfl) ?_
          refine wpE_region (id := 12) (ops := r_towpathlaw12_GateAgain_50) (by kernel_rfl) ?_
          refine reg_run [.plain, .plain, .plain] 3 [(6, [], Value.bool (decide (last > 65536)))] (by kernel_rfl) (by kernel_rfl) ?_
          refine reg_end [(6, Value.bool (decide (last > 65536)))] (by kernel_rfl) (by kernel_rfl) ?_
          change WpE _ _ c_towpathlaw12_GateAgain_52 _ _ _
          refine wpE_ret (by kernel_rfl) ?_
          repeat (first | refine seqQ_ret ?_ | refine blockQ_ret ?_ | refine loopQ_ret ?_ | refine cutQ_ret ?_)
          exact retS (rs := [(Go.ResultVar.tmp 6)]) (v := Value.bool (decide (last > 65536))) (by kernel_rfl) (⟨by kernel_rfl, trivial⟩) ⟨(decide (last > 65536)), rfl, h⟩
        · replace h := h.2 hb
          refine wpE_skip (by kernel_rfl) ?_
          change WpE _ _ c_towpathlaw12_GateAgain_54 _ _ _
          refine wpE_seq (x := c_towpathlaw12_GateAgain_55) (y := c_towpathlaw12_GateAgain_92) (by kernel_rfl) ?_
          refine wpE_seq (x := c_towpathlaw12_GateAgain_56) (y := c_towpathlaw12_GateAgain_58) (by kernel_rfl) ?_
          refine wpE_region (id := 13) (ops := r_towpathlaw12_GateAgain_56) (by kernel_rfl) ?_
          refine reg_run [.plain] 1 [(2, [], Value.slice numbers.ptr numbers.len numbers.cap), (10, [], Value.pointer g), (12, [], Value.int .i64 0)] (by kernel_rfl) (by kernel_rfl) ?_
          refine reg_end [(2, Value.slice numbers.ptr numbers.len numbers.cap), (10, Value.pointer g), (12, Value.int .i64 0)] (by kernel_rfl) (by kernel_rfl) ?_
          change WpE _ _ c_towpathlaw12_GateAgain_58 _ _ _
          refine wpE_block (id := 2) (x := c_towpathlaw12_GateAgain_59) (by kernel_rfl) ?_
          obtain ⟨I, μ, h0, hr⟩ := h
          refine wpE_loop (x := c_towpathlaw12_GateAgain_60) (by kernel_rfl) (fun m l w => ∃ (i1 : Int), l = [(2, Value.slice numbers.ptr numbers.len numbers.cap), (10, Value.pointer g), (12, Value.int .i64 i1)] ∧ I i1 w ∧ μ i1 w = m) (l' := [(2, Value.slice numbers.ptr numbers.len numbers.cap), (10, Value.pointer g), (12, Value.int .i64 0)]) (Sub.mk (by kernel_rfl)) ⟨0, rfl, h0, rfl⟩ ?_
          rintro _ _ w7 ⟨i1, rfl, hI, rfl⟩
          obtain ⟨again_1, again_1_h, h⟩ : ∃ again_1 : Int → World → Prop, (∀ i1' w', again_1 i1' w' → I i1' w' ∧ μ i1' w' < μ i1 w7) ∧ F_towpathlaw12_GateAgain_L1 numbers R g again_1 i1 w7 := ⟨_, fun _ _ h => h, hr i1 w7 hI⟩
          clear h0 hI
          unfold F_towpathlaw12_GateAgain_L1 at h
          refine wpE_seq (x := c_towpathlaw12_GateAgain_61) (y := c_towpathlaw12_GateAgain_67) (by kernel_rfl) ?_
          refine wpE_seq (x := c_towpathlaw12_GateAgain_62) (y := c_towpathlaw12_GateAgain_64) (by kernel_rfl) ?_
          refine wpE_region (id := 14) (ops := r_towpathlaw12_GateAgain_62) (by kernel_rfl) ?_
          refine reg_run [.plain, .plain, .plain, .plain] 4 [(2, [], Value.slice numbers.ptr numbers.len numbers.cap), (10, [], Value.pointer g), (12, [], Value.int .i64 i1), (69, [], Value.bool (decide (i1 < ((numbers.len : Nat) : Int))))] (by kernel_rfl) (by kernel_rfl) ?_
          refine reg_end [(2, Value.slice numbers.ptr numbers.len numbers.cap), (10, Value.pointer g), (12, Value.int .i64 i1), (69, Value.bool (decide (i1 < ((numbers.len : Nat) : Int))))] (by kernel_rfl) (by kernel_rfl) ?_
          change WpE _ _ c_towpathlaw12_GateAgain_64 _ _ _
          refine wpE_cond (o := (Operand.tmp 69)) (b := (decide (i1 < ((numbers.len : Nat) : Int)))) (x := c_towpathlaw12_GateAgain_65) (y := c_towpathlaw12_GateAgain_66) (by kernel_rfl) (by kernel_rfl) (fun hb => ?_) (fun hb => ?_)
          · replace h := h.1 hb
            refine wpE_skip (by kernel_rfl) ?_
            change WpE _ _ c_towpathlaw12_GateAgain_67 _ _ _
            refine wpE_seq (x := c_towpathlaw12_GateAgain_68) (y := c_towpathlaw12_GateAgain_90) (by kernel_rfl) ?_
            refine wpE_block (id := 3) (x := c_towpathlaw12_GateAgain_69) (by kernel_rfl) ?_
            refine wpE_seq (x := c_towpathlaw12_GateAgain_70) (y := c_towpathlaw12_GateAgain_72) (by kernel_rfl) ?_
            refine wpE_region (id := 16) (ops := r_towpathlaw12_GateAgain_70) (by kernel_rfl) ?_
            refine reg_run [.plain] 1 [(2, [], Value.slice numbers.ptr numbers.len numbers.cap), (10, [], Value.pointer g), (12, [], Value.int .i64 i1), (73, [], Value.pointer g)] (by kernel_rfl) (by kernel_rfl) ?_
            refine reg_enter (op := (Go.Op.call (Go.Call.mk (Go.Callee.value (Go.Operand.func 31)) #[(Go.Operand.tmp 73)] #[44]))) (ty := 3) (dst := some 74) 31 #[Value.pointer g] (by kernel_rfl) (fun ww => by kernel_rfl) (Calls.mono h ?_)
            rintro _ w8 ⟨v74, rfl, h⟩
            refine ⟨_, rfl, ?_⟩
            refine reg_run [.plain] 3 [(2, [], Value.slice numbers.ptr numbers.len numbers.cap), (10, [], Value.pointer g), (12, [], Value.int .i64 i1), (74, [], Value.int .i64 v74), (75, [], Value.pointer g)] (by kernel_rfl) (by kernel_rfl) ?_
            refine reg_enter (op := (Go.Op.call (Go.Call.mk (Go.Callee.value (Go.Operand.func 33)) #[(Go.Operand.tmp 75)] #[44]))) (ty := 49) (dst := some 76) 33 #[Value.pointer g] (by kernel_rfl) (fun ww => by kernel_rfl) (Calls.mono h ?_)
            rintro _ w9 ⟨v76, rfl, h⟩
            refine ⟨_, rfl, ?_⟩
            refine reg_run [] 4 [(2, [], Value.slice numbers.ptr numbers.len numbers.cap), (10, [], Value.pointer g), (12, [], Value.int .i64 i1), (74, [], Value.int .i64 v74), (76, [], Value.slice v76.ptr v76.len v76.cap)] (by kernel_rfl) (by kernel_rfl) ?_
            refine reg_enter (op := (Go.Op.call (Go.Call.mk (Go.Callee.value (Go.Operand.func 30)) #[(Go.Operand.tmp 74), (Go.Operand.tmp 76)] #[3, 49]))) (ty := 45) (dst := some 77) 30 #[Value.int .i64 v74, Value.slice v76.ptr v76.len v76.cap] (by kernel_rfl) (fun ww => by kernel_rfl) (Calls.mono h ?_)
            rintro _ w10 ⟨h_, f, rfl, h⟩
            refine ⟨_, rfl, ?_⟩
            refine reg_run [.plain, .plain, .plain, .plain, .plain] 10 [(2, [], Value.slice numbers.ptr numbers.len numbers.cap), (10, [], Value.pointer g), (12, [], Value.int .i64 i1), (13, [], Value.pointer h_), (14, [], Value.int .i64 f)] (by kernel_rfl) (by kernel_rfl) ?_
            refine reg_end [(2, Value.slice numbers.ptr numbers.len numbers.cap), (10, Value.pointer g), (12, Value.int .i64 i1), (13, Value.pointer h_), (14, Value.int .i64 f)] (by kernel_rfl) (by kernel_rfl) ?_
            change WpE _ _ c_towpathlaw12_GateAgain_72 _ _ _
            refine wpE_seq (x := c_towpathlaw12_GateAgain_73) (y := c_towpathlaw12_GateAgain_75) (by kernel_rfl) ?_
            refine wpE_mixregion (id := 17) (ops := r_towpathlaw12_GateAgain_73) o_towpathlaw12_GateAgain_73 (by kernel_rfl) (by kernel_rfl) (by kernel_rfl) (by kernel_rfl) (fun w11 hw => ?_)
            replace h := h w11 hw
            clear hw
            refine mreg_run [.plain, .plain, .plain] 3 [(2, [], Value.slice numbers.ptr numbers.len numbers.cap), (10, [], Value.pointer g), (12, [], Value.int .i64 i1), (13, [], Value.pointer h_), (14, [], Value.int .i64 f), (80, [], Value.pointer g), (82, [], Value.slice numbers.ptr numbers.len numbers.cap), (83, [], Value.int .i64 i1)] (by kernel_rfl) (by kernel_rfl) ?_
            obtain ⟨hp_15, h⟩ := h
            refine mreg_conv [(2, [], Value.slice numbers.ptr numbers.len numbers.cap), (10, [], Value.pointer g), (12, [], Value.int .i64 i1), (13, [], Value.pointer h_), (14, [], Value.int .i64 f), (80, [], Value.pointer g), (82, [], Value.slice (some ⟨(pblk numbers.ptr), (poff numbers.ptr), none⟩) numbers.len numbers.cap), (83, [], Value.int .i64 i1)] (congrArg (fun pp => ([(2, [], Value.slice numbers.ptr numbers.len numbers.cap), (10, [], Value.pointer g), (12, [], Value.int .i64 i1), (13, [], Value.pointer h_), (14, [], Value.int .i64 f), (80, [], Value.pointer g), (82, [], Value.slice pp numbers.len numbers.cap), (83, [], Value.int .i64 i1)] : GEnv)) hp_15) ?_
            obtain ⟨h0, h1, h⟩ := h
            refine mreg_indexS1 (i := 4) (by kernel_rfl) (t := 34) (e := 5) (x := (Go.Operand.tmp 82)) (ix := (Go.Operand.tmp 83)) (b := (pblk numbers.ptr)) (o := (poff numbers.ptr)) (l := numbers.len) (c := numbers.cap) (k := .i64) (j := i1) (ty := 0) (dst := some 84) (by kernel_rfl) (by kernel_rfl) (by kernel_rfl) (by kernel_rfl) (by kernel_rfl) h0 h1 ?_
            refine mreg_run [] 4 [(2, [], Value.slice numbers.ptr numbers.len numbers.cap), (10, [], Value.pointer g), (12, [], Value.int .i64 i1), (13, [], Value.pointer h_), (14, [], Value.int .i64 f), (80, [], Value.pointer g), (84, [], Value.pointer (some ⟨(pblk numbers.ptr), (poff numbers.ptr) + i1.toNat, none⟩))] (by kernel_rfl) (by kernel_rfl) ?_
            obtain ⟨v85, hc, h⟩ := h
            refine mreg_load1 (i := 5) (by kernel_rfl) (t := 5) (a := (Go.Operand.tmp 84)) (b := (pblk numbers.ptr)) (o := ((poff numbers.ptr) + i1.toNat)) (ty := 5) (dst := some 85) (by kernel_rfl) (by kernel_rfl) (by kernel_rfl) hc ?_
            refine mreg_run [.plain, .plain] 7 [(2, [], Value.slice numbers.ptr numbers.len numbers.cap), (10, [], Value.pointer g), (12, [], Value.int .i64 i1), (13, [], Value.pointer h_), (14, [], Value.int .i64 f), (80, [], Value.pointer g), (87, [], Value.int .i64 (IntKind.i64.wrap (Int.tmod v85 12)))] (by kernel_rfl) (by kernel_rfl) ?_
            refine mreg_enter (op := (Go.Op.call (Go.Call.mk (Go.Callee.value (Go.Operand.func 31)) #[(Go.Operand.tmp 80)] #[44]))) (ty := 3) (dst := some 81) 1 [0] [(5, fun w' => w'.cell? ⟨(pblk numbers.ptr), (poff numbers.ptr) + i1.toNat, none⟩ = some (Value.int .u8 v85))] 31 #[Value.pointer g] (by kernel_rfl) (by kernel_rfl) (by kernel_rfl) (by kernel_rfl) (by kernel_rfl) (fun ww => by kernel_rfl) (Calls.mono h ?_)
            rintro _ w12 ⟨v81, rfl, h⟩
            obtain ⟨hk0, h⟩ := h
            refine ⟨_, rfl, ⟨hk0, trivial⟩, ?_⟩
            refine mreg_run [.plain, .plain] 10 [(2, [], Value.slice numbers.ptr numbers.len numbers.cap), (10, [], Value.pointer g), (12, [], Value.int .i64 i1), (13, [], Value.pointer h_), (14, [], Value.int .i64 f), (15, [], Value.int .i64 (IntKind.i64.wrap (v81 + (IntKind.i64.wrap (Int.tmod v85 12)))))] (by kernel_rfl) (by kernel_rfl) ?_
            refine mreg_end [(2, Value.slice numbers.ptr numbers.len numbers.cap), (10, Value.pointer g), (12, Value.int .i64 i1), (13, Value.pointer h_), (14, Value.int .i64 f), (15, Value.int .i64 (IntKind.i64.wrap (v81 + (IntKind.i64.wrap (Int.tmod v85 12)))))] (by kernel_rfl) (by kernel_rfl) (by kernel_rfl) ?_
            change WpE _ _ c_towpathlaw12_GateAgain_75 _ _ _
            refine wpE_seq (x := c_towpathlaw12_GateAgain_76) (y := c_towpathlaw12_GateAgain_78) (by kernel_rfl) ?_
            refine wpE_region (id := 18) (ops := r_towpathlaw12_GateAgain_76) (by kernel_rfl) ?_
            refine reg_run [.plain, .plain] 2 [(2, [], Value.slice numbers.ptr numbers.len numbers.cap), (10, [], Value.pointer g), (12, [], Value.int .i64 i1), (13, [], Value.pointer h_), (14, [], Value.int .i64 f), (15, [], Value.int .i64 (IntKind.i64.wrap (v81 + (IntKind.i64.wrap (Int.tmod v85 12))))), (90, [], Value.pointer g), (91, [], Value.int .i64 (IntKind.i64.wrap (v81 + (IntKind.i64.wrap (Int.tmod v85 12)))))] (by kernel_rfl) (by kernel_rfl) ?_
            refine reg_enter (op := (Go.Op.call (Go.Call.mk (Go.Callee.value (Go.Operand.func 32)) #[(Go.Operand.tmp 90), (Go.Operand.tmp 91)] #[44, 3]))) (ty := 26) (dst := some 92) 32 #[Value.pointer g, Value.int .i64 (IntKind.i64.wrap (v81 + (IntKind.i64.wrap (Int.tmod v85 12))))] (by kernel_rfl) (fun ww => by kernel_rfl) (Calls.mono h ?_)
            rintro _ w13 ⟨a_, x, rfl, h⟩
            refine ⟨_, rfl, ?_⟩
            refine reg_run [.plain, .plain, .plain, .plain, .plain] 8 [(2, [], Value.slice numbers.ptr numbers.len numbers.cap), (10, [], Value.pointer g), (12, [], Value.int .i64 i1), (13, [], Value.pointer h_), (14, [], Value.int .i64 f), (15, [], Value.int .i64 (IntKind.i64.wrap (v81 + (IntKind.i64.wrap (Int.tmod v85 12))))), (16, [], Value.int .i64 a_), (17, [], Value.int .i64 x)] (by kernel_rfl) (by kernel_rfl) ?_
            refine reg_end [(2, Value.slice numbers.ptr numbers.len numbers.cap), (10, Value.pointer g), (12, Value.int .i64 i1), (13, Value.pointer h_), (14, Value.int .i64 f), (15, Value.int .i64 (IntKind.i64.wrap (v81 + (IntKind.i64.wrap (Int.tmod v85 12))))), (16, Value.int .i64 a_), (17, Value.int .i64 x)] (by kernel_rfl) (by kernel_rfl) ?_
            change WpE _ _ c_towpathlaw12_GateAgain_78 _ _ _
            refine wpE_seq (x := c_towpathlaw12_GateAgain_79) (y := c_towpathlaw12_GateAgain_81) (by kernel_rfl) ?_
            refine wpE_region (id := 19) (ops := r_towpathlaw12_GateAgain_79) (by kernel_rfl) ?_
            refine reg_run [.plain, .plain] 2 [(2, [], Value.slice numbers.ptr numbers.len numbers.cap), (10, [], Value.pointer g), (12, [], Value.int .i64 i1), (13, [], Value.pointer h_), (14, [], Value.int .i64 f), (15, [], Value.int .i64 (IntKind.i64.wrap (v81 + (IntKind.i64.wrap (Int.tmod v85 12))))), (16, [], Value.int .i64 a_), (17, [], Value.int .i64 x), (96, [], Value.pointer h_), (97, [], Value.int .i64 (IntKind.i64.wrap (v81 + (IntKind.i64.wrap (Int.tmod v85 12)))))] (by kernel_rfl) (by kernel_rfl) ?_
            refine reg_enter (op := (Go.Op.call (Go.Call.mk (Go.Callee.value (Go.Operand.func 32)) #[(Go.Operand.tmp 96), (Go.Operand.tmp 97)] #[44, 3]))) (ty := 26) (dst := some 98) 32 #[Value.pointer h_, Value.int .i64 (IntKind.i64.wrap (v81 + (IntKind.i64.wrap (Int.tmod v85 12))))] (by kernel_rfl) (fun ww => by kernel_rfl) (Calls.mono h ?_)
            rintro _ w14 ⟨b_1, y, rfl, h⟩
            refine ⟨_, rfl, ?_⟩
            refine reg_run [.plain, .plain, .plain, .plain, .plain] 8 [(2, [], Value.slice numbers.ptr numbers.len numbers.cap), (10, [], Value.pointer g), (12, [], Value.int .i64 i1), (13, [], Value.pointer h_), (14, [], Value.int .i64 f), (15, [], Value.int .i64 (IntKind.i64.wrap (v81 + (IntKind.i64.wrap (Int.tmod v85 12))))), (16, [], Value.int .i64 a_), (17, [], Value.int .i64 x), (18, [], Value.int .i64 b_1), (19, [], Value.int .i64 y)] (by kernel_rfl) (by kernel_rfl) ?_
            refine reg_end [(2, Value.slice numbers.ptr numbers.len numbers.cap), (10, Value.pointer g), (12, Value.int .i64 i1), (13, Value.pointer h_), (14, Value.int .i64 f), (15, Value.int .i64 (IntKind.i64.wrap (v81 + (IntKind.i64.wrap (Int.tmod v85 12))))), (16, Value.int .i64 a_), (17, Value.int .i64 x), (18, Value.int .i64 b_1), (19, Value.int .i64 y)] (by kernel_rfl) (by kernel_rfl) ?_
            change WpE _ _ c_towpathlaw12_GateAgain_81 _ _ _
            refine wpE_seq_cut (x := c_towpathlaw12_GateAgain_82) (y := c_towpathlaw12_GateAgain_84) (by kernel_rfl) (fun l w => ∃ (t137 : Bool), l = [(2, Value.slice numbers.ptr numbers.len numbers.cap), (10, Value.pointer g), (12, Value.int .i64 i1), (137, Value.bool t137)] ∧ F_towpathlaw12_GateAgain_k2 R i1 again_1 t137 w) ?_ ?_
            · refine wpE_region (id := 20) (ops := r_towpathlaw12_GateAgain_82) (by kernel_rfl) ?_
              refine reg_run [.plain, .plain, .plain, .plain, .plain, .plain, .pick, .plain, .plain, .plain, .plain, .pick, .plain, .plain] 14 [(2, [], Value.slice numbers.ptr numbers.len numbers.cap), (10, [], Value.pointer g), (12, [], Value.int .i64 i1), (13, [], Value.pointer h_), (15, [], Value.int .i64 (IntKind.i64.wrap (v81 + (IntKind.i64.wrap (Int.tmod v85 12))))), (17, [], Value.int .i64 x), (113, [], Value.bool (((f != 0) || (a_ != b_1)) || (x != y))), (114, [(113, false)], Value.pointer g)] (by kernel_rfl) (by kernel_rfl) ?_
              refine reg_split 113 (((f != 0) || (a_ != b_1)) || (x != y)) (by kernel_rfl) (fun hb => ?_) (fun hb => ?_)
              · replace h := h.1 hb
                refine reg_run [] 14 [(2, [], Value.slice numbers.ptr numbers.len numbers.cap), (10, [], Value.pointer g), (12, [], Value.int .i64 i1), (13, [], Value.pointer h_), (15, [], Value.int .i64 (IntKind.i64.wrap (v81 + (IntKind.i64.wrap (Int.tmod v85 12))))), (17, [], Value.int .i64 x), (113, [], Value.bool true), (114, [], undef)] (by kernel_rfl) (by kernel_rfl) ?_
                refine reg_run [.skip, .skip, .skip, .skip, .plain, .plain, .skip, .skip, .skip, .skip, .skip, .skip, .plain, .plain, .skip, .skip, .skip, .skip, .skip, .skip, .skip, .skip, .plain] 37 [(2, [], Value.slice numbers.ptr numbers.len numbers.cap), (10, [], Value.pointer g), (12, [], Value.int .i64 i1), (137, [], Value.bool true)] (by kernel_rfl) (by kernel_rfl) ?_
                refine reg_end [(2, Value.slice numbers.ptr numbers.len numbers.cap), (10, Value.pointer g), (12, Value.int .i64 i1), (137, Value.bool true)] (by kernel_rfl) (by kernel_rfl) ?_
                exact ⟨[(2, Value.slice numbers.ptr numbers.len numbers.cap), (10, Value.pointer g), (12, Value.int .i64 i1), (137, Value.bool true)], Sub.mk (by kernel_rfl), true, rfl, h⟩
              · replace h := h.2 hb
                refine reg_run [] 14 [(2, [], Value.slice numbers.ptr numbers.len numbers.cap), (10, [], Value.pointer g), (12, [], Value.int .i64 i1), (13, [], Value.pointer h_), (15, [], Value.int .i64 (IntKind.i64.wrap (v81 + (IntKind.i64.wrap (Int.tmod v85 12))))), (17, [], Value.int .i64 x), (113, [], Value.bool false), (114, [], Value.pointer g)] (by kernel_rfl) (by kernel_rfl) ?_
                refine reg_run [] 14 [(2, [], Value.slice numbers.ptr numbers.len numbers.cap), (10, [], Value.pointer g), (12, [], Value.int .i64 i1), (13, [], Value.pointer h_), (15, [], Value.int .i64 (IntKind.i64.wrap (v81 + (IntKind.i64.wrap (Int.tmod v85 12))))), (17, [], Value.int .i64 x), (113, [], Value.bool false), (114, [], Value.pointer g)] (by kernel_rfl) (by kernel_rfl) ?_
                refine reg_enter (op := (Go.Op.call (Go.Call.mk (Go.Callee.value (Go.Operand.func 31)) #[(Go.Operand.tmp 114)] #[44]))) (ty := 3) (dst := some 115) 31 #[Value.pointer g] (by kernel_rfl) (fun ww => by kernel_rfl) (Calls.mono h ?_)
                rintro _ w16 ⟨v115, rfl, h⟩
                refine ⟨_, rfl, ?_⟩
                refine reg_run [.sure] 16 [(2, [], Value.slice numbers.ptr numbers.len numbers.cap), (10, [], Value.pointer g), (12, [], Value.int .i64 i1), (13, [], Value.pointer h_), (15, [], Value.int .i64 (IntKind.i64.wrap (v81 + (IntKind.i64.wrap (Int.tmod v85 12))))), (17, [], Value.int .i64 x), (113, [], Value.bool false), (115, [], Value.int .i64 v115), (116, [], Value.pointer h_)] (by kernel_rfl) (by kernel_rfl) ?_
                refine reg_enter (op := (Go.Op.call (Go.Call.mk (Go.Callee.value (Go.Operand.func 31)) #[(Go.Operand.tmp 116)] #[44]))) (ty := 3) (dst := some 117) 31 #[Value.pointer h_] (by kernel_rfl) (fun ww => by kernel_rfl) (Calls.mono h ?_)
                rintro _ w17 ⟨v117, rfl, h⟩
                refine ⟨_, rfl, ?_⟩
                refine reg_run [.sure, .plain, .plain, .plain] 21 [(2, [], Value.slice numbers.ptr numbers.len numbers.cap), (10, [], Value.pointer g), (12, [], Value.int .i64 i1), (13, [], Value.pointer h_), (15, [], Value.int .i64 (IntKind.i64.wrap (v81 + (IntKind.i64.wrap (Int.tmod v85 12))))), (17, [], Value.int .i64 x), (120, [], Value.bool (v115 != v117)), (121, [(120, false)], Value.pointer g)] (by kernel_rfl) (by kernel_rfl) ?_
                refine reg_split 120 (v115 != v117) (by kernel_rfl) (fun hb => ?_) (fun hb => ?_)
                · replace h := h.1 hb
                  refine reg_run [] 21 [(2, [], Value.slice numbers.ptr numbers.len numbers.cap), (10, [], Value.pointer g), (12, [], Value.int .i64 i1), (13, [], Value.pointer h_), (15, [], Value.int .i64 (IntKind.i64.wrap (v81 + (IntKind.i64.wrap (Int.tmod v85 12))))), (17, [], Value.int .i64 x), (120, [], Value.bool true), (121, [], undef)] (by kernel_rfl) (by kernel_rfl) ?_
                  refine reg_run [.skip, .skip, .skip, .skip, .skip, .plain, .plain, .skip, .skip, .skip, .skip, .skip, .skip, .skip, .skip, .plain] 37 [(2, [], Value.slice numbers.ptr numbers.len numbers.cap), (10, [], Value.pointer g), (12, [], Value.int .i64 i1), (137, [], Value.bool true)] (by kernel_rfl) (by kernel_rfl) ?_
                  refine reg_end [(2, Value.slice numbers.ptr numbers.len numbers.cap), (10, Value.pointer g), (12, Value.int .i64 i1), (137, Value.bool true)] (by kernel_rfl) (by kernel_rfl) ?_
                  exact ⟨[(2, Value.slice numbers.ptr numbers.len numbers.cap), (10, Value.pointer g), (12, Value.int .i64 i1), (137, Value.bool true)], Sub.mk (by kernel_rfl), true, rfl, h⟩
                · replace h := h.2 hb
                  refine reg_run [] 21 [(2, [], Value.slice numbers.ptr numbers.len numbers.cap), (10, [], Value.pointer g), (12, [], Value.int .i64 i1), (13, [], Value.pointer h_), (15, [], Value.int .i64 (IntKind.i64.wrap (v81 + (IntKind.i64.wrap (Int.tmod v85 12))))), (17, [], Value.int .i64 x), (120, [], Value.bool false), (121, [], Value.pointer g)] (by kernel_rfl) (by kernel_rfl) ?_
                  refine reg_run [] 21 [(2, [], Value.slice numbers.ptr numbers.len numbers.cap), (10, [], Value.pointer g), (12, [], Value.int .i64 i1), (13, [], Value.pointer h_), (15, [], Value.int .i64 (IntKind.i64.wrap (v81 + (IntKind.i64.wrap (Int.tmod v85 12))))), (17, [], Value.int .i64 x), (120, [], Value.bool false), (121, [], Value.pointer g)] (by kernel_rfl) (by kernel_rfl) ?_
                  refine reg_enter (op := (Go.Op.call (Go.Call.mk (Go.Callee.value (Go.Operand.func 33)) #[(Go.Operand.tmp 121)] #[44]))) (ty := 49) (dst := some 122) 33 #[Value.pointer g] (by kernel_rfl) (fun ww => by kernel_rfl) (Calls.mono h ?_)
                  rintro _ w18 ⟨v122, rfl, h⟩
                  refine ⟨_, rfl, ?_⟩
                  refine reg_run [.sure] 23 [(2, [], Value.slice numbers.ptr numbers.len numbers.cap), (10, [], Value.pointer g), (12, [], Value.int .i64 i1), (15, [], Value.int .i64 (IntKind.i64.wrap (v81 + (IntKind.i64.wrap (Int.tmod v85 12))))), (17, [], Value.int .i64 x), (120, [], Value.bool false), (122, [], Value.slice v122.ptr v122.len v122.cap), (123, [], Value.pointer h_)] (by kernel_rfl) (by kernel_rfl) ?_
                  refine reg_enter (op := (Go.Op.call (Go.Call.mk (Go.Callee.value (Go.Operand.func 33)) #[(Go.Operand.tmp 123)] #[44]))) (ty := 49) (dst := some 124) 33 #[Value.pointer h_] (by kernel_rfl) (fun ww => by kernel_rfl) (Calls.mono h ?_)
                  rintro _ w19 ⟨v124, rfl, h⟩
                  refine ⟨_, rfl, ?_⟩
                  refine reg_run [] 24 [(2, [], Value.slice numbers.ptr numbers.len numbers.cap), (10, [], Value.pointer g), (12, [], Value.int .i64 i1), (15, [], Value.int .i64 (IntKind.i64.wrap (v81 + (IntKind.i64.wrap (Int.tmod v85 12))))), (17, [], Value.int .i64 x), (120, [], Value.bool false), (122, [], Value.slice v122.ptr v122.len v122.cap), (124, [], Value.slice v124.ptr v124.len v124.cap)] (by kernel_rfl) (by kernel_rfl) ?_
                  refine reg_enter (op := (Go.Op.call (Go.Call.mk (Go.Callee.value (Go.Operand.func 35)) #[(Go.Operand.tmp 122), (Go.Operand.tmp 124)] #[49, 49]))) (ty := 4) (dst := some 125) 35 #[Value.slice v122.ptr v122.len v122.cap, Value.slice v124.ptr v124.len v124.cap] (by kernel_rfl) (fun ww => by kernel_rfl) (Calls.mono h ?_)
                  rintro _ w20 ⟨v125, rfl, h⟩
                  refine ⟨_, rfl, ?_⟩
                  refine reg_run [.sure, .plain, .plain, .plain, .plain, .plain, .plain, .plain] 33 [(2, [], Value.slice numbers.ptr numbers.len numbers.cap), (10, [], Value.pointer g), (12, [], Value.int .i64 i1), (128, [], Value.bool (!v125)), (131, [(128, false)], Value.bool (x == 0)), (132, [(131, true), (128, false)], Value.pointer g), (133, [(131, true), (128, false)], Value.int .i64 (IntKind.i64.wrap (v81 + (IntKind.i64.wrap (Int.tmod v85 12)))))] (by kernel_rfl) (by kernel_rfl) ?_
                  refine reg_split 128 (!v125) (by kernel_rfl) (fun hb => ?_) (fun hb => ?_)
                  · replace h := h.1 hb
                    refine reg_run [] 33 [(2, [], Value.slice numbers.ptr numbers.len numbers.cap), (10, [], Value.pointer g), (12, [], Value.int .i64 i1), (128, [], Value.bool true), (131, [], undef), (132, [], undef), (133, [], undef)] (by kernel_rfl) (by kernel_rfl) ?_
                    refine reg_run [.skip, .skip, .skip, .plain] 37 [(2, [], Value.slice numbers.ptr numbers.len numbers.cap), (10, [], Value.pointer g), (12, [], Value.int .i64 i1), (137, [], Value.bool true)] (by kernel_rfl) (by kernel_rfl) ?_
                    refine reg_end [(2, Value.slice numbers.ptr numbers.len numbers.cap), (10, Value.pointer g), (12, Value.int .i64 i1), (137, Value.bool true)] (by kernel_rfl) (by kernel_rfl) ?_
                    exact ⟨[(2, Value.slice numbers.ptr numbers.len numbers.cap), (10, Value.pointer g), (12, Value.int .i64 i1), (137, Value.bool true)], Sub.mk (by kernel_rfl), true, rfl, h⟩
                  · replace h := h.2 hb
                    refine reg_run [] 33 [(2, [], Value.slice numbers.ptr numbers.len numbers.cap), (10, [], Value.pointer g), (12, [], Value.int .i64 i1), (128, [], Value.bool false), (131, [], Value.bool (x == 0)), (132, [(131, true)], Value.pointer g), (133, [(131, true)], Value.int .i64 (IntKind.i64.wrap (v81 + (IntKind.i64.wrap (Int.tmod v85 12)))))] (by kernel_rfl) (by kernel_rfl) ?_
                    refine reg_run [] 33 [(2, [], Value.slice numbers.ptr numbers.len numbers.cap), (10, [], Value.pointer g), (12, [], Value.int .i64 i1), (128, [], Value.bool false), (131, [], Value.bool (x == 0)), (132, [(131, true)], Value.pointer g), (133, [(131, true)], Value.int .i64 (IntKind.i64.wrap (v81 + (IntKind.i64.wrap (Int.tmod v85 12)))))] (by kernel_rfl) (by kernel_rfl) ?_
                    refine reg_split 131 (x == 0) (by kernel_rfl) (fun hb => ?_) (fun hb => ?_)
                    · replace h := h.1 hb
                      refine reg_run [] 33 [(2, [], Value.slice numbers.ptr numbers.len numbers.cap), (10, [], Value.pointer g), (12, [], Value.int .i64 i1), (128, [], Value.bool false), (131, [], Value.bool true), (132, [], Value.pointer g), (133, [], Value.int .i64 (IntKind.i64.wrap (v81 + (IntKind.i64.wrap (Int.tmod v85 12)))))] (by kernel_rfl) (by kernel_rfl) ?_
                      refine reg_run [] 33 [(2, [], Value.slice numbers.ptr numbers.len numbers.cap), (10, [], Value.pointer g), (12, [], Value.int .i64 i1), (128, [], Value.bool false), (131, [], Value.bool true), (132, [], Value.pointer g), (133, [], Value.int .i64 (IntKind.i64.wrap (v81 + (IntKind.i64.wrap (Int.tmod v85 12)))))] (by kernel_rfl) (by kernel_rfl) ?_
                      refine reg_enter (op := (Go.Op.call (Go.Call.mk (Go.Callee.value (Go.Operand.func 34)) #[(Go.Operand.tmp 132), (Go.Operand.tmp 133)] #[44, 3]))) (ty := 4) (dst := some 134) 34 #[Value.pointer g, Value.int .i64 (IntKind.i64.wrap (v81 + (IntKind.i64.wrap (Int.tmod v85 12))))] (by kernel_rfl) (fun ww => by kernel_rfl) (Calls.mono h ?_)
                      rintro _ w21 ⟨v134, rfl, h⟩
                      refine ⟨_, rfl, ?_⟩
                      refine reg_run [.sure, .sure, .plain] 37 [(2, [], Value.slice numbers.ptr numbers.len numbers.cap), (10, [], Value.pointer g), (12, [], Value.int .i64 i1), (137, [], Value.bool (!v134))] (by kernel_rfl) (by kernel_rfl) ?_
                      refine reg_end [(2, Value.slice numbers.ptr numbers.len numbers.cap), (10, Value.pointer g), (12, Value.int .i64 i1), (137, Value.bool (!v134))] (by kernel_rfl) (by kernel_rfl) ?_
                      exact ⟨[(2, Value.slice numbers.ptr numbers.len numbers.cap), (10, Value.pointer g), (12, Value.int .i64 i1), (137, Value.bool (!v134))], Sub.mk (by kernel_rfl), (!v134), rfl, h⟩
                    · replace h := h.2 hb
                      refine reg_run [] 33 [(2, [], Value.slice numbers.ptr numbers.len numbers.cap), (10, [], Value.pointer g), (12, [], Value.int .i64 i1), (128, [], Value.bool false), (131, [], Value.bool false), (132, [], undef), (133, [], undef)] (by kernel_rfl) (by kernel_rfl) ?_
                      refine reg_run [.skip, .skip, .sure, .plain] 37 [(2, [], Value.slice numbers.ptr numbers.len numbers.cap), (10, [], Value.pointer g), (12, [], Value.int .i64 i1), (137, [], Value.bool false)] (by kernel_rfl) (by kernel_rfl) ?_
                      refine reg_end [(2, Value.slice numbers.ptr numbers.len numbers.cap), (10, Value.pointer g), (12, Value.int .i64 i1), (137, Value.bool false)] (by kernel_rfl) (by kernel_rfl) ?_
                      exact ⟨[(2, Value.slice numbers.ptr numbers.len numbers.cap), (10, Value.pointer g), (12, Value.int .i64 i1), (137, Value.bool false)], Sub.mk (by kernel_rfl), false, rfl, h⟩
            · rintro _ w15 ⟨t137, rfl, h⟩
              unfold F_towpathlaw12_GateAgain_k2 at h
              refine wpE_cond (o := (Operand.tmp 137)) (b := t137) (x := c_towpathlaw12_GateAgain_85) (y := c_towpathlaw12_GateAgain_89) (by kernel_rfl) (by kernel_rfl) (fun hb => ?_) (fun hb => ?_)
              · replace h := h.1 hb
                refine wpE_seq (x := c_towpathlaw12_GateAgain_86) (y := c_towpathlaw12_GateAgain_88) (by kernel_rfl) ?_
                refine wpE_region (id := 21) (ops := r_towpathlaw12_GateAgain_86) (by kernel_rfl) ?_
                refine reg_run [.plain] 1 [(6, [], Value.bool false)] (by kernel_rfl) (by kernel_rfl) ?_
                refine reg_end [(6, Value.bool false)] (by kernel_rfl) (by kernel_rfl) ?_
                change WpE _ _ c_towpathlaw12_GateAgain_88 _ _ _
                refine wpE_ret (by kernel_rfl) ?_
                repeat (first | refine seqQ_ret ?_ | refine blockQ_ret ?_ | refine loopQ_ret ?_ | refine cutQ_ret ?_)
                exact retS (rs := [(Go.ResultVar.tmp 6)]) (v := Value.bool false) (by kernel_rfl) (⟨by kernel_rfl, trivial⟩) ⟨false, rfl, h⟩
              · replace h := h.2 hb
                refine wpE_skip (by kernel_rfl) ?_
                change WpE _ _ c_towpathlaw12_GateAgain_90 _ _ _
                refine wpE_region (id := 15) (ops := r_towpathlaw12_GateAgain_90) (by kernel_rfl) ?_
                refine reg_run [.plain, .plain, .plain] 3 [(2, [], Value.slice numbers.ptr numbers.len numbers.cap), (10, [], Value.pointer g), (12, [], Value.int .i64 (IntKind.i64.wrap (i1 + 1)))] (by kernel_rfl) (by kernel_rfl) ?_
                refine reg_end [(2, Value.slice numbers.ptr numbers.len numbers.cap), (10, Value.pointer g), (12, Value.int .i64 (IntKind.i64.wrap (i1 + 1)))] (by kernel_rfl) (by kernel_rfl) ?_
                have hb_ := again_1_h _ _ h
                exact ⟨_, hb_.2, [(2, Value.slice numbers.ptr numbers.len numbers.cap), (10, Value.pointer g), (12, Value.int .i64 (IntKind.i64.wrap (i1 + 1)))], Sub.mk (by kernel_rfl), (IntKind.i64.wrap (i1 + 1)), rfl, hb_.1, rfl⟩
          · replace h := h.2 hb
            refine wpE_exit (id := 2) (by kernel_rfl) ?_
            change WpE _ _ c_towpathlaw12_GateAgain_92 _ _ _
            refine wpE_seq (x := c_towpathlaw12_GateAgain_93) (y := c_towpathlaw12_GateAgain_95) (by kernel_rfl) ?_
            refine wpE_region (id := 22) (ops := r_towpathlaw12_GateAgain_93) (by kernel_rfl) ?_
            refine reg_run [.plain] 1 [(6, [], Value.bool true)] (by kernel_rfl) (by kernel_rfl) ?_
            refine reg_end [(6, Value.bool true)] (by kernel_rfl) (by kernel_rfl) ?_
            change WpE _ _ c_towpathlaw12_GateAgain_95 _ _ _
            refine wpE_ret (by kernel_rfl) ?_
            repeat (first | refine seqQ_ret ?_ | refine blockQ_ret ?_ | refine loopQ_ret ?_ | refine cutQ_ret ?_)
            exact retS (rs := [(Go.ResultVar.tmp 6)]) (v := Value.bool true) (by kernel_rfl) (⟨by kernel_rfl, trivial⟩) ⟨true, rfl, h⟩
  · rintro e w' ⟨v, rfl, r0, rfl, h⟩; exact ⟨r0, rfl, h⟩
end Go.Proofs.Ytchcljkflklddaa
