/- WRITTEN BY PROGRAM (dec.py): for each Go function the clean formula F, the call's contract C, and the proof S that F gives C. -/
import Derived.Test.YtckmganidgbpgaaRows
import Derived.Test.YtckmganidgbpgaaGF
namespace Go.Proofs.Ytckmganidgbpgaa
open Go
set_option linter.unusedVariables false

/-! ### towpath/towpathlaw02.CodecOne (function 8) -/
noncomputable def c_towpathlaw02_CodecOne_0 : Code := (Try.f8.body).getD Code.skip
noncomputable def c_towpathlaw02_CodecOne_1 : Code := Code.l c_towpathlaw02_CodecOne_0
noncomputable def r_towpathlaw02_CodecOne_1 : Array Oper := Code.ops c_towpathlaw02_CodecOne_1
noncomputable def c_towpathlaw02_CodecOne_3 : Code := Code.r c_towpathlaw02_CodecOne_0
noncomputable def c_towpathlaw02_CodecOne_4 : Code := Code.l c_towpathlaw02_CodecOne_3
noncomputable def c_towpathlaw02_CodecOne_5 : Code := Code.l c_towpathlaw02_CodecOne_4
noncomputable def r_towpathlaw02_CodecOne_5 : Array Oper := Code.ops c_towpathlaw02_CodecOne_5
noncomputable def c_towpathlaw02_CodecOne_7 : Code := Code.r c_towpathlaw02_CodecOne_4
noncomputable def c_towpathlaw02_CodecOne_8 : Code := Code.l c_towpathlaw02_CodecOne_7
noncomputable def c_towpathlaw02_CodecOne_9 : Code := Code.l c_towpathlaw02_CodecOne_8
noncomputable def r_towpathlaw02_CodecOne_9 : Array Oper := Code.ops c_towpathlaw02_CodecOne_9
noncomputable def c_towpathlaw02_CodecOne_11 : Code := Code.r c_towpathlaw02_CodecOne_8
noncomputable def c_towpathlaw02_CodecOne_12 : Code := Code.r c_towpathlaw02_CodecOne_7
noncomputable def c_towpathlaw02_CodecOne_13 : Code := Code.r c_towpathlaw02_CodecOne_3
noncomputable def c_towpathlaw02_CodecOne_14 : Code := Code.l c_towpathlaw02_CodecOne_13
noncomputable def r_towpathlaw02_CodecOne_14 : Array Oper := Code.ops c_towpathlaw02_CodecOne_14
noncomputable def c_towpathlaw02_CodecOne_16 : Code := Code.r c_towpathlaw02_CodecOne_13
noncomputable def c_towpathlaw02_CodecOne_17 : Code := Code.l c_towpathlaw02_CodecOne_16
noncomputable def r_towpathlaw02_CodecOne_17 : Array Oper := Code.ops c_towpathlaw02_CodecOne_17
noncomputable def c_towpathlaw02_CodecOne_19 : Code := Code.r c_towpathlaw02_CodecOne_16
noncomputable def c_towpathlaw02_CodecOne_20 : Code := Code.l c_towpathlaw02_CodecOne_19
noncomputable def c_towpathlaw02_CodecOne_21 : Code := Code.l c_towpathlaw02_CodecOne_20
noncomputable def r_towpathlaw02_CodecOne_21 : Array Oper := Code.ops c_towpathlaw02_CodecOne_21
noncomputable def c_towpathlaw02_CodecOne_23 : Code := Code.r c_towpathlaw02_CodecOne_20
noncomputable def c_towpathlaw02_CodecOne_24 : Code := Code.l c_towpathlaw02_CodecOne_23
noncomputable def c_towpathlaw02_CodecOne_25 : Code := Code.l c_towpathlaw02_CodecOne_24
noncomputable def r_towpathlaw02_CodecOne_25 : Array Oper := Code.ops c_towpathlaw02_CodecOne_25
noncomputable def c_towpathlaw02_CodecOne_27 : Code := Code.r c_towpathlaw02_CodecOne_24
noncomputable def c_towpathlaw02_CodecOne_28 : Code := Code.l c_towpathlaw02_CodecOne_27
noncomputable def r_towpathlaw02_CodecOne_28 : Array Oper := Code.ops c_towpathlaw02_CodecOne_28
noncomputable def c_towpathlaw02_CodecOne_30 : Code := Code.r c_towpathlaw02_CodecOne_27
noncomputable def c_towpathlaw02_CodecOne_31 : Code := Code.l c_towpathlaw02_CodecOne_30
noncomputable def r_towpathlaw02_CodecOne_31 : Array Oper := Code.ops c_towpathlaw02_CodecOne_31
noncomputable def c_towpathlaw02_CodecOne_33 : Code := Code.r c_towpathlaw02_CodecOne_30
noncomputable def c_towpathlaw02_CodecOne_34 : Code := Code.l c_towpathlaw02_CodecOne_33
noncomputable def r_towpathlaw02_CodecOne_34 : Array Oper := Code.ops c_towpathlaw02_CodecOne_34
noncomputable def c_towpathlaw02_CodecOne_36 : Code := Code.r c_towpathlaw02_CodecOne_33
noncomputable def r_towpathlaw02_CodecOne_36 : Array Oper := Code.ops c_towpathlaw02_CodecOne_36
noncomputable def c_towpathlaw02_CodecOne_38 : Code := Code.r c_towpathlaw02_CodecOne_19
noncomputable def c_towpathlaw02_CodecOne_39 : Code := Code.l c_towpathlaw02_CodecOne_38
noncomputable def r_towpathlaw02_CodecOne_39 : Array Oper := Code.ops c_towpathlaw02_CodecOne_39
noncomputable def c_towpathlaw02_CodecOne_41 : Code := Code.r c_towpathlaw02_CodecOne_38
noncomputable def c_towpathlaw02_CodecOne_42 : Code := Code.l c_towpathlaw02_CodecOne_41
noncomputable def c_towpathlaw02_CodecOne_43 : Code := Code.l c_towpathlaw02_CodecOne_42
noncomputable def r_towpathlaw02_CodecOne_43 : Array Oper := Code.ops c_towpathlaw02_CodecOne_43
noncomputable def c_towpathlaw02_CodecOne_45 : Code := Code.r c_towpathlaw02_CodecOne_42
noncomputable def c_towpathlaw02_CodecOne_46 : Code := Code.l c_towpathlaw02_CodecOne_45
noncomputable def c_towpathlaw02_CodecOne_47 : Code := Code.l c_towpathlaw02_CodecOne_46
noncomputable def r_towpathlaw02_CodecOne_47 : Array Oper := Code.ops c_towpathlaw02_CodecOne_47
noncomputable def c_towpathlaw02_CodecOne_49 : Code := Code.r c_towpathlaw02_CodecOne_46
noncomputable def c_towpathlaw02_CodecOne_50 : Code := Code.r c_towpathlaw02_CodecOne_45
noncomputable def c_towpathlaw02_CodecOne_51 : Code := Code.r c_towpathlaw02_CodecOne_41
noncomputable def c_towpathlaw02_CodecOne_52 : Code := Code.l c_towpathlaw02_CodecOne_51
noncomputable def r_towpathlaw02_CodecOne_52 : Array Oper := Code.ops c_towpathlaw02_CodecOne_52
noncomputable def c_towpathlaw02_CodecOne_54 : Code := Code.r c_towpathlaw02_CodecOne_51
noncomputable def c_towpathlaw02_CodecOne_55 : Code := Code.l c_towpathlaw02_CodecOne_54
noncomputable def r_towpathlaw02_CodecOne_55 : Array Oper := Code.ops c_towpathlaw02_CodecOne_55
noncomputable def c_towpathlaw02_CodecOne_57 : Code := Code.r c_towpathlaw02_CodecOne_54
noncomputable def c_towpathlaw02_CodecOne_58 : Code := Code.l c_towpathlaw02_CodecOne_57
noncomputable def r_towpathlaw02_CodecOne_58 : Array Oper := Code.ops c_towpathlaw02_CodecOne_58
noncomputable def c_towpathlaw02_CodecOne_60 : Code := Code.r c_towpathlaw02_CodecOne_57
noncomputable def c_towpathlaw02_CodecOne_61 : Code := Code.l c_towpathlaw02_CodecOne_60
noncomputable def c_towpathlaw02_CodecOne_62 : Code := Code.l c_towpathlaw02_CodecOne_61
noncomputable def r_towpathlaw02_CodecOne_62 : Array Oper := Code.ops c_towpathlaw02_CodecOne_62
noncomputable def c_towpathlaw02_CodecOne_64 : Code := Code.r c_towpathlaw02_CodecOne_61
noncomputable def c_towpathlaw02_CodecOne_65 : Code := Code.l c_towpathlaw02_CodecOne_64
noncomputable def c_towpathlaw02_CodecOne_66 : Code := Code.l c_towpathlaw02_CodecOne_65
noncomputable def c_towpathlaw02_CodecOne_67 : Code := Code.l c_towpathlaw02_CodecOne_66
noncomputable def c_towpathlaw02_CodecOne_68 : Code := Code.l c_towpathlaw02_CodecOne_67
noncomputable def r_towpathlaw02_CodecOne_68 : Array Oper := Code.ops c_towpathlaw02_CodecOne_68
noncomputable def c_towpathlaw02_CodecOne_70 : Code := Code.r c_towpathlaw02_CodecOne_67
noncomputable def c_towpathlaw02_CodecOne_71 : Code := Code.l c_towpathlaw02_CodecOne_70
noncomputable def c_towpathlaw02_CodecOne_72 : Code := Code.r c_towpathlaw02_CodecOne_70
noncomputable def c_towpathlaw02_CodecOne_73 : Code := Code.r c_towpathlaw02_CodecOne_66
noncomputable def c_towpathlaw02_CodecOne_74 : Code := Code.l c_towpathlaw02_CodecOne_73
noncomputable def c_towpathlaw02_CodecOne_75 : Code := Code.l c_towpathlaw02_CodecOne_74
noncomputable def c_towpathlaw02_CodecOne_76 : Code := Code.l c_towpathlaw02_CodecOne_75
noncomputable def r_towpathlaw02_CodecOne_76 : Array Oper := Code.ops c_towpathlaw02_CodecOne_76
noncomputable def c_towpathlaw02_CodecOne_78 : Code := Code.r c_towpathlaw02_CodecOne_75
noncomputable def c_towpathlaw02_CodecOne_79 : Code := Code.l c_towpathlaw02_CodecOne_78
noncomputable def r_towpathlaw02_CodecOne_79 : Array Oper := Code.ops c_towpathlaw02_CodecOne_79
noncomputable def c_towpathlaw02_CodecOne_81 : Code := Code.r c_towpathlaw02_CodecOne_78
noncomputable def c_towpathlaw02_CodecOne_82 : Code := Code.l c_towpathlaw02_CodecOne_81
noncomputable def c_towpathlaw02_CodecOne_83 : Code := Code.l c_towpathlaw02_CodecOne_82
noncomputable def r_towpathlaw02_CodecOne_83 : Array Oper := Code.ops c_towpathlaw02_CodecOne_83
noncomputable def c_towpathlaw02_CodecOne_85 : Code := Code.r c_towpathlaw02_CodecOne_82
noncomputable def c_towpathlaw02_CodecOne_86 : Code := Code.r c_towpathlaw02_CodecOne_81
noncomputable def c_towpathlaw02_CodecOne_87 : Code := Code.r c_towpathlaw02_CodecOne_73
noncomputable def r_towpathlaw02_CodecOne_87 : Array Oper := Code.ops c_towpathlaw02_CodecOne_87
noncomputable def c_towpathlaw02_CodecOne_89 : Code := Code.r c_towpathlaw02_CodecOne_60
noncomputable def c_towpathlaw02_CodecOne_90 : Code := Code.l c_towpathlaw02_CodecOne_89
noncomputable def r_towpathlaw02_CodecOne_90 : Array Oper := Code.ops c_towpathlaw02_CodecOne_90
noncomputable def c_towpathlaw02_CodecOne_92 : Code := Code.r c_towpathlaw02_CodecOne_89
def o_towpathlaw02_CodecOne_43 : List Nat := [0, 1, 2, 3, 5, 6, 7, 4, 8, 9, 10, 11, 12, 13, 14, 15, 16, 17, 18, 19, 20, 21, 22, 23, 24, 25, 26, 27, 28, 29, 30, 31, 32, 33, 34]

set_option maxRecDepth 100000 in
set_option maxHeartbeats 4000000 in
theorem S_towpathlaw02_CodecOne {b_ : Slc} {kind : Int} {n_ : Int} {w : World} {R : Bool → World → Prop} (h : F_towpathlaw02_CodecOne b_ kind n_ R w) : C_towpathlaw02_CodecOne b_ kind n_ w R := by
  unfold F_towpathlaw02_CodecOne at h
  unfold C_towpathlaw02_CodecOne
  refine Calls.mono (calls_of_wpE (args := [Value.slice b_.ptr b_.len b_.cap, Value.int .u8 kind, Value.int .u64 n_]) (R := fun v w' => ∃ (r0 : Bool), v = Value.bool r0 ∧ R r0 w') Try.func8 (c := c_towpathlaw02_CodecOne_0) (by kernel_rfl) 118 (by kernel_rfl) (by kernel_rfl) [(0, Value.slice b_.ptr b_.len b_.cap), (1, Value.int .u8 kind), (2, Value.int .u64 n_)] (by kernel_rfl) ?_) ?_
  · refine wpE_seq (x := c_towpathlaw02_CodecOne_1) (y := c_towpathlaw02_CodecOne_3) (by kernel_rfl) ?_
    refine wpE_region (id := 0) (ops := r_towpathlaw02_CodecOne_1) (by kernel_rfl) ?_
    refine reg_run [.plain] 1 [(0, [], Value.slice b_.ptr b_.len b_.cap), (1, [], Value.int .u8 kind), (2, [], Value.int .u64 n_)] (by kernel_rfl) (by kernel_rfl) ?_
    refine reg_end [(0, Value.slice b_.ptr b_.len b_.cap), (1, Value.int .u8 kind), (2, Value.int .u64 n_)] (by kernel_rfl) (by kernel_rfl) ?_
    change WpE _ _ c_towpathlaw02_CodecOne_3 _ _ _
    refine wpE_seq (x := c_towpathlaw02_CodecOne_4) (y := c_towpathlaw02_CodecOne_13) (by kernel_rfl) ?_
    refine wpE_seq_cut (x := c_towpathlaw02_CodecOne_5) (y := c_towpathlaw02_CodecOne_7) (by kernel_rfl) (fun l w => ∃ (t21 : Bool), l = [(0, Value.slice b_.ptr b_.len b_.cap), (1, Value.int .u8 kind), (2, Value.int .u64 n_), (21, Value.bool t21)] ∧ F_towpathlaw02_CodecOne_k0 b_ kind n_ R t21 w) ?_ ?_
    · refine wpE_region (id := 1) (ops := r_towpathlaw02_CodecOne_5) (by kernel_rfl) ?_
      refine reg_run [] 0 [(0, [], Value.slice b_.ptr b_.len b_.cap), (1, [], Value.int .u8 kind), (2, [], Value.int .u64 n_)] (by kernel_rfl) (by kernel_rfl) ?_
      refine reg_enter (op := (Go.Op.call (Go.Call.mk (Go.Callee.value (Go.Operand.func 36)) #[] #[]))) (ty := 4) (dst := some 14) 36 #[] (by kernel_rfl) (fun ww => by kernel_rfl) (Calls.mono h ?_)
      rintro _ w29 ⟨v14, rfl, h⟩
      refine ⟨_, rfl, ?_⟩
      refine reg_run [.plain, .plain, .plain, .plain] 5 [(0, [], Value.slice b_.ptr b_.len b_.cap), (1, [], Value.int .u8 kind), (2, [], Value.int .u64 n_), (16, [], Value.bool (!v14)), (18, [(16, false)], Value.int .i64 ((b_.len : Nat) : Int))] (by kernel_rfl) (by kernel_rfl) ?_
      refine reg_split 16 (!v14) (by kernel_rfl) (fun hb => ?_) (fun hb => ?_)
      · replace h := h.1 hb
        refine reg_run [] 5 [(0, [], Value.slice b_.ptr b_.len b_.cap), (1, [], Value.int .u8 kind), (2, [], Value.int .u64 n_), (16, [], Value.bool true), (18, [], undef)] (by kernel_rfl) (by kernel_rfl) ?_
        refine reg_run [.skip, .skip, .plain] 8 [(0, [], Value.slice b_.ptr b_.len b_.cap), (1, [], Value.int .u8 kind), (2, [], Value.int .u64 n_), (21, [], Value.bool true)] (by kernel_rfl) (by kernel_rfl) ?_
        refine reg_end [(0, Value.slice b_.ptr b_.len b_.cap), (1, Value.int .u8 kind), (2, Value.int .u64 n_), (21, Value.bool true)] (by kernel_rfl) (by kernel_rfl) ?_
        exact ⟨[(0, Value.slice b_.ptr b_.len b_.cap), (1, Value.int .u8 kind), (2, Value.int .u64 n_), (21, Value.bool true)], Sub.mk (by kernel_rfl), true, rfl, h⟩
      · replace h := h.2 hb
        refine reg_run [] 5 [(0, [], Value.slice b_.ptr b_.len b_.cap), (1, [], Value.int .u8 kind), (2, [], Value.int .u64 n_), (16, [], Value.bool false), (18, [], Value.int .i64 ((b_.len : Nat) : Int))] (by kernel_rfl) (by kernel_rfl) ?_
        refine reg_run [] 5 [(0, [], Value.slice b_.ptr b_.len b_.cap), (1, [], Value.int .u8 kind), (2, [], Value.int .u64 n_), (16, [], Value.bool false), (18, [], Value.int .i64 ((b_.len : Nat) : Int))] (by kernel_rfl) (by kernel_rfl) ?_
        refine reg_new (op := (Go.Op.buildSlice 78 1 #[(0, (Go.Operand.tmp 18))])) (ty := 78) (dst := some 19) (fun bb => Value.slice (some ⟨bb, 0, none⟩) 1 1) (Obj.cells ([Value.int .i64 ((b_.len : Nat) : Int)]).toArray ty_int (0, 0)) (by kernel_rfl) (by kernel_rfl) (fun b_1 w30 hb hw => ?_)
        replace h := h b_1 w30 hb hw
        clear hb hw
        refine reg_run [] 6 [(0, [], Value.slice b_.ptr b_.len b_.cap), (1, [], Value.int .u8 kind), (2, [], Value.int .u64 n_), (16, [], Value.bool false), (19, [], Value.slice (some ⟨b_1, 0, none⟩) 1 1)] (by kernel_rfl) (by kernel_rfl) ?_
        refine reg_enter (op := (Go.Op.call (Go.Call.mk (Go.Callee.value (Go.Operand.func 12)) #[(Go.Operand.tmp 19)] #[78]))) (ty := 4) (dst := some 20) 12 #[Value.slice (some ⟨b_1, 0, none⟩) 1 1] (by kernel_rfl) (fun ww => by kernel_rfl) (Calls.mono h ?_)
        rintro _ w31 ⟨v20, rfl, h⟩
        refine ⟨_, rfl, ?_⟩
        refine reg_run [.plain] 8 [(0, [], Value.slice b_.ptr b_.len b_.cap), (1, [], Value.int .u8 kind), (2, [], Value.int .u64 n_), (21, [], Value.bool v20)] (by kernel_rfl) (by kernel_rfl) ?_
        refine reg_end [(0, Value.slice b_.ptr b_.len b_.cap), (1, Value.int .u8 kind), (2, Value.int .u64 n_), (21, Value.bool v20)] (by kernel_rfl) (by kernel_rfl) ?_
        exact ⟨[(0, Value.slice b_.ptr b_.len b_.cap), (1, Value.int .u8 kind), (2, Value.int .u64 n_), (21, Value.bool v20)], Sub.mk (by kernel_rfl), v20, rfl, h⟩
    · rintro _ w1 ⟨t21, rfl, h⟩
      unfold F_towpathlaw02_CodecOne_k0 at h
      refine wpE_cond (o := (Operand.tmp 21)) (b := t21) (x := c_towpathlaw02_CodecOne_8) (y := c_towpathlaw02_CodecOne_12) (by kernel_rfl) (by kernel_rfl) (fun hb => ?_) (fun hb => ?_)
      · replace h := h.1 hb
        refine wpE_seq (x := c_towpathlaw02_CodecOne_9) (y := c_towpathlaw02_CodecOne_11) (by kernel_rfl) ?_
        refine wpE_region (id := 2) (ops := r_towpathlaw02_CodecOne_9) (by kernel_rfl) ?_
        refine reg_run [] 0 [] (by kernel_rfl) (by kernel_rfl) ?_
        refine reg_enter (op := (Go.Op.call (Go.Call.mk (Go.Callee.value (Go.Operand.func 36)) #[] #[]))) (ty := 4) (dst := some 22) 36 #[] (by kernel_rfl) (fun ww => by kernel_rfl) (Calls.mono h ?_)
        rintro _ w2 ⟨v22, rfl, h⟩
        refine ⟨_, rfl, ?_⟩
        refine reg_run [.plain] 2 [(6, [], Value.bool v22)] (by kernel_rfl) (by kernel_rfl) ?_
        refine reg_end [(6, Value.bool v22)] (by kernel_rfl) (by kernel_rfl) ?_
        change WpE _ _ c_towpathlaw02_CodecOne_11 _ _ _
        refine wpE_ret (by kernel_rfl) ?_
        repeat (first | refine seqQ_ret ?_ | refine blockQ_ret ?_ | refine loopQ_ret ?_ | refine cutQ_ret ?_)
        exact retS (rs := [(Go.ResultVar.tmp 6)]) (v := Value.bool v22) (by kernel_rfl) (⟨by kernel_rfl, trivial⟩) ⟨v22, rfl, h⟩
      · replace h := h.2 hb
        refine wpE_skip (by kernel_rfl) ?_
        change WpE _ _ c_towpathlaw02_CodecOne_13 _ _ _
        refine wpE_seq (x := c_towpathlaw02_CodecOne_14) (y := c_towpathlaw02_CodecOne_16) (by kernel_rfl) ?_
        refine wpE_region (id := 3) (ops := r_towpathlaw02_CodecOne_14) (by kernel_rfl) ?_
        refine reg_run [.plain] 1 [(0, [], Value.slice b_.ptr b_.len b_.cap), (1, [], Value.int .u8 kind), (2, [], Value.int .u64 n_), (23, [], Value.slice b_.ptr b_.len b_.cap)] (by kernel_rfl) (by kernel_rfl) ?_
        refine reg_enter (op := (Go.Op.call (Go.Call.mk (Go.Callee.value (Go.Operand.func 14)) #[(Go.Operand.tmp 23)] #[22]))) (ty := 27) (dst := some 24) 14 #[Value.slice b_.ptr b_.len b_.cap] (by kernel_rfl) (fun ww => by kernel_rfl) (Calls.mono h ?_)
        rintro _ w3 ⟨v24, rfl, h⟩
        refine ⟨_, rfl, ?_⟩
        refine reg_run [.plain] 3 [(0, [], Value.slice b_.ptr b_.len b_.cap), (1, [], Value.int .u8 kind), (2, [], Value.int .u64 n_), (7, [], Value.pointer v24)] (by kernel_rfl) (by kernel_rfl) ?_
        refine reg_end [(0, Value.slice b_.ptr b_.len b_.cap), (1, Value.int .u8 kind), (2, Value.int .u64 n_), (7, Value.pointer v24)] (by kernel_rfl) (by kernel_rfl) ?_
        change WpE _ _ c_towpathlaw02_CodecOne_16 _ _ _
        refine wpE_seq (x := c_towpathlaw02_CodecOne_17) (y := c_towpathlaw02_CodecOne_19) (by kernel_rfl) ?_
        refine wpE_region (id := 4) (ops := r_towpathlaw02_CodecOne_17) (by kernel_rfl) ?_
        refine reg_run [] 0 [(0, [], Value.slice b_.ptr b_.len b_.cap), (1, [], Value.int .u8 kind), (2, [], Value.int .u64 n_), (7, [], Value.pointer v24)] (by kernel_rfl) (by kernel_rfl) ?_
        refine reg_enter (op := (Go.Op.call (Go.Call.mk (Go.Callee.value (Go.Operand.func 33)) #[] #[]))) (ty := 65) (dst := some 25) 33 #[] (by kernel_rfl) (fun ww => by kernel_rfl) (Calls.mono h ?_)
        rintro _ w4 ⟨v25, rfl, h⟩
        refine ⟨_, rfl, ?_⟩
        refine reg_run [.plain] 2 [(0, [], Value.slice b_.ptr b_.len b_.cap), (1, [], Value.int .u8 kind), (2, [], Value.int .u64 n_), (7, [], Value.pointer v24), (8, [], Value.pointer v25)] (by kernel_rfl) (by kernel_rfl) ?_
        refine reg_end [(0, Value.slice b_.ptr b_.len b_.cap), (1, Value.int .u8 kind), (2, Value.int .u64 n_), (7, Value.pointer v24), (8, Value.pointer v25)] (by kernel_rfl) (by kernel_rfl) ?_
        change WpE _ _ c_towpathlaw02_CodecOne_19 _ _ _
        refine wpE_seq_cut (x := c_towpathlaw02_CodecOne_20) (y := c_towpathlaw02_CodecOne_38) (by kernel_rfl) (fun l w => l = [(0, Value.slice b_.ptr b_.len b_.cap), (1, Value.int .u8 kind), (2, Value.int .u64 n_), (7, Value.pointer v24), (8, Value.pointer v25)] ∧ F_towpathlaw02_CodecOne_k1 b_ kind n_ R v24 v25 w) ?_ ?_
        · refine wpE_seq (x := c_towpathlaw02_CodecOne_21) (y := c_towpathlaw02_CodecOne_23) (by kernel_rfl) ?_
          refine wpE_region (id := 5) (ops := r_towpathlaw02_CodecOne_21) (by kernel_rfl) ?_
          refine reg_run [.plain, .plain] 2 [(0, [], Value.slice b_.ptr b_.len b_.cap), (1, [], Value.int .u8 kind), (2, [], Value.int .u64 n_), (7, [], Value.pointer v24), (8, [], Value.pointer v25), (27, [], Value.int .u8 (Int.tmod kind 3))] (by kernel_rfl) (by kernel_rfl) ?_
          refine reg_end [(0, Value.slice b_.ptr b_.len b_.cap), (1, Value.int .u8 kind), (2, Value.int .u64 n_), (7, Value.pointer v24), (8, Value.pointer v25), (27, Value.int .u8 (Int.tmod kind 3))] (by kernel_rfl) (by kernel_rfl) ?_
          change WpE _ _ c_towpathlaw02_CodecOne_23 _ _ _
          refine wpE_block (id := 0) (x := c_towpathlaw02_CodecOne_24) (by kernel_rfl) ?_
          refine wpE_seq (x := c_towpathlaw02_CodecOne_25) (y := c_towpathlaw02_CodecOne_27) (by kernel_rfl) ?_
          refine wpE_region (id := 7) (ops := r_towpathlaw02_CodecOne_25) (by kernel_rfl) ?_
          refine reg_run [.plain, .plain] 2 [(0, [], Value.slice b_.ptr b_.len b_.cap), (1, [], Value.int .u8 kind), (2, [], Value.int .u64 n_), (7, [], Value.pointer v24), (8, [], Value.pointer v25), (27, [], Value.int .u8 (Int.tmod kind 3)), (34, [], Value.bool ((Int.tmod kind 3) == 0))] (by kernel_rfl) (by kernel_rfl) ?_
          refine reg_end [(0, Value.slice b_.ptr b_.len b_.cap), (1, Value.int .u8 kind), (2, Value.int .u64 n_), (7, Value.pointer v24), (8, Value.pointer v25), (27, Value.int .u8 (Int.tmod kind 3)), (34, Value.bool ((Int.tmod kind 3) == 0))] (by kernel_rfl) (by kernel_rfl) ?_
          change WpE _ _ c_towpathlaw02_CodecOne_27 _ _ _
          refine wpE_cond (o := (Operand.tmp 34)) (b := ((Int.tmod kind 3) == 0)) (x := c_towpathlaw02_CodecOne_28) (y := c_towpathlaw02_CodecOne_30) (by kernel_rfl) (by kernel_rfl) (fun hb => ?_) (fun hb => ?_)
          · replace h := h.1 hb
            refine wpE_region (id := 8) (ops := r_towpathlaw02_CodecOne_28) (by kernel_rfl) ?_
            refine reg_run [.plain, .plain] 2 [(0, [], Value.slice b_.ptr b_.len b_.cap), (1, [], Value.int .u8 kind), (2, [], Value.int .u64 n_), (7, [], Value.pointer v24), (8, [], Value.pointer v25), (36, [], Value.pointer v25), (37, [], Value.pointer v24)] (by kernel_rfl) (by kernel_rfl) ?_
            refine reg_enter (op := (Go.Op.call (Go.Call.mk (Go.Callee.value (Go.Operand.func 37)) #[(Go.Operand.tmp 37)] #[27]))) (ty := 35) (dst := some 38) 37 #[Value.pointer v24] (by kernel_rfl) (fun ww => by kernel_rfl) (Calls.mono h ?_)
            rintro _ w23 ⟨v38, rfl, h⟩
            refine ⟨_, rfl, ?_⟩
            refine reg_run [] 3 [(0, [], Value.slice b_.ptr b_.len b_.cap), (1, [], Value.int .u8 kind), (2, [], Value.int .u64 n_), (7, [], Value.pointer v24), (8, [], Value.pointer v25), (36, [], Value.pointer v25), (38, [], Value.int .u64 v38)] (by kernel_rfl) (by kernel_rfl) ?_
            refine reg_enter (op := (Go.Op.call (Go.Call.mk (Go.Callee.value (Go.Operand.func 34)) #[(Go.Operand.tmp 36), (Go.Operand.tmp 38)] #[65, 35]))) (ty := 0) (dst := some 39) 34 #[Value.pointer v25, Value.int .u64 v38] (by kernel_rfl) (fun ww => by kernel_rfl) (Calls.mono h ?_)
            rintro _ w24 ⟨rfl, h⟩
            refine ⟨_, rfl, ?_⟩
            refine reg_end [(0, Value.slice b_.ptr b_.len b_.cap), (1, Value.int .u8 kind), (2, Value.int .u64 n_), (7, Value.pointer v24), (8, Value.pointer v25)] (by kernel_rfl) (by kernel_rfl) ?_
            exact ⟨[(0, Value.slice b_.ptr b_.len b_.cap), (1, Value.int .u8 kind), (2, Value.int .u64 n_), (7, Value.pointer v24), (8, Value.pointer v25)], Sub.mk (by kernel_rfl), rfl, h⟩
          · replace h := h.2 hb
            refine wpE_seq (x := c_towpathlaw02_CodecOne_31) (y := c_towpathlaw02_CodecOne_33) (by kernel_rfl) ?_
            refine wpE_region (id := 9) (ops := r_towpathlaw02_CodecOne_31) (by kernel_rfl) ?_
            refine reg_run [.plain, .plain] 2 [(0, [], Value.slice b_.ptr b_.len b_.cap), (1, [], Value.int .u8 kind), (2, [], Value.int .u64 n_), (7, [], Value.pointer v24), (8, [], Value.pointer v25), (40, [], Value.bool ((Int.tmod kind 3) == 1))] (by kernel_rfl) (by kernel_rfl) ?_
            refine reg_end [(0, Value.slice b_.ptr b_.len b_.cap), (1, Value.int .u8 kind), (2, Value.int .u64 n_), (7, Value.pointer v24), (8, Value.pointer v25), (40, Value.bool ((Int.tmod kind 3) == 1))] (by kernel_rfl) (by kernel_rfl) ?_
            change WpE _ _ c_towpathlaw02_CodecOne_33 _ _ _
            refine wpE_cond (o := (Operand.tmp 40)) (b := ((Int.tmod kind 3) == 1)) (x := c_towpathlaw02_CodecOne_34) (y := c_towpathlaw02_CodecOne_36) (by kernel_rfl) (by kernel_rfl) (fun hb => ?_) (fun hb => ?_)
            · replace h := h.1 hb
              refine wpE_region (id := 10) (ops := r_towpathlaw02_CodecOne_34) (by kernel_rfl) ?_
              refine reg_run [.plain, .plain] 2 [(0, [], Value.slice b_.ptr b_.len b_.cap), (1, [], Value.int .u8 kind), (2, [], Value.int .u64 n_), (7, [], Value.pointer v24), (8, [], Value.pointer v25), (42, [], Value.pointer v25), (43, [], Value.pointer v24)] (by kernel_rfl) (by kernel_rfl) ?_
              refine reg_enter (op := (Go.Op.call (Go.Call.mk (Go.Callee.value (Go.Operand.func 39)) #[(Go.Operand.tmp 43)] #[27]))) (ty := 2) (dst := some 44) 39 #[Value.pointer v24] (by kernel_rfl) (fun ww => by kernel_rfl) (Calls.mono h ?_)
              rintro _ w25 ⟨v44, rfl, h⟩
              refine ⟨_, rfl, ?_⟩
              refine reg_run [] 3 [(0, [], Value.slice b_.ptr b_.len b_.cap), (1, [], Value.int .u8 kind), (2, [], Value.int .u64 n_), (7, [], Value.pointer v24), (8, [], Value.pointer v25), (42, [], Value.pointer v25), (44, [], Value.int .i64 v44)] (by kernel_rfl) (by kernel_rfl) ?_
              refine reg_enter (op := (Go.Op.call (Go.Call.mk (Go.Callee.value (Go.Operand.func 38)) #[(Go.Operand.tmp 42), (Go.Operand.tmp 44)] #[65, 2]))) (ty := 0) (dst := some 45) 38 #[Value.pointer v25, Value.int .i64 v44] (by kernel_rfl) (fun ww => by kernel_rfl) (Calls.mono h ?_)
              rintro _ w26 ⟨rfl, h⟩
              refine ⟨_, rfl, ?_⟩
              refine reg_end [(0, Value.slice b_.ptr b_.len b_.cap), (1, Value.int .u8 kind), (2, Value.int .u64 n_), (7, Value.pointer v24), (8, Value.pointer v25)] (by kernel_rfl) (by kernel_rfl) ?_
              exact ⟨[(0, Value.slice b_.ptr b_.len b_.cap), (1, Value.int .u8 kind), (2, Value.int .u64 n_), (7, Value.pointer v24), (8, Value.pointer v25)], Sub.mk (by kernel_rfl), rfl, h⟩
            · replace h := h.2 hb
              refine wpE_region (id := 6) (ops := r_towpathlaw02_CodecOne_36) (by kernel_rfl) ?_
              refine reg_run [.plain, .plain, .plain, .plain] 4 [(0, [], Value.slice b_.ptr b_.len b_.cap), (1, [], Value.int .u8 kind), (2, [], Value.int .u64 n_), (7, [], Value.pointer v24), (8, [], Value.pointer v25), (28, [], Value.pointer v25), (29, [], Value.pointer v24), (31, [], Value.int .i64 ((b_.len : Nat) : Int))] (by kernel_rfl) (by kernel_rfl) ?_
              refine reg_enter (op := (Go.Op.call (Go.Call.mk (Go.Callee.value (Go.Operand.func 41)) #[(Go.Operand.tmp 29), (Go.Operand.tmp 31)] #[27, 3]))) (ty := 9) (dst := some 32) 41 #[Value.pointer v24, Value.int .i64 ((b_.len : Nat) : Int)] (by kernel_rfl) (fun ww => by kernel_rfl) (Calls.mono h ?_)
              rintro _ w27 ⟨v32, rfl, h⟩
              refine ⟨_, rfl, ?_⟩
              refine reg_run [] 5 [(0, [], Value.slice b_.ptr b_.len b_.cap), (1, [], Value.int .u8 kind), (2, [], Value.int .u64 n_), (7, [], Value.pointer v24), (8, [], Value.pointer v25), (28, [], Value.pointer v25), (32, [], Value.string v32)] (by kernel_rfl) (by kernel_rfl) ?_
              refine reg_enter (op := (Go.Op.call (Go.Call.mk (Go.Callee.value (Go.Operand.func 40)) #[(Go.Operand.tmp 28), (Go.Operand.tmp 32)] #[65, 9]))) (ty := 0) (dst := some 33) 40 #[Value.pointer v25, Value.string v32] (by kernel_rfl) (fun ww => by kernel_rfl) (Calls.mono h ?_)
              rintro _ w28 ⟨rfl, h⟩
              refine ⟨_, rfl, ?_⟩
              refine reg_end [(0, Value.slice b_.ptr b_.len b_.cap), (1, Value.int .u8 kind), (2, Value.int .u64 n_), (7, Value.pointer v24), (8, Value.pointer v25)] (by kernel_rfl) (by kernel_rfl) ?_
              exact ⟨[(0, Value.slice b_.ptr b_.len b_.cap), (1, Value.int .u8 kind), (2, Value.int .u64 n_), (7, Value.pointer v24), (8, Value.pointer v25)], Sub.mk (by kernel_rfl), rfl, h⟩
        · rintro _ w5 ⟨rfl, h⟩
          unfold F_towpathlaw02_CodecOne_k1 at h
          refine wpE_seq (x := c_towpathlaw02_CodecOne_39) (y := c_towpathlaw02_CodecOne_41) (by kernel_rfl) ?_
          refine wpE_region (id := 11) (ops := r_towpathlaw02_CodecOne_39) (by kernel_rfl) ?_
          refine reg_run [.plain, .plain, .plain] 3 [(0, [], Value.slice b_.ptr b_.len b_.cap), (1, [], Value.int .u8 kind), (2, [], Value.int .u64 n_), (7, [], Value.pointer v24), (8, [], Value.pointer v25), (47, [], Value.int .i64 ((b_.len : Nat) : Int)), (48, [], Value.pointer v24)] (by kernel_rfl) (by kernel_rfl) ?_
          refine reg_enter (op := (Go.Op.call (Go.Call.mk (Go.Callee.value (Go.Operand.func 17)) #[(Go.Operand.tmp 48)] #[27]))) (ty := 3) (dst := some 49) 17 #[Value.pointer v24] (by kernel_rfl) (fun ww => by kernel_rfl) (Calls.mono h ?_)
          rintro _ w6 ⟨v49, rfl, h⟩
          refine ⟨_, rfl, ?_⟩
          refine reg_run [.plain, .plain] 6 [(0, [], Value.slice b_.ptr b_.len b_.cap), (1, [], Value.int .u8 kind), (2, [], Value.int .u64 n_), (7, [], Value.pointer v24), (8, [], Value.pointer v25), (9, [], Value.int .i64 (IntKind.i64.wrap (((b_.len : Nat) : Int) - v49)))] (by kernel_rfl) (by kernel_rfl) ?_
          refine reg_end [(0, Value.slice b_.ptr b_.len b_.cap), (1, Value.int .u8 kind), (2, Value.int .u64 n_), (7, Value.pointer v24), (8, Value.pointer v25), (9, Value.int .i64 (IntKind.i64.wrap (((b_.len : Nat) : Int) - v49)))] (by kernel_rfl) (by kernel_rfl) ?_
          change WpE _ _ c_towpathlaw02_CodecOne_41 _ _ _
          refine wpE_seq (x := c_towpathlaw02_CodecOne_42) (y := c_towpathlaw02_CodecOne_51) (by kernel_rfl) ?_
          refine wpE_seq_cut (x := c_towpathlaw02_CodecOne_43) (y := c_towpathlaw02_CodecOne_45) (by kernel_rfl) (fun l w => ∃ (t85 : Bool), l = [(2, Value.int .u64 n_), (85, Value.bool t85)] ∧ F_towpathlaw02_CodecOne_k2 n_ R t85 w) ?_ ?_
          · refine wpE_mixregion (id := 12) (ops := r_towpathlaw02_CodecOne_43) o_towpathlaw02_CodecOne_43 (by kernel_rfl) (by kernel_rfl) (by kernel_rfl) (by kernel_rfl) (fun w16 hw => ?_)
            replace h := h w16 hw
            clear hw
            refine mreg_run [.plain, .plain, .plain, .plain, .plain, .plain] 6 [(0, [], Value.slice b_.ptr b_.len b_.cap), (1, [], Value.int .u8 kind), (2, [], Value.int .u64 n_), (7, [], Value.pointer v24), (9, [], Value.int .i64 (IntKind.i64.wrap (((b_.len : Nat) : Int) - v49))), (53, [], Value.bool (decide ((IntKind.i64.wrap (((b_.len : Nat) : Int) - v49)) > 0))), (54, [(53, true)], Value.pointer v25), (56, [(53, true)], Value.slice b_.ptr b_.len b_.cap), (57, [(53, true)], Value.int .i64 (IntKind.i64.wrap (((b_.len : Nat) : Int) - v49)))] (by kernel_rfl) (by kernel_rfl) ?_
            refine mreg_split 53 (decide ((IntKind.i64.wrap (((b_.len : Nat) : Int) - v49)) > 0)) (by kernel_rfl) (fun hb => ?_) (fun hb => ?_)
            · replace h := h.1 hb
              refine mreg_run [] 6 [(0, [], Value.slice b_.ptr b_.len b_.cap), (1, [], Value.int .u8 kind), (2, [], Value.int .u64 n_), (7, [], Value.pointer v24), (9, [], Value.int .i64 (IntKind.i64.wrap (((b_.len : Nat) : Int) - v49))), (53, [], Value.bool true), (54, [], Value.pointer v25), (56, [], Value.slice b_.ptr b_.len b_.cap), (57, [], Value.int .i64 (IntKind.i64.wrap (((b_.len : Nat) : Int) - v49)))] (by kernel_rfl) (by kernel_rfl) ?_
              refine mreg_run [] 6 [(0, [], Value.slice b_.ptr b_.len b_.cap), (1, [], Value.int .u8 kind), (2, [], Value.int .u64 n_), (7, [], Value.pointer v24), (9, [], Value.int .i64 (IntKind.i64.wrap (((b_.len : Nat) : Int) - v49))), (53, [], Value.bool true), (54, [], Value.pointer v25), (56, [], Value.slice b_.ptr b_.len b_.cap), (57, [], Value.int .i64 (IntKind.i64.wrap (((b_.len : Nat) : Int) - v49)))] (by kernel_rfl) (by kernel_rfl) ?_
              obtain ⟨h0, h1, h⟩ := h
              refine mreg_sliceHi (i := 7) (by kernel_rfl) (t := 22) (e := 5) (x := (Go.Operand.tmp 56)) (hi := (Go.Operand.tmp 57)) (p := b_.ptr) (l := b_.len) (c := b_.cap) (sz := 1) (k := .i64) (j := (IntKind.i64.wrap (((b_.len : Nat) : Int) - v49))) (ty := 22) (dst := some 58) (by kernel_rfl) (by kernel_rfl) (by kernel_rfl) (by kernel_rfl) (by kernel_rfl) h0 h1 ?_
              refine mreg_run [] 7 [(0, [], Value.slice b_.ptr b_.len b_.cap), (1, [], Value.int .u8 kind), (2, [], Value.int .u64 n_), (7, [], Value.pointer v24), (9, [], Value.int .i64 (IntKind.i64.wrap (((b_.len : Nat) : Int) - v49))), (53, [], Value.bool true), (54, [], Value.pointer v25), (58, [], Value.slice b_.ptr ((IntKind.i64.wrap (((b_.len : Nat) : Int) - v49)).toNat) b_.cap)] (by kernel_rfl) (by kernel_rfl) ?_
              refine mreg_enter (op := (Go.Op.call (Go.Call.mk (Go.Callee.value (Go.Operand.func 35)) #[(Go.Operand.tmp 54)] #[65]))) (ty := 22) (dst := some 55) 4 [2, 3, 1, 0] [] 35 #[Value.pointer v25] (by kernel_rfl) (by kernel_rfl) (by kernel_rfl) (by kernel_rfl) (by kernel_rfl) (fun ww => by kernel_rfl) (Calls.mono h ?_)
              rintro _ w17 ⟨v55, rfl, h⟩
              refine ⟨_, rfl, trivial, ?_⟩
              refine mreg_run [] 8 [(0, [], Value.slice b_.ptr b_.len b_.cap), (1, [], Value.int .u8 kind), (2, [], Value.int .u64 n_), (7, [], Value.pointer v24), (9, [], Value.int .i64 (IntKind.i64.wrap (((b_.len : Nat) : Int) - v49))), (53, [], Value.bool true), (55, [], Value.slice v55.ptr v55.len v55.cap), (58, [], Value.slice b_.ptr ((IntKind.i64.wrap (((b_.len : Nat) : Int) - v49)).toNat) b_.cap)] (by kernel_rfl) (by kernel_rfl) ?_
              refine mreg_enter (op := (Go.Op.call (Go.Call.mk (Go.Callee.value (Go.Operand.func 30)) #[(Go.Operand.tmp 55), (Go.Operand.tmp 58)] #[22, 22]))) (ty := 4) (dst := some 59) 8 [2, 4, 7, 1, 3, 5, 6, 0] [] 30 #[Value.slice v55.ptr v55.len v55.cap, Value.slice b_.ptr ((IntKind.i64.wrap (((b_.len : Nat) : Int) - v49)).toNat) b_.cap] (by kernel_rfl) (by kernel_rfl) (by kernel_rfl) (by kernel_rfl) (by kernel_rfl) (fun ww => by kernel_rfl) (Calls.mono h ?_)
              rintro _ w18 ⟨v59, rfl, h⟩
              refine ⟨_, rfl, trivial, ?_⟩
              refine mreg_run [.sure, .plain, .plain, .plain, .plain, .plain, .plain] 16 [(0, [], Value.slice b_.ptr b_.len b_.cap), (1, [], Value.int .u8 kind), (2, [], Value.int .u64 n_), (7, [], Value.pointer v24), (62, [], Value.bool (!v59)), (65, [(62, false)], Value.bool ((IntKind.i64.wrap (((b_.len : Nat) : Int) - v49)) == 0)), (66, [(65, true), (62, false)], Value.pointer v24)] (by kernel_rfl) (by kernel_rfl) ?_
              refine mreg_split 62 (!v59) (by kernel_rfl) (fun hb => ?_) (fun hb => ?_)
              · replace h := h.1 hb
                refine mreg_run [] 16 [(0, [], Value.slice b_.ptr b_.len b_.cap), (1, [], Value.int .u8 kind), (2, [], Value.int .u64 n_), (7, [], Value.pointer v24), (62, [], Value.bool true), (65, [], undef), (66, [], undef)] (by kernel_rfl) (by kernel_rfl) ?_
                refine mreg_run [.skip, .skip, .skip, .skip, .skip, .skip, .skip, .skip, .skip, .skip, .skip, .skip, .skip, .skip, .skip, .skip, .skip, .skip, .plain] 35 [(2, [], Value.int .u64 n_), (85, [], Value.bool true)] (by kernel_rfl) (by kernel_rfl) ?_
                refine mreg_end [(2, Value.int .u64 n_), (85, Value.bool true)] (by kernel_rfl) (by kernel_rfl) (by kernel_rfl) ?_
                exact ⟨[(2, Value.int .u64 n_), (85, Value.bool true)], Sub.mk (by kernel_rfl), true, rfl, h⟩
              · replace h := h.2 hb
                refine mreg_run [] 16 [(0, [], Value.slice b_.ptr b_.len b_.cap), (1, [], Value.int .u8 kind), (2, [], Value.int .u64 n_), (7, [], Value.pointer v24), (62, [], Value.bool false), (65, [], Value.bool ((IntKind.i64.wrap (((b_.len : Nat) : Int) - v49)) == 0)), (66, [(65, true)], Value.pointer v24)] (by kernel_rfl) (by kernel_rfl) ?_
                refine mreg_run [] 16 [(0, [], Value.slice b_.ptr b_.len b_.cap), (1, [], Value.int .u8 kind), (2, [], Value.int .u64 n_), (7, [], Value.pointer v24), (62, [], Value.bool false), (65, [], Value.bool ((IntKind.i64.wrap (((b_.len : Nat) : Int) - v49)) == 0)), (66, [(65, true)], Value.pointer v24)] (by kernel_rfl) (by kernel_rfl) ?_
                refine mreg_split 65 ((IntKind.i64.wrap (((b_.len : Nat) : Int) - v49)) == 0) (by kernel_rfl) (fun hb => ?_) (fun hb => ?_)
                · replace h := h.1 hb
                  refine mreg_run [] 16 [(0, [], Value.slice b_.ptr b_.len b_.cap), (1, [], Value.int .u8 kind), (2, [], Value.int .u64 n_), (7, [], Value.pointer v24), (62, [], Value.bool false), (65, [], Value.bool true), (66, [], Value.pointer v24)] (by kernel_rfl) (by kernel_rfl) ?_
                  refine mreg_run [] 16 [(0, [], Value.slice b_.ptr b_.len b_.cap), (1, [], Value.int .u8 kind), (2, [], Value.int .u64 n_), (7, [], Value.pointer v24), (62, [], Value.bool false), (65, [], Value.bool true), (66, [], Value.pointer v24)] (by kernel_rfl) (by kernel_rfl) ?_
                  refine mreg_enter (op := (Go.Op.call (Go.Call.mk (Go.Callee.value (Go.Operand.func 19)) #[(Go.Operand.tmp 66)] #[27]))) (ty := 30) (dst := some 67) 16 [14, 15, 11, 13, 8, 10, 12, 2, 4, 7, 9, 1, 3, 5, 6, 0] [] 19 #[Value.pointer v24] (by kernel_rfl) (by kernel_rfl) (by kernel_rfl) (by kernel_rfl) (by kernel_rfl) (fun ww => by kernel_rfl) (Calls.mono h ?_)
                  rintro _ w19 ⟨v67, rfl, h⟩
                  refine ⟨_, rfl, trivial, ?_⟩
                  refine mreg_run [.sure, .sure, .plain] 20 [(0, [], Value.slice b_.ptr b_.len b_.cap), (1, [], Value.int .u8 kind), (2, [], Value.int .u64 n_), (62, [], Value.bool false), (65, [], Value.bool true), (69, [], Value.bool (v67 == 0)), (70, [(69, false)], Value.pointer v24)] (by kernel_rfl) (by kernel_rfl) ?_
                  refine mreg_split 69 (v67 == 0) (by kernel_rfl) (fun hb => ?_) (fun hb => ?_)
                  · replace h := h.1 hb
                    refine mreg_run [] 20 [(0, [], Value.slice b_.ptr b_.len b_.cap), (1, [], Value.int .u8 kind), (2, [], Value.int .u64 n_), (62, [], Value.bool false), (65, [], Value.bool true), (69, [], Value.bool true), (70, [], undef)] (by kernel_rfl) (by kernel_rfl) ?_
                    refine mreg_run [.skip, .skip, .sure, .sure, .sure, .sure, .sure, .sure, .sure, .sure, .plain, .plain, .plain, .spick, .plain] 35 [(2, [], Value.int .u64 n_), (85, [], Value.bool ((decide (((b_.len : Nat) : Int) > 0)) && ((Int.tmod kind 3) != 2)))] (by kernel_rfl) (by kernel_rfl) ?_
                    refine mreg_end [(2, Value.int .u64 n_), (85, Value.bool ((decide (((b_.len : Nat) : Int) > 0)) && ((Int.tmod kind 3) != 2)))] (by kernel_rfl) (by kernel_rfl) (by kernel_rfl) ?_
                    exact ⟨[(2, Value.int .u64 n_), (85, Value.bool ((decide (((b_.len : Nat) : Int) > 0)) && ((Int.tmod kind 3) != 2)))], Sub.mk (by kernel_rfl), ((decide (((b_.len : Nat) : Int) > 0)) && ((Int.tmod kind 3) != 2)), rfl, h⟩
                  · replace h := h.2 hb
                    refine mreg_run [] 20 [(0, [], Value.slice b_.ptr b_.len b_.cap), (1, [], Value.int .u8 kind), (2, [], Value.int .u64 n_), (62, [], Value.bool false), (65, [], Value.bool true), (69, [], Value.bool false), (70, [], Value.pointer v24)] (by kernel_rfl) (by kernel_rfl) ?_
                    refine mreg_run [] 20 [(0, [], Value.slice b_.ptr b_.len b_.cap), (1, [], Value.int .u8 kind), (2, [], Value.int .u64 n_), (62, [], Value.bool false), (65, [], Value.bool true), (69, [], Value.bool false), (70, [], Value.pointer v24)] (by kernel_rfl) (by kernel_rfl) ?_
                    refine mreg_enter (op := (Go.Op.call (Go.Call.mk (Go.Callee.value (Go.Operand.func 19)) #[(Go.Operand.tmp 70)] #[27]))) (ty := 30) (dst := some 71) 20 [18, 19, 14, 16, 17, 11, 13, 15, 8, 10, 12, 2, 4, 7, 9, 1, 3, 5, 6, 0] [] 19 #[Value.pointer v24] (by kernel_rfl) (by kernel_rfl) (by kernel_rfl) (by kernel_rfl) (by kernel_rfl) (fun ww => by kernel_rfl) (Calls.mono h ?_)
                    rintro _ w20 ⟨v71, rfl, h⟩
                    refine ⟨_, rfl, trivial, ?_⟩
                    refine mreg_run [.sure, .sure, .sure, .sure, .plain, .plain, .plain, .spick, .sure, .plain, .plain, .plain, .spick, .plain] 35 [(2, [], Value.int .u64 n_), (85, [], Value.bool (((v71 == 3) && (decide (((b_.len : Nat) : Int) > 0))) && ((Int.tmod kind 3) != 2)))] (by kernel_rfl) (by kernel_rfl) ?_
                    refine mreg_end [(2, Value.int .u64 n_), (85, Value.bool (((v71 == 3) && (decide (((b_.len : Nat) : Int) > 0))) && ((Int.tmod kind 3) != 2)))] (by kernel_rfl) (by kernel_rfl) (by kernel_rfl) ?_
                    exact ⟨[(2, Value.int .u64 n_), (85, Value.bool (((v71 == 3) && (decide (((b_.len : Nat) : Int) > 0))) && ((Int.tmod kind 3) != 2)))], Sub.mk (by kernel_rfl), (((v71 == 3) && (decide (((b_.len : Nat) : Int) > 0))) && ((Int.tmod kind 3) != 2)), rfl, h⟩
                · replace h := h.2 hb
                  refine mreg_run [] 16 [(0, [], Value.slice b_.ptr b_.len b_.cap), (1, [], Value.int .u8 kind), (2, [], Value.int .u64 n_), (7, [], Value.pointer v24), (62, [], Value.bool false), (65, [], Value.bool false), (66, [], undef)] (by kernel_rfl) (by kernel_rfl) ?_
                  refine mreg_run [.skip, .skip, .skip, .skip, .skip, .skip, .skip, .sure, .sure, .skip, .skip, .skip, .sure, .sure, .skip, .skip, .skip, .sure, .plain] 35 [(2, [], Value.int .u64 n_), (85, [], Value.bool false)] (by kernel_rfl) (by kernel_rfl) ?_
                  refine mreg_end [(2, Value.int .u64 n_), (85, Value.bool false)] (by kernel_rfl) (by kernel_rfl) (by kernel_rfl) ?_
                  exact ⟨[(2, Value.int .u64 n_), (85, Value.bool false)], Sub.mk (by kernel_rfl), false, rfl, h⟩
            · replace h := h.2 hb
              refine mreg_run [] 6 [(0, [], Value.slice b_.ptr b_.len b_.cap), (1, [], Value.int .u8 kind), (2, [], Value.int .u64 n_), (7, [], Value.pointer v24), (9, [], Value.int .i64 (IntKind.i64.wrap (((b_.len : Nat) : Int) - v49))), (53, [], Value.bool false), (54, [], undef), (56, [], undef), (57, [], undef)] (by kernel_rfl) (by kernel_rfl) ?_
              refine mreg_run [.skip, .skip, .skip, .skip, .plain, .plain, .sure, .sure, .sure, .plain] 16 [(0, [], Value.slice b_.ptr b_.len b_.cap), (1, [], Value.int .u8 kind), (2, [], Value.int .u64 n_), (7, [], Value.pointer v24), (62, [], Value.bool false), (65, [], Value.bool ((IntKind.i64.wrap (((b_.len : Nat) : Int) - v49)) == 0)), (66, [(65, true)], Value.pointer v24)] (by kernel_rfl) (by kernel_rfl) ?_
              refine mreg_split 65 ((IntKind.i64.wrap (((b_.len : Nat) : Int) - v49)) == 0) (by kernel_rfl) (fun hb => ?_) (fun hb => ?_)
              · replace h := h.1 hb
                refine mreg_run [] 16 [(0, [], Value.slice b_.ptr b_.len b_.cap), (1, [], Value.int .u8 kind), (2, [], Value.int .u64 n_), (7, [], Value.pointer v24), (62, [], Value.bool false), (65, [], Value.bool true), (66, [], Value.pointer v24)] (by kernel_rfl) (by kernel_rfl) ?_
                refine mreg_run [] 16 [(0, [], Value.slice b_.ptr b_.len b_.cap), (1, [], Value.int .u8 kind), (2, [], Value.int .u64 n_), (7, [], Value.pointer v24), (62, [], Value.bool false), (65, [], Value.bool true), (66, [], Value.pointer v24)] (by kernel_rfl) (by kernel_rfl) ?_
                refine mreg_enter (op := (Go.Op.call (Go.Call.mk (Go.Callee.value (Go.Operand.func 19)) #[(Go.Operand.tmp 66)] #[27]))) (ty := 30) (dst := some 67) 16 [14, 15, 11, 13, 8, 10, 12, 2, 4, 7, 9, 1, 3, 5, 6, 0] [] 19 #[Value.pointer v24] (by kernel_rfl) (by kernel_rfl) (by kernel_rfl) (by kernel_rfl) (by kernel_rfl) (fun ww => by kernel_rfl) (Calls.mono h ?_)
                rintro _ w21 ⟨v671, rfl, h⟩
                refine ⟨_, rfl, trivial, ?_⟩
                refine mreg_run [.sure, .sure, .plain] 20 [(0, [], Value.slice b_.ptr b_.len b_.cap), (1, [], Value.int .u8 kind), (2, [], Value.int .u64 n_), (62, [], Value.bool false), (65, [], Value.bool true), (69, [], Value.bool (v671 == 0)), (70, [(69, false)], Value.pointer v24)] (by kernel_rfl) (by kernel_rfl) ?_
                refine mreg_split 69 (v671 == 0) (by kernel_rfl) (fun hb => ?_) (fun hb => ?_)
                · replace h := h.1 hb
                  refine mreg_run [] 20 [(0, [], Value.slice b_.ptr b_.len b_.cap), (1, [], Value.int .u8 kind), (2, [], Value.int .u64 n_), (62, [], Value.bool false), (65, [], Value.bool true), (69, [], Value.bool true), (70, [], undef)] (by kernel_rfl) (by kernel_rfl) ?_
                  refine mreg_run [.skip, .skip, .sure, .sure, .sure, .sure, .sure, .sure, .sure, .sure, .plain, .plain, .plain, .spick, .plain] 35 [(2, [], Value.int .u64 n_), (85, [], Value.bool ((decide (((b_.len : Nat) : Int) > 0)) && ((Int.tmod kind 3) != 2)))] (by kernel_rfl) (by kernel_rfl) ?_
                  refine mreg_end [(2, Value.int .u64 n_), (85, Value.bool ((decide (((b_.len : Nat) : Int) > 0)) && ((Int.tmod kind 3) != 2)))] (by kernel_rfl) (by kernel_rfl) (by kernel_rfl) ?_
                  exact ⟨[(2, Value.int .u64 n_), (85, Value.bool ((decide (((b_.len : Nat) : Int) > 0)) && ((Int.tmod kind 3) != 2)))], Sub.mk (by kernel_rfl), ((decide (((b_.len : Nat) : Int) > 0)) && ((Int.tmod kind 3) != 2)), rfl, h⟩
                · replace h := h.2 hb
                  refine mreg_run [] 20 [(0, [], Value.slice b_.ptr b_.len b_.cap), (1, [], Value.int .u8 kind), (2, [], Value.int .u64 n_), (62, [], Value.bool false), (65, [], Value.bool true), (69, [], Value.bool false), (70, [], Value.pointer v24)] (by kernel_rfl) (by kernel_rfl) ?_
                  refine mreg_run [] 20 [(0, [], Value.slice b_.ptr b_.len b_.cap), (1, [], Value.int .u8 kind), (2, [], Value.int .u64 n_), (62, [], Value.bool false), (65, [], Value.bool true), (69, [], Value.bool false), (70, [], Value.pointer v24)] (by kernel_rfl) (by kernel_rfl) ?_
                  refine mreg_enter (op := (Go.Op.call (Go.Call.mk (Go.Callee.value (Go.Operand.func 19)) #[(Go.Operand.tmp 70)] #[27]))) (ty := 30) (dst := some 71) 20 [18, 19, 14, 16, 17, 11, 13, 15, 8, 10, 12, 2, 4, 7, 9, 1, 3, 5, 6, 0] [] 19 #[Value.pointer v24] (by kernel_rfl) (by kernel_rfl) (by kernel_rfl) (by kernel_rfl) (by kernel_rfl) (fun ww => by kernel_rfl) (Calls.mono h ?_)
                  rintro _ w22 ⟨v711, rfl, h⟩
                  refine ⟨_, rfl, trivial, ?_⟩
                  refine mreg_run [.sure, .sure, .sure, .sure, .plain, .plain, .plain, .spick, .sure, .plain, .plain, .plain, .spick, .plain] 35 [(2, [], Value.int .u64 n_), (85, [], Value.bool (((v711 == 3) && (decide (((b_.len : Nat) : Int) > 0))) && ((Int.tmod kind 3) != 2)))] (by kernel_rfl) (by kernel_rfl) ?_
                  refine mreg_end [(2, Value.int .u64 n_), (85, Value.bool (((v711 == 3) && (decide (((b_.len : Nat) : Int) > 0))) && ((Int.tmod kind 3) != 2)))] (by kernel_rfl) (by kernel_rfl) (by kernel_rfl) ?_
                  exact ⟨[(2, Value.int .u64 n_), (85, Value.bool (((v711 == 3) && (decide (((b_.len : Nat) : Int) > 0))) && ((Int.tmod kind 3) != 2)))], Sub.mk (by kernel_rfl), (((v711 == 3) && (decide (((b_.len : Nat) : Int) > 0))) && ((Int.tmod kind 3) != 2)), rfl, h⟩
              · replace h := h.2 hb
                refine mreg_run [] 16 [(0, [], Value.slice b_.ptr b_.len b_.cap), (1, [], Value.int .u8 kind), (2, [], Value.int .u64 n_), (7, [], Value.pointer v24), (62, [], Value.bool false), (65, [], Value.bool false), (66, [], undef)] (by kernel_rfl) (by kernel_rfl) ?_
                refine mreg_run [.skip, .skip, .skip, .skip, .skip, .skip, .skip, .sure, .sure, .skip, .skip, .skip, .sure, .sure, .skip, .skip, .skip, .sure, .plain] 35 [(2, [], Value.int .u64 n_), (85, [], Value.bool false)] (by kernel_rfl) (by kernel_rfl) ?_
                refine mreg_end [(2, Value.int .u64 n_), (85, Value.bool false)] (by kernel_rfl) (by kernel_rfl) (by kernel_rfl) ?_
                exact ⟨[(2, Value.int .u64 n_), (85, Value.bool false)], Sub.mk (by kernel_rfl), false, rfl, h⟩
          · rintro _ w7 ⟨t85, rfl, h⟩
            unfold F_towpathlaw02_CodecOne_k2 at h
            refine wpE_cond (o := (Operand.tmp 85)) (b := t85) (x := c_towpathlaw02_CodecOne_46) (y := c_towpathlaw02_CodecOne_50) (by kernel_rfl) (by kernel_rfl) (fun hb => ?_) (fun hb => ?_)
            · replace h := h.1 hb
              refine wpE_seq (x := c_towpathlaw02_CodecOne_47) (y := c_towpathlaw02_CodecOne_49) (by kernel_rfl) ?_
              refine wpE_region (id := 13) (ops := r_towpathlaw02_CodecOne_47) (by kernel_rfl) ?_
              refine reg_run [.plain] 1 [(6, [], Value.bool false)] (by kernel_rfl) (by kernel_rfl) ?_
              refine reg_end [(6, Value.bool false)] (by kernel_rfl) (by kernel_rfl) ?_
              change WpE _ _ c_towpathlaw02_CodecOne_49 _ _ _
              refine wpE_ret (by kernel_rfl) ?_
              repeat (first | refine seqQ_ret ?_ | refine blockQ_ret ?_ | refine loopQ_ret ?_ | refine cutQ_ret ?_)
              exact retS (rs := [(Go.ResultVar.tmp 6)]) (v := Value.bool false) (by kernel_rfl) (⟨by kernel_rfl, trivial⟩) ⟨false, rfl, h⟩
            · replace h := h.2 hb
              refine wpE_skip (by kernel_rfl) ?_
              change WpE _ _ c_towpathlaw02_CodecOne_51 _ _ _
              refine wpE_seq (x := c_towpathlaw02_CodecOne_52) (y := c_towpathlaw02_CodecOne_54) (by kernel_rfl) ?_
              refine wpE_region (id := 14) (ops := r_towpathlaw02_CodecOne_52) (by kernel_rfl) ?_
              refine reg_run [] 0 [(2, [], Value.int .u64 n_)] (by kernel_rfl) (by kernel_rfl) ?_
              refine reg_enter (op := (Go.Op.call (Go.Call.mk (Go.Callee.value (Go.Operand.func 33)) #[] #[]))) (ty := 65) (dst := some 86) 33 #[] (by kernel_rfl) (fun ww => by kernel_rfl) (Calls.mono h ?_)
              rintro _ w8 ⟨v86, rfl, h⟩
              refine ⟨_, rfl, ?_⟩
              refine reg_run [.plain] 2 [(2, [], Value.int .u64 n_), (10, [], Value.pointer v86)] (by kernel_rfl) (by kernel_rfl) ?_
              refine reg_end [(2, Value.int .u64 n_), (10, Value.pointer v86)] (by kernel_rfl) (by kernel_rfl) ?_
              change WpE _ _ c_towpathlaw02_CodecOne_54 _ _ _
              refine wpE_seq (x := c_towpathlaw02_CodecOne_55) (y := c_towpathlaw02_CodecOne_57) (by kernel_rfl) ?_
              refine wpE_region (id := 15) (ops := r_towpathlaw02_CodecOne_55) (by kernel_rfl) ?_
              refine reg_run [.plain, .plain] 2 [(10, [], Value.pointer v86), (87, [], Value.pointer v86), (88, [], Value.int .u64 n_)] (by kernel_rfl) (by kernel_rfl) ?_
              refine reg_enter (op := (Go.Op.call (Go.Call.mk (Go.Callee.value (Go.Operand.func 34)) #[(Go.Operand.tmp 87), (Go.Operand.tmp 88)] #[65, 35]))) (ty := 0) (dst := some 89) 34 #[Value.pointer v86, Value.int .u64 n_] (by kernel_rfl) (fun ww => by kernel_rfl) (Calls.mono h ?_)
              rintro _ w9 ⟨rfl, h⟩
              refine ⟨_, rfl, ?_⟩
              refine reg_end [(10, Value.pointer v86)] (by kernel_rfl) (by kernel_rfl) ?_
              change WpE _ _ c_towpathlaw02_CodecOne_57 _ _ _
              refine wpE_seq (x := c_towpathlaw02_CodecOne_58) (y := c_towpathlaw02_CodecOne_60) (by kernel_rfl) ?_
              refine wpE_region (id := 16) (ops := r_towpathlaw02_CodecOne_58) (by kernel_rfl) ?_
              refine reg_run [.plain] 1 [(90, [], Value.pointer v86)] (by kernel_rfl) (by kernel_rfl) ?_
              refine reg_enter (op := (Go.Op.call (Go.Call.mk (Go.Callee.value (Go.Operand.func 35)) #[(Go.Operand.tmp 90)] #[65]))) (ty := 22) (dst := some 91) 35 #[Value.pointer v86] (by kernel_rfl) (fun ww => by kernel_rfl) (Calls.mono h ?_)
              rintro _ w10 ⟨v91, rfl, h⟩
              refine ⟨_, rfl, ?_⟩
              refine reg_run [.plain] 3 [(11, [], Value.slice v91.ptr v91.len v91.cap)] (by kernel_rfl) (by kernel_rfl) ?_
              refine reg_end [(11, Value.slice v91.ptr v91.len v91.cap)] (by kernel_rfl) (by kernel_rfl) ?_
              change WpE _ _ c_towpathlaw02_CodecOne_60 _ _ _
              refine wpE_seq (x := c_towpathlaw02_CodecOne_61) (y := c_towpathlaw02_CodecOne_89) (by kernel_rfl) ?_
              refine wpE_seq (x := c_towpathlaw02_CodecOne_62) (y := c_towpathlaw02_CodecOne_64) (by kernel_rfl) ?_
              refine wpE_region (id := 17) (ops := r_towpathlaw02_CodecOne_62) (by kernel_rfl) ?_
              refine reg_run [.plain] 1 [(11, [], Value.slice v91.ptr v91.len v91.cap), (12, [], Value.int .i64 0)] (by kernel_rfl) (by kernel_rfl) ?_
              refine reg_end [(11, Value.slice v91.ptr v91.len v91.cap), (12, Value.int .i64 0)] (by kernel_rfl) (by kernel_rfl) ?_
              change WpE _ _ c_towpathlaw02_CodecOne_64 _ _ _
              refine wpE_block (id := 1) (x := c_towpathlaw02_CodecOne_65) (by kernel_rfl) ?_
              obtain ⟨I, μ, h0, hr⟩ := h
              refine wpE_loop (x := c_towpathlaw02_CodecOne_66) (by kernel_rfl) (fun m l w => ∃ (i : Int), l = [(11, Value.slice v91.ptr v91.len v91.cap), (12, Value.int .i64 i)] ∧ I i w ∧ μ i w = m) (l' := [(11, Value.slice v91.ptr v91.len v91.cap), (12, Value.int .i64 0)]) (Sub.mk (by kernel_rfl)) ⟨0, rfl, h0, rfl⟩ ?_
              rintro _ _ w11 ⟨i, rfl, hI, rfl⟩
              obtain ⟨again_, again__h, h⟩ : ∃ again_ : Int → World → Prop, (∀ i' w', again_ i' w' → I i' w' ∧ μ i' w' < μ i w11) ∧ F_towpathlaw02_CodecOne_L3 R v91 again_ i w11 := ⟨_, fun _ _ h => h, hr i w11 hI⟩
              clear h0 hI
              unfold F_towpathlaw02_CodecOne_L3 at h
              refine wpE_seq (x := c_towpathlaw02_CodecOne_67) (y := c_towpathlaw02_CodecOne_73) (by kernel_rfl) ?_
              refine wpE_seq (x := c_towpathlaw02_CodecOne_68) (y := c_towpathlaw02_CodecOne_70) (by kernel_rfl) ?_
              refine wpE_region (id := 18) (ops := r_towpathlaw02_CodecOne_68) (by kernel_rfl) ?_
              refine reg_run [.plain, .plain, .plain, .plain] 4 [(11, [], Value.slice v91.ptr v91.len v91.cap), (12, [], Value.int .i64 i), (95, [], Value.bool (decide (i < ((v91.len : Nat) : Int))))] (by kernel_rfl) (by kernel_rfl) ?_
              refine reg_end [(11, Value.slice v91.ptr v91.len v91.cap), (12, Value.int .i64 i), (95, Value.bool (decide (i < ((v91.len : Nat) : Int))))] (by kernel_rfl) (by kernel_rfl) ?_
              change WpE _ _ c_towpathlaw02_CodecOne_70 _ _ _
              refine wpE_cond (o := (Operand.tmp 95)) (b := (decide (i < ((v91.len : Nat) : Int)))) (x := c_towpathlaw02_CodecOne_71) (y := c_towpathlaw02_CodecOne_72) (by kernel_rfl) (by kernel_rfl) (fun hb => ?_) (fun hb => ?_)
              · replace h := h.1 hb
                refine wpE_skip (by kernel_rfl) ?_
                change WpE _ _ c_towpathlaw02_CodecOne_73 _ _ _
                refine wpE_seq (x := c_towpathlaw02_CodecOne_74) (y := c_towpathlaw02_CodecOne_87) (by kernel_rfl) ?_
                refine wpE_block (id := 2) (x := c_towpathlaw02_CodecOne_75) (by kernel_rfl) ?_
                refine wpE_seq (x := c_towpathlaw02_CodecOne_76) (y := c_towpathlaw02_CodecOne_78) (by kernel_rfl) ?_
                refine wpE_region (id := 20) (ops := r_towpathlaw02_CodecOne_76) (by kernel_rfl) ?_
                refine reg_run [.plain, .plain] 2 [(11, [], Value.slice v91.ptr v91.len v91.cap), (12, [], Value.int .i64 i), (98, [], Value.slice v91.ptr v91.len v91.cap), (99, [], Value.int .i64 i)] (by kernel_rfl) (by kernel_rfl) ?_
                obtain ⟨h0, h1, h⟩ := h
                refine reg_sliceHi (t := 22) (e := 5) (x := (Go.Operand.tmp 98)) (hi := (Go.Operand.tmp 99)) (p := v91.ptr) (l := v91.len) (c := v91.cap) (sz := 1) (k := .i64) (j := i) (ty := 22) (dst := some 100) (by kernel_rfl) (by kernel_rfl) (by kernel_rfl) (by kernel_rfl) (by kernel_rfl) h0 h1 ?_
                refine reg_run [] 3 [(11, [], Value.slice v91.ptr v91.len v91.cap), (12, [], Value.int .i64 i), (100, [], Value.slice v91.ptr i.toNat v91.cap)] (by kernel_rfl) (by kernel_rfl) ?_
                refine reg_enter (op := (Go.Op.call (Go.Call.mk (Go.Callee.value (Go.Operand.func 14)) #[(Go.Operand.tmp 100)] #[22]))) (ty := 27) (dst := some 101) 14 #[Value.slice v91.ptr i.toNat v91.cap] (by kernel_rfl) (fun ww => by kernel_rfl) (Calls.mono h ?_)
                rintro _ w12 ⟨v101, rfl, h⟩
                refine ⟨_, rfl, ?_⟩
                refine reg_run [.plain] 5 [(11, [], Value.slice v91.ptr v91.len v91.cap), (12, [], Value.int .i64 i), (13, [], Value.pointer v101)] (by kernel_rfl) (by kernel_rfl) ?_
                refine reg_end [(11, Value.slice v91.ptr v91.len v91.cap), (12, Value.int .i64 i), (13, Value.pointer v101)] (by kernel_rfl) (by kernel_rfl) ?_
                change WpE _ _ c_towpathlaw02_CodecOne_78 _ _ _
                refine wpE_seq_cut (x := c_towpathlaw02_CodecOne_79) (y := c_towpathlaw02_CodecOne_81) (by kernel_rfl) (fun l w => ∃ (t109 : Bool), l = [(11, Value.slice v91.ptr v91.len v91.cap), (12, Value.int .i64 i), (109, Value.bool t109)] ∧ F_towpathlaw02_CodecOne_k4 R i again_ t109 w) ?_ ?_
                · refine wpE_region (id := 21) (ops := r_towpathlaw02_CodecOne_79) (by kernel_rfl) ?_
                  refine reg_run [.plain] 1 [(11, [], Value.slice v91.ptr v91.len v91.cap), (12, [], Value.int .i64 i), (13, [], Value.pointer v101), (102, [], Value.pointer v101)] (by kernel_rfl) (by kernel_rfl) ?_
                  refine reg_enter (op := (Go.Op.call (Go.Call.mk (Go.Callee.value (Go.Operand.func 37)) #[(Go.Operand.tmp 102)] #[27]))) (ty := 35) (dst := some 103) 37 #[Value.pointer v101] (by kernel_rfl) (fun ww => by kernel_rfl) (Calls.mono h ?_)
                  rintro _ w14 ⟨v103, rfl, h⟩
                  refine ⟨_, rfl, ?_⟩
                  refine reg_run [.plain, .plain, .plain] 5 [(11, [], Value.slice v91.ptr v91.len v91.cap), (12, [], Value.int .i64 i), (105, [], Value.bool (v103 != 0)), (106, [(105, false)], Value.pointer v101)] (by kernel_rfl) (by kernel_rfl) ?_
                  refine reg_split 105 (v103 != 0) (by kernel_rfl) (fun hb => ?_) (fun hb => ?_)
                  · replace h := h.1 hb
                    refine reg_run [] 5 [(11, [], Value.slice v91.ptr v91.len v91.cap), (12, [], Value.int .i64 i), (105, [], Value.bool true), (106, [], undef)] (by kernel_rfl) (by kernel_rfl) ?_
                    refine reg_run [.skip, .skip, .plain] 8 [(11, [], Value.slice v91.ptr v91.len v91.cap), (12, [], Value.int .i64 i), (109, [], Value.bool true)] (by kernel_rfl) (by kernel_rfl) ?_
                    refine reg_end [(11, Value.slice v91.ptr v91.len v91.cap), (12, Value.int .i64 i), (109, Value.bool true)] (by kernel_rfl) (by kernel_rfl) ?_
                    exact ⟨[(11, Value.slice v91.ptr v91.len v91.cap), (12, Value.int .i64 i), (109, Value.bool true)], Sub.mk (by kernel_rfl), true, rfl, h⟩
                  · replace h := h.2 hb
                    refine reg_run [] 5 [(11, [], Value.slice v91.ptr v91.len v91.cap), (12, [], Value.int .i64 i), (105, [], Value.bool false), (106, [], Value.pointer v101)] (by kernel_rfl) (by kernel_rfl) ?_
                    refine reg_run [] 5 [(11, [], Value.slice v91.ptr v91.len v91.cap), (12, [], Value.int .i64 i), (105, [], Value.bool false), (106, [], Value.pointer v101)] (by kernel_rfl) (by kernel_rfl) ?_
                    refine reg_enter (op := (Go.Op.call (Go.Call.mk (Go.Callee.value (Go.Operand.func 19)) #[(Go.Operand.tmp 106)] #[27]))) (ty := 30) (dst := some 107) 19 #[Value.pointer v101] (by kernel_rfl) (fun ww => by kernel_rfl) (Calls.mono h ?_)
                    rintro _ w15 ⟨v107, rfl, h⟩
                    refine ⟨_, rfl, ?_⟩
                    refine reg_run [.sure, .plain] 8 [(11, [], Value.slice v91.ptr v91.len v91.cap), (12, [], Value.int .i64 i), (109, [], Value.bool (v107 != 5))] (by kernel_rfl) (by kernel_rfl) ?_
                    refine reg_end [(11, Value.slice v91.ptr v91.len v91.cap), (12, Value.int .i64 i), (109, Value.bool (v107 != 5))] (by kernel_rfl) (by kernel_rfl) ?_
                    exact ⟨[(11, Value.slice v91.ptr v91.len v91.cap), (12, Value.int .i64 i), (109, Value.bool (v107 != 5))], Sub.mk (by kernel_rfl), (v107 != 5), rfl, h⟩
                · rintro _ w13 ⟨t109, rfl, h⟩
                  unfold F_towpathlaw02_CodecOne_k4 at h
                  refine wpE_cond (o := (Operand.tmp 109)) (b := t109) (x := c_towpathlaw02_CodecOne_82) (y := c_towpathlaw02_CodecOne_86) (by kernel_rfl) (by kernel_rfl) (fun hb => ?_) (fun hb => ?_)
                  · replace h := h.1 hb
                    refine wpE_seq (x := c_towpathlaw02_CodecOne_83) (y := c_towpathlaw02_CodecOne_85) (by kernel_rfl) ?_
                    refine wpE_region (id := 22) (ops := r_towpathlaw02_CodecOne_83) (by kernel_rfl) ?_
                    refine reg_run [.plain] 1 [(6, [], Value.bool false)] (by kernel_rfl) (by kernel_rfl) ?_
                    refine reg_end [(6, Value.bool false)] (by kernel_rfl) (by kernel_rfl) ?_
                    change WpE _ _ c_towpathlaw02_CodecOne_85 _ _ _
                    refine wpE_ret (by kernel_rfl) ?_
                    repeat (first | refine seqQ_ret ?_ | refine blockQ_ret ?_ | refine loopQ_ret ?_ | refine cutQ_ret ?_)
                    exact retS (rs := [(Go.ResultVar.tmp 6)]) (v := Value.bool false) (by kernel_rfl) (⟨by kernel_rfl, trivial⟩) ⟨false, rfl, h⟩
                  · replace h := h.2 hb
                    refine wpE_skip (by kernel_rfl) ?_
                    change WpE _ _ c_towpathlaw02_CodecOne_87 _ _ _
                    refine wpE_region (id := 19) (ops := r_towpathlaw02_CodecOne_87) (by kernel_rfl) ?_
                    refine reg_run [.plain, .plain, .plain] 3 [(11, [], Value.slice v91.ptr v91.len v91.cap), (12, [], Value.int .i64 (IntKind.i64.wrap (i + 1)))] (by kernel_rfl) (by kernel_rfl) ?_
                    refine reg_end [(11, Value.slice v91.ptr v91.len v91.cap), (12, Value.int .i64 (IntKind.i64.wrap (i + 1)))] (by kernel_rfl) (by kernel_rfl) ?_
                    have hb_ := again__h _ _ h
                    exact ⟨_, hb_.2, [(11, Value.slice v91.ptr v91.len v91.cap), (12, Value.int .i64 (IntKind.i64.wrap (i + 1)))], Sub.mk (by kernel_rfl), (IntKind.i64.wrap (i + 1)), rfl, hb_.1, rfl⟩
              · replace h := h.2 hb
                refine wpE_exit (id := 1) (by kernel_rfl) ?_
                change WpE _ _ c_towpathlaw02_CodecOne_89 _ _ _
                refine wpE_seq (x := c_towpathlaw02_CodecOne_90) (y := c_towpathlaw02_CodecOne_92) (by kernel_rfl) ?_
                refine wpE_region (id := 23) (ops := r_towpathlaw02_CodecOne_90) (by kernel_rfl) ?_
                refine reg_run [.plain, .plain, .plain, .plain, .plain, .plain, .plain, .pick, .plain] 9 [(6, [], Value.bool ((decide (((v91.len : Nat) : Int) ≥ 1)) && (decide (((v91.len : Nat) : Int) ≤ 10))))] (by kernel_rfl) (by kernel_rfl) ?_
                refine reg_end [(6, Value.bool ((decide (((v91.len : Nat) : Int) ≥ 1)) && (decide (((v91.len : Nat) : Int) ≤ 10))))] (by kernel_rfl) (by kernel_rfl) ?_
                change WpE _ _ c_towpathlaw02_CodecOne_92 _ _ _
                refine wpE_ret (by kernel_rfl) ?_
                repeat (first | refine seqQ_ret ?_ | refine blockQ_ret ?_ | refine loopQ_ret ?_ | refine cutQ_ret ?_)
                exact retS (rs := [(Go.ResultVar.tmp 6)]) (v := Value.bool ((decide (((v91.len : Nat) : Int) ≥ 1)) && (decide (((v91.len : Nat) : Int) ≤ 10)))) (by kernel_rfl) (⟨by kernel_rfl, trivial⟩) ⟨((decide (((v91.len : Nat) : Int) ≥ 1)) && (decide (((v91.len : Nat) : Int) ≤ 10))), rfl, h⟩
  · rintro e w' ⟨v, rfl, r0, rfl, h⟩; exact ⟨r0, rfl, h⟩
end Go.Proofs.Ytckmganidgbpgaa
