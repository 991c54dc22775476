/- WRITTEN BY PROGRAM (dec.py): for each Go function the clean formula F, the call's contract C, and the proof S that F gives C. -/
import Derived.Test.YtckmganidgbpgaaRows
import Derived.Test.YtckmganidgbpgaaGF
namespace Go.Proofs.Ytckmganidgbpgaa
open Go
set_option linter.unusedVariables false

/-! ### towpath/towpathlaw02.CodecBack (function 9) -/
noncomputable def c_towpathlaw02_CodecBack_0 : Code := (Try.f9.body).getD Code.skip
noncomputable def c_towpathlaw02_CodecBack_1 : Code := Code.l c_towpathlaw02_CodecBack_0
noncomputable def r_towpathlaw02_CodecBack_1 : Array Oper := Code.ops c_towpathlaw02_CodecBack_1
noncomputable def c_towpathlaw02_CodecBack_3 : Code := Code.r c_towpathlaw02_CodecBack_0
noncomputable def c_towpathlaw02_CodecBack_4 : Code := Code.l c_towpathlaw02_CodecBack_3
noncomputable def c_towpathlaw02_CodecBack_5 : Code := Code.l c_towpathlaw02_CodecBack_4
noncomputable def r_towpathlaw02_CodecBack_5 : Array Oper := Code.ops c_towpathlaw02_CodecBack_5
noncomputable def c_towpathlaw02_CodecBack_7 : Code := Code.r c_towpathlaw02_CodecBack_4
noncomputable def c_towpathlaw02_CodecBack_8 : Code := Code.l c_towpathlaw02_CodecBack_7
noncomputable def c_towpathlaw02_CodecBack_9 : Code := Code.l c_towpathlaw02_CodecBack_8
noncomputable def r_towpathlaw02_CodecBack_9 : Array Oper := Code.ops c_towpathlaw02_CodecBack_9
noncomputable def c_towpathlaw02_CodecBack_11 : Code := Code.r c_towpathlaw02_CodecBack_8
noncomputable def c_towpathlaw02_CodecBack_12 : Code := Code.r c_towpathlaw02_CodecBack_7
noncomputable def c_towpathlaw02_CodecBack_13 : Code := Code.r c_towpathlaw02_CodecBack_3
noncomputable def c_towpathlaw02_CodecBack_14 : Code := Code.l c_towpathlaw02_CodecBack_13
noncomputable def r_towpathlaw02_CodecBack_14 : Array Oper := Code.ops c_towpathlaw02_CodecBack_14
noncomputable def c_towpathlaw02_CodecBack_16 : Code := Code.r c_towpathlaw02_CodecBack_13
noncomputable def c_towpathlaw02_CodecBack_17 : Code := Code.l c_towpathlaw02_CodecBack_16
noncomputable def r_towpathlaw02_CodecBack_17 : Array Oper := Code.ops c_towpathlaw02_CodecBack_17
noncomputable def c_towpathlaw02_CodecBack_19 : Code := Code.r c_towpathlaw02_CodecBack_16
noncomputable def c_towpathlaw02_CodecBack_20 : Code := Code.l c_towpathlaw02_CodecBack_19
noncomputable def c_towpathlaw02_CodecBack_21 : Code := Code.l c_towpathlaw02_CodecBack_20
noncomputable def r_towpathlaw02_CodecBack_21 : Array Oper := Code.ops c_towpathlaw02_CodecBack_21
noncomputable def c_towpathlaw02_CodecBack_23 : Code := Code.r c_towpathlaw02_CodecBack_20
noncomputable def c_towpathlaw02_CodecBack_24 : Code := Code.l c_towpathlaw02_CodecBack_23
noncomputable def c_towpathlaw02_CodecBack_25 : Code := Code.l c_towpathlaw02_CodecBack_24
noncomputable def c_towpathlaw02_CodecBack_26 : Code := Code.l c_towpathlaw02_CodecBack_25
noncomputable def c_towpathlaw02_CodecBack_27 : Code := Code.l c_towpathlaw02_CodecBack_26
noncomputable def r_towpathlaw02_CodecBack_27 : Array Oper := Code.ops c_towpathlaw02_CodecBack_27
noncomputable def c_towpathlaw02_CodecBack_29 : Code := Code.r c_towpathlaw02_CodecBack_26
noncomputable def c_towpathlaw02_CodecBack_30 : Code := Code.l c_towpathlaw02_CodecBack_29
noncomputable def c_towpathlaw02_CodecBack_31 : Code := Code.r c_towpathlaw02_CodecBack_29
noncomputable def c_towpathlaw02_CodecBack_32 : Code := Code.r c_towpathlaw02_CodecBack_25
noncomputable def c_towpathlaw02_CodecBack_33 : Code := Code.l c_towpathlaw02_CodecBack_32
noncomputable def c_towpathlaw02_CodecBack_34 : Code := Code.l c_towpathlaw02_CodecBack_33
noncomputable def c_towpathlaw02_CodecBack_35 : Code := Code.l c_towpathlaw02_CodecBack_34
noncomputable def r_towpathlaw02_CodecBack_35 : Array Oper := Code.ops c_towpathlaw02_CodecBack_35
noncomputable def c_towpathlaw02_CodecBack_37 : Code := Code.r c_towpathlaw02_CodecBack_34
noncomputable def c_towpathlaw02_CodecBack_38 : Code := Code.l c_towpathlaw02_CodecBack_37
noncomputable def c_towpathlaw02_CodecBack_39 : Code := Code.l c_towpathlaw02_CodecBack_38
noncomputable def r_towpathlaw02_CodecBack_39 : Array Oper := Code.ops c_towpathlaw02_CodecBack_39
noncomputable def c_towpathlaw02_CodecBack_41 : Code := Code.r c_towpathlaw02_CodecBack_38
noncomputable def c_towpathlaw02_CodecBack_42 : Code := Code.l c_towpathlaw02_CodecBack_41
noncomputable def c_towpathlaw02_CodecBack_43 : Code := Code.l c_towpathlaw02_CodecBack_42
noncomputable def r_towpathlaw02_CodecBack_43 : Array Oper := Code.ops c_towpathlaw02_CodecBack_43
noncomputable def c_towpathlaw02_CodecBack_45 : Code := Code.r c_towpathlaw02_CodecBack_42
noncomputable def c_towpathlaw02_CodecBack_46 : Code := Code.l c_towpathlaw02_CodecBack_45
noncomputable def c_towpathlaw02_CodecBack_47 : Code := Code.l c_towpathlaw02_CodecBack_46
noncomputable def r_towpathlaw02_CodecBack_47 : Array Oper := Code.ops c_towpathlaw02_CodecBack_47
noncomputable def c_towpathlaw02_CodecBack_49 : Code := Code.r c_towpathlaw02_CodecBack_46
noncomputable def c_towpathlaw02_CodecBack_50 : Code := Code.l c_towpathlaw02_CodecBack_49
noncomputable def c_towpathlaw02_CodecBack_51 : Code := Code.r c_towpathlaw02_CodecBack_49
noncomputable def c_towpathlaw02_CodecBack_52 : Code := Code.r c_towpathlaw02_CodecBack_45
noncomputable def c_towpathlaw02_CodecBack_53 : Code := Code.l c_towpathlaw02_CodecBack_52
noncomputable def r_towpathlaw02_CodecBack_53 : Array Oper := Code.ops c_towpathlaw02_CodecBack_53
noncomputable def c_towpathlaw02_CodecBack_55 : Code := Code.r c_towpathlaw02_CodecBack_52
noncomputable def c_towpathlaw02_CodecBack_56 : Code := Code.l c_towpathlaw02_CodecBack_55
noncomputable def r_towpathlaw02_CodecBack_56 : Array Oper := Code.ops c_towpathlaw02_CodecBack_56
noncomputable def c_towpathlaw02_CodecBack_58 : Code := Code.r c_towpathlaw02_CodecBack_55
noncomputable def c_towpathlaw02_CodecBack_59 : Code := Code.l c_towpathlaw02_CodecBack_58
noncomputable def r_towpathlaw02_CodecBack_59 : Array Oper := Code.ops c_towpathlaw02_CodecBack_59
noncomputable def c_towpathlaw02_CodecBack_61 : Code := Code.r c_towpathlaw02_CodecBack_58
noncomputable def c_towpathlaw02_CodecBack_62 : Code := Code.l c_towpathlaw02_CodecBack_61
noncomputable def r_towpathlaw02_CodecBack_62 : Array Oper := Code.ops c_towpathlaw02_CodecBack_62
noncomputable def c_towpathlaw02_CodecBack_64 : Code := Code.r c_towpathlaw02_CodecBack_61
noncomputable def r_towpathlaw02_CodecBack_64 : Array Oper := Code.ops c_towpathlaw02_CodecBack_64
noncomputable def c_towpathlaw02_CodecBack_66 : Code := Code.r c_towpathlaw02_CodecBack_37
noncomputable def r_towpathlaw02_CodecBack_66 : Array Oper := Code.ops c_towpathlaw02_CodecBack_66
noncomputable def c_towpathlaw02_CodecBack_68 : Code := Code.r c_towpathlaw02_CodecBack_32
noncomputable def r_towpathlaw02_CodecBack_68 : Array Oper := Code.ops c_towpathlaw02_CodecBack_68
noncomputable def c_towpathlaw02_CodecBack_70 : Code := Code.r c_towpathlaw02_CodecBack_19
noncomputable def c_towpathlaw02_CodecBack_71 : Code := Code.l c_towpathlaw02_CodecBack_70
noncomputable def r_towpathlaw02_CodecBack_71 : Array Oper := Code.ops c_towpathlaw02_CodecBack_71
noncomputable def c_towpathlaw02_CodecBack_73 : Code := Code.r c_towpathlaw02_CodecBack_70
noncomputable def c_towpathlaw02_CodecBack_74 : Code := Code.l c_towpathlaw02_CodecBack_73
noncomputable def c_towpathlaw02_CodecBack_75 : Code := Code.l c_towpathlaw02_CodecBack_74
noncomputable def r_towpathlaw02_CodecBack_75 : Array Oper := Code.ops c_towpathlaw02_CodecBack_75
noncomputable def c_towpathlaw02_CodecBack_77 : Code := Code.r c_towpathlaw02_CodecBack_74
noncomputable def c_towpathlaw02_CodecBack_78 : Code := Code.l c_towpathlaw02_CodecBack_77
noncomputable def c_towpathlaw02_CodecBack_79 : Code := Code.l c_towpathlaw02_CodecBack_78
noncomputable def c_towpathlaw02_CodecBack_80 : Code := Code.l c_towpathlaw02_CodecBack_79
noncomputable def c_towpathlaw02_CodecBack_81 : Code := Code.l c_towpathlaw02_CodecBack_80
noncomputable def r_towpathlaw02_CodecBack_81 : Array Oper := Code.ops c_towpathlaw02_CodecBack_81
noncomputable def c_towpathlaw02_CodecBack_83 : Code := Code.r c_towpathlaw02_CodecBack_80
noncomputable def c_towpathlaw02_CodecBack_84 : Code := Code.l c_towpathlaw02_CodecBack_83
noncomputable def c_towpathlaw02_CodecBack_85 : Code := Code.r c_towpathlaw02_CodecBack_83
noncomputable def c_towpathlaw02_CodecBack_86 : Code := Code.r c_towpathlaw02_CodecBack_79
noncomputable def c_towpathlaw02_CodecBack_87 : Code := Code.l c_towpathlaw02_CodecBack_86
noncomputable def c_towpathlaw02_CodecBack_88 : Code := Code.l c_towpathlaw02_CodecBack_87
noncomputable def c_towpathlaw02_CodecBack_89 : Code := Code.l c_towpathlaw02_CodecBack_88
noncomputable def r_towpathlaw02_CodecBack_89 : Array Oper := Code.ops c_towpathlaw02_CodecBack_89
noncomputable def c_towpathlaw02_CodecBack_91 : Code := Code.r c_towpathlaw02_CodecBack_88
noncomputable def c_towpathlaw02_CodecBack_92 : Code := Code.l c_towpathlaw02_CodecBack_91
noncomputable def r_towpathlaw02_CodecBack_92 : Array Oper := Code.ops c_towpathlaw02_CodecBack_92
noncomputable def c_towpathlaw02_CodecBack_94 : Code := Code.r c_towpathlaw02_CodecBack_91
noncomputable def c_towpathlaw02_CodecBack_95 : Code := Code.l c_towpathlaw02_CodecBack_94
noncomputable def c_towpathlaw02_CodecBack_96 : Code := Code.l c_towpathlaw02_CodecBack_95
noncomputable def r_towpathlaw02_CodecBack_96 : Array Oper := Code.ops c_towpathlaw02_CodecBack_96
noncomputable def c_towpathlaw02_CodecBack_98 : Code := Code.r c_towpathlaw02_CodecBack_95
noncomputable def c_towpathlaw02_CodecBack_99 : Code := Code.l c_towpathlaw02_CodecBack_98
noncomputable def c_towpathlaw02_CodecBack_100 : Code := Code.l c_towpathlaw02_CodecBack_99
noncomputable def r_towpathlaw02_CodecBack_100 : Array Oper := Code.ops c_towpathlaw02_CodecBack_100
noncomputable def c_towpathlaw02_CodecBack_102 : Code := Code.r c_towpathlaw02_CodecBack_99
noncomputable def c_towpathlaw02_CodecBack_103 : Code := Code.l c_towpathlaw02_CodecBack_102
noncomputable def r_towpathlaw02_CodecBack_103 : Array Oper := Code.ops c_towpathlaw02_CodecBack_103
noncomputable def c_towpathlaw02_CodecBack_105 : Code := Code.r c_towpathlaw02_CodecBack_102
noncomputable def c_towpathlaw02_CodecBack_106 : Code := Code.l c_towpathlaw02_CodecBack_105
noncomputable def r_towpathlaw02_CodecBack_106 : Array Oper := Code.ops c_towpathlaw02_CodecBack_106
noncomputable def c_towpathlaw02_CodecBack_108 : Code := Code.r c_towpathlaw02_CodecBack_105
noncomputable def c_towpathlaw02_CodecBack_109 : Code := Code.l c_towpathlaw02_CodecBack_108
noncomputable def r_towpathlaw02_CodecBack_109 : Array Oper := Code.ops c_towpathlaw02_CodecBack_109
noncomputable def c_towpathlaw02_CodecBack_111 : Code := Code.r c_towpathlaw02_CodecBack_108
noncomputable def c_towpathlaw02_CodecBack_112 : Code := Code.l c_towpathlaw02_CodecBack_111
noncomputable def r_towpathlaw02_CodecBack_112 : Array Oper := Code.ops c_towpathlaw02_CodecBack_112
noncomputable def c_towpathlaw02_CodecBack_114 : Code := Code.r c_towpathlaw02_CodecBack_111
noncomputable def c_towpathlaw02_CodecBack_115 : Code := Code.l c_towpathlaw02_CodecBack_114
noncomputable def r_towpathlaw02_CodecBack_115 : Array Oper := Code.ops c_towpathlaw02_CodecBack_115
noncomputable def c_towpathlaw02_CodecBack_117 : Code := Code.r c_towpathlaw02_CodecBack_114
noncomputable def r_towpathlaw02_CodecBack_117 : Array Oper := Code.ops c_towpathlaw02_CodecBack_117
noncomputable def c_towpathlaw02_CodecBack_119 : Code := Code.r c_towpathlaw02_CodecBack_94
noncomputable def c_towpathlaw02_CodecBack_120 : Code := Code.l c_towpathlaw02_CodecBack_119
noncomputable def r_towpathlaw02_CodecBack_120 : Array Oper := Code.ops c_towpathlaw02_CodecBack_120
noncomputable def c_towpathlaw02_CodecBack_122 : Code := Code.r c_towpathlaw02_CodecBack_119
noncomputable def c_towpathlaw02_CodecBack_123 : Code := Code.l c_towpathlaw02_CodecBack_122
noncomputable def c_towpathlaw02_CodecBack_124 : Code := Code.l c_towpathlaw02_CodecBack_123
noncomputable def r_towpathlaw02_CodecBack_124 : Array Oper := Code.ops c_towpathlaw02_CodecBack_124
noncomputable def c_towpathlaw02_CodecBack_126 : Code := Code.r c_towpathlaw02_CodecBack_123
noncomputable def c_towpathlaw02_CodecBack_127 : Code := Code.r c_towpathlaw02_CodecBack_122
noncomputable def c_towpathlaw02_CodecBack_128 : Code := Code.r c_towpathlaw02_CodecBack_86
noncomputable def r_towpathlaw02_CodecBack_128 : Array Oper := Code.ops c_towpathlaw02_CodecBack_128
noncomputable def c_towpathlaw02_CodecBack_130 : Code := Code.r c_towpathlaw02_CodecBack_73
noncomputable def c_towpathlaw02_CodecBack_131 : Code := Code.l c_towpathlaw02_CodecBack_130
noncomputable def r_towpathlaw02_CodecBack_131 : Array Oper := Code.ops c_towpathlaw02_CodecBack_131
noncomputable def c_towpathlaw02_CodecBack_133 : Code := Code.r c_towpathlaw02_CodecBack_130
def o_towpathlaw02_CodecBack_103 : List Nat := [0, 1, 2, 4, 5, 3, 6, 7]
def o_towpathlaw02_CodecBack_109 : List Nat := [0, 2, 3, 4, 1, 5, 6]
def o_towpathlaw02_CodecBack_115 : List Nat := [0, 1, 2, 3, 5, 6, 4, 7, 8]
def o_towpathlaw02_CodecBack_117 : List Nat := [0, 2, 3, 1, 4, 5]

set_option maxRecDepth 100000 in
set_option maxHeartbeats 4000000 in
theorem S_towpathlaw02_CodecBack {script : Slc} {w : World} {R : Bool → World → Prop} (h : F_towpathlaw02_CodecBack script R w) : C_towpathlaw02_CodecBack script w R := by
  unfold F_towpathlaw02_CodecBack at h
  unfold C_towpathlaw02_CodecBack
  refine Calls.mono (calls_of_wpE (args := [Value.slice script.ptr script.len script.cap]) (R := fun v w' => ∃ (r0 : Bool), v = Value.bool r0 ∧ R r0 w') Try.func9 (c := c_towpathlaw02_CodecBack_0) (by kernel_rfl) 128 (by kernel_rfl) (by kernel_rfl) [(0, Value.slice script.ptr script.len script.cap)] (by kernel_rfl) ?_) ?_
  · refine wpE_seq (x := c_towpathlaw02_CodecBack_1) (y := c_towpathlaw02_CodecBack_3) (by kernel_rfl) ?_
    refine wpE_region (id := 0) (ops := r_towpathlaw02_CodecBack_1) (by kernel_rfl) ?_
    refine reg_run [.plain] 1 [(0, [], Value.slice script.ptr script.len script.cap)] (by kernel_rfl) (by kernel_rfl) ?_
    refine reg_end [(0, Value.slice script.ptr script.len script.cap)] (by kernel_rfl) (by kernel_rfl) ?_
    change WpE _ _ c_towpathlaw02_CodecBack_3 _ _ _
    refine wpE_seq (x := c_towpathlaw02_CodecBack_4) (y := c_towpathlaw02_CodecBack_13) (by kernel_rfl) ?_
    refine wpE_seq_cut (x := c_towpathlaw02_CodecBack_5) (y := c_towpathlaw02_CodecBack_7) (by kernel_rfl) (fun l w => ∃ (t16 : Bool), l = [(0, Value.slice script.ptr script.len script.cap), (16, Value.bool t16)] ∧ F_towpathlaw02_CodecBack_k0 script R t16 w) ?_ ?_
    · refine wpE_region (id := 1) (ops := r_towpathlaw02_CodecBack_5) (by kernel_rfl) ?_
      refine reg_run [] 0 [(0, [], Value.slice script.ptr script.len script.cap)] (by kernel_rfl) (by kernel_rfl) ?_
      refine reg_enter (op := (Go.Op.call (Go.Call.mk (Go.Callee.value (Go.Operand.func 36)) #[] #[]))) (ty := 4) (dst := some 11) 36 #[] (by kernel_rfl) (fun ww => by kernel_rfl) (Calls.mono h ?_)
      rintro _ w34 ⟨v11, rfl, h⟩
      refine ⟨_, rfl, ?_⟩
      refine reg_run [.plain, .plain, .plain] 4 [(0, [], Value.slice script.ptr script.len script.cap), (13, [], Value.bool (!v11)), (14, [(13, false)], Value.slice script.ptr script.len script.cap)] (by kernel_rfl) (by kernel_rfl) ?_
      refine reg_split 13 (!v11) (by kernel_rfl) (fun hb => ?_) (fun hb => ?_)
      · replace h := h.1 hb
        refine reg_run [] 4 [(0, [], Value.slice script.ptr script.len script.cap), (13, [], Value.bool true), (14, [], undef)] (by kernel_rfl) (by kernel_rfl) ?_
        refine reg_run [.skip, .plain] 6 [(0, [], Value.slice script.ptr script.len script.cap), (16, [], Value.bool true)] (by kernel_rfl) (by kernel_rfl) ?_
        refine reg_end [(0, Value.slice script.ptr script.len script.cap), (16, Value.bool true)] (by kernel_rfl) (by kernel_rfl) ?_
        exact ⟨[(0, Value.slice script.ptr script.len script.cap), (16, Value.bool true)], Sub.mk (by kernel_rfl), true, rfl, h⟩
      · replace h := h.2 hb
        refine reg_run [] 4 [(0, [], Value.slice script.ptr script.len script.cap), (13, [], Value.bool false), (14, [], Value.slice script.ptr script.len script.cap)] (by kernel_rfl) (by kernel_rfl) ?_
        refine reg_run [] 4 [(0, [], Value.slice script.ptr script.len script.cap), (13, [], Value.bool false), (14, [], Value.slice script.ptr script.len script.cap)] (by kernel_rfl) (by kernel_rfl) ?_
        refine reg_enter (op := (Go.Op.call (Go.Call.mk (Go.Callee.value (Go.Operand.func 11)) #[(Go.Operand.tmp 14)] #[23]))) (ty := 4) (dst := some 15) 11 #[Value.slice script.ptr script.len script.cap] (by kernel_rfl) (fun ww => by kernel_rfl) (Calls.mono h ?_)
        rintro _ w35 ⟨v15, rfl, h⟩
        refine ⟨_, rfl, ?_⟩
        refine reg_run [.plain] 6 [(0, [], Value.slice script.ptr script.len script.cap), (16, [], Value.bool v15)] (by kernel_rfl) (by kernel_rfl) ?_
        refine reg_end [(0, Value.slice script.ptr script.len script.cap), (16, Value.bool v15)] (by kernel_rfl) (by kernel_rfl) ?_
        exact ⟨[(0, Value.slice script.ptr script.len script.cap), (16, Value.bool v15)], Sub.mk (by kernel_rfl), v15, rfl, h⟩
    · rintro _ w1 ⟨t16, rfl, h⟩
      unfold F_towpathlaw02_CodecBack_k0 at h
      refine wpE_cond (o := (Operand.tmp 16)) (b := t16) (x := c_towpathlaw02_CodecBack_8) (y := c_towpathlaw02_CodecBack_12) (by kernel_rfl) (by kernel_rfl) (fun hb => ?_) (fun hb => ?_)
      · replace h := h.1 hb
        refine wpE_seq (x := c_towpathlaw02_CodecBack_9) (y := c_towpathlaw02_CodecBack_11) (by kernel_rfl) ?_
        refine wpE_region (id := 2) (ops := r_towpathlaw02_CodecBack_9) (by kernel_rfl) ?_
        refine reg_run [] 0 [] (by kernel_rfl) (by kernel_rfl) ?_
        refine reg_enter (op := (Go.Op.call (Go.Call.mk (Go.Callee.value (Go.Operand.func 36)) #[] #[]))) (ty := 4) (dst := some 17) 36 #[] (by kernel_rfl) (fun ww => by kernel_rfl) (Calls.mono h ?_)
        rintro _ w2 ⟨v17, rfl, h⟩
        refine ⟨_, rfl, ?_⟩
        refine reg_run [.plain] 2 [(2, [], Value.bool v17)] (by kernel_rfl) (by kernel_rfl) ?_
        refine reg_end [(2, Value.bool v17)] (by kernel_rfl) (by kernel_rfl) ?_
        change WpE _ _ c_towpathlaw02_CodecBack_11 _ _ _
        refine wpE_ret (by kernel_rfl) ?_
        repeat (first | refine seqQ_ret ?_ | refine blockQ_ret ?_ | refine loopQ_ret ?_ | refine cutQ_ret ?_)
        exact retS (rs := [(Go.ResultVar.tmp 2)]) (v := Value.bool v17) (by kernel_rfl) (⟨by kernel_rfl, trivial⟩) ⟨v17, rfl, h⟩
      · replace h := h.2 hb
        refine wpE_skip (by kernel_rfl) ?_
        change WpE _ _ c_towpathlaw02_CodecBack_13 _ _ _
        refine wpE_seq (x := c_towpathlaw02_CodecBack_14) (y := c_towpathlaw02_CodecBack_16) (by kernel_rfl) ?_
        refine wpE_region (id := 3) (ops := r_towpathlaw02_CodecBack_14) (by kernel_rfl) ?_
        refine reg_run [] 0 [(0, [], Value.slice script.ptr script.len script.cap)] (by kernel_rfl) (by kernel_rfl) ?_
        refine reg_enter (op := (Go.Op.call (Go.Call.mk (Go.Callee.value (Go.Operand.func 33)) #[] #[]))) (ty := 65) (dst := some 18) 33 #[] (by kernel_rfl) (fun ww => by kernel_rfl) (Calls.mono h ?_)
        rintro _ w3 ⟨v18, rfl, h⟩
        refine ⟨_, rfl, ?_⟩
        refine reg_run [.plain] 2 [(0, [], Value.slice script.ptr script.len script.cap), (3, [], Value.pointer v18)] (by kernel_rfl) (by kernel_rfl) ?_
        refine reg_end [(0, Value.slice script.ptr script.len script.cap), (3, Value.pointer v18)] (by kernel_rfl) (by kernel_rfl) ?_
        change WpE _ _ c_towpathlaw02_CodecBack_16 _ _ _
        refine wpE_seq (x := c_towpathlaw02_CodecBack_17) (y := c_towpathlaw02_CodecBack_19) (by kernel_rfl) ?_
        refine wpE_region (id := 4) (ops := r_towpathlaw02_CodecBack_17) (by kernel_rfl) ?_
        refine reg_run [.plain] 1 [(0, [], Value.slice script.ptr script.len script.cap), (3, [], Value.pointer v18), (4, [], Value.slice none 0 0)] (by kernel_rfl) (by kernel_rfl) ?_
        refine reg_end [(0, Value.slice script.ptr script.len script.cap), (3, Value.pointer v18), (4, Value.slice none 0 0)] (by kernel_rfl) (by kernel_rfl) ?_
        change WpE _ _ c_towpathlaw02_CodecBack_19 _ _ _
        refine wpE_seq (x := c_towpathlaw02_CodecBack_20) (y := c_towpathlaw02_CodecBack_70) (by kernel_rfl) ?_
        refine wpE_seq (x := c_towpathlaw02_CodecBack_21) (y := c_towpathlaw02_CodecBack_23) (by kernel_rfl) ?_
        refine wpE_region (id := 5) (ops := r_towpathlaw02_CodecBack_21) (by kernel_rfl) ?_
        refine reg_run [.plain] 1 [(0, [], Value.slice script.ptr script.len script.cap), (3, [], Value.pointer v18), (4, [], Value.slice none 0 0), (5, [], Value.int .i64 0)] (by kernel_rfl) (by kernel_rfl) ?_
        refine reg_end [(0, Value.slice script.ptr script.len script.cap), (3, Value.pointer v18), (4, Value.slice none 0 0), (5, Value.int .i64 0)] (by kernel_rfl) (by kernel_rfl) ?_
        change WpE _ _ c_towpathlaw02_CodecBack_23 _ _ _
        refine wpE_block (id := 0) (x := c_towpathlaw02_CodecBack_24) (by kernel_rfl) ?_
        obtain ⟨I, μ, h0, hr⟩ := h
        refine wpE_loop (x := c_towpathlaw02_CodecBack_25) (by kernel_rfl) (fun m l w => ∃ (put : Slc) (i : Int), l = [(0, Value.slice script.ptr script.len script.cap), (3, Value.pointer v18), (4, Value.slice put.ptr put.len put.cap), (5, Value.int .i64 i)] ∧ I put i w ∧ μ put i w = m) (l' := [(0, Value.slice script.ptr script.len script.cap), (3, Value.pointer v18), (4, Value.slice none 0 0), (5, Value.int .i64 0)]) (Sub.mk (by kernel_rfl)) ⟨(Slc.mk none 0 0), 0, rfl, h0, rfl⟩ ?_
        rintro _ _ w4 ⟨put, i, rfl, hI, rfl⟩
        obtain ⟨again_, again__h, h⟩ : ∃ again_ : Slc → Int → World → Prop, (∀ put' i' w', again_ put' i' w' → I put' i' w' ∧ μ put' i' w' < μ put i w4) ∧ F_towpathlaw02_CodecBack_L1 script R v18 again_ put i w4 := ⟨_, fun _ _ _ h => h, hr put i w4 hI⟩
        clear h0 hI
        unfold F_towpathlaw02_CodecBack_L1 at h
        refine wpE_seq (x := c_towpathlaw02_CodecBack_26) (y := c_towpathlaw02_CodecBack_32) (by kernel_rfl) ?_
        refine wpE_seq (x := c_towpathlaw02_CodecBack_27) (y := c_towpathlaw02_CodecBack_29) (by kernel_rfl) ?_
        refine wpE_region (id := 6) (ops := r_towpathlaw02_CodecBack_27) (by kernel_rfl) ?_
        refine reg_run [.plain, .plain, .plain, .plain] 4 [(0, [], Value.slice script.ptr script.len script.cap), (3, [], Value.pointer v18), (4, [], Value.slice put.ptr put.len put.cap), (5, [], Value.int .i64 i), (22, [], Value.bool (decide (i < ((script.len : Nat) : Int))))] (by kernel_rfl) (by kernel_rfl) ?_
        refine reg_end [(0, Value.slice script.ptr script.len script.cap), (3, Value.pointer v18), (4, Value.slice put.ptr put.len put.cap), (5, Value.int .i64 i), (22, Value.bool (decide (i < ((script.len : Nat) : Int))))] (by kernel_rfl) (by kernel_rfl) ?_
        change WpE _ _ c_towpathlaw02_CodecBack_29 _ _ _
        refine wpE_cond (o := (Operand.tmp 22)) (b := (decide (i < ((script.len : Nat) : Int)))) (x := c_towpathlaw02_CodecBack_30) (y := c_towpathlaw02_CodecBack_31) (by kernel_rfl) (by kernel_rfl) (fun hb => ?_) (fun hb => ?_)
        · replace h := h.1 hb
          refine wpE_skip (by kernel_rfl) ?_
          change WpE _ _ c_towpathlaw02_CodecBack_32 _ _ _
          refine wpE_seq_cut (x := c_towpathlaw02_CodecBack_33) (y := c_towpathlaw02_CodecBack_68) (by kernel_rfl) (fun l w => ∃ (put1 : Slc), l = [(0, Value.slice script.ptr script.len script.cap), (3, Value.pointer v18), (4, Value.slice put1.ptr put1.len put1.cap), (5, Value.int .i64 i)] ∧ F_towpathlaw02_CodecBack_k2 i again_ put1 w) ?_ ?_
          · refine wpE_block (id := 1) (x := c_towpathlaw02_CodecBack_34) (by kernel_rfl) ?_
            refine wpE_seq (x := c_towpathlaw02_CodecBack_35) (y := c_towpathlaw02_CodecBack_37) (by kernel_rfl) ?_
            refine wpE_region (id := 8) (ops := r_towpathlaw02_CodecBack_35) (by kernel_rfl) ?_
            refine reg_run [.plain, .plain] 2 [(0, [], Value.slice script.ptr script.len script.cap), (3, [], Value.pointer v18), (4, [], Value.slice put.ptr put.len put.cap), (5, [], Value.int .i64 i), (25, [], Value.slice script.ptr script.len script.cap), (26, [], Value.int .i64 i)] (by kernel_rfl) (by kernel_rfl) ?_
            obtain ⟨hp_7, h⟩ := h
            refine reg_conv [(0, [], Value.slice script.ptr script.len script.cap), (3, [], Value.pointer v18), (4, [], Value.slice put.ptr put.len put.cap), (5, [], Value.int .i64 i), (25, [], Value.slice (some ⟨(pblk script.ptr), (poff script.ptr), none⟩) script.len script.cap), (26, [], Value.int .i64 i)] (congrArg (fun pp => ([(0, [], Value.slice script.ptr script.len script.cap), (3, [], Value.pointer v18), (4, [], Value.slice put.ptr put.len put.cap), (5, [], Value.int .i64 i), (25, [], Value.slice pp script.len script.cap), (26, [], Value.int .i64 i)] : GEnv)) hp_7) ?_
            obtain ⟨h0, h1, h⟩ := h
            refine reg_indexS (t := 23) (e := 37) (x := (Go.Operand.tmp 25)) (ix := (Go.Operand.tmp 26)) (b := (pblk script.ptr)) (o := (poff script.ptr)) (l := script.len) (c := script.cap) (k := .i64) (j := i) (ty := 0) (dst := some 27) (sz := 5) (by kernel_rfl) (by kernel_rfl) (by kernel_rfl) (by kernel_rfl) (by kernel_rfl) h0 h1 ?_
            refine reg_run [] 3 [(0, [], Value.slice script.ptr script.len script.cap), (3, [], Value.pointer v18), (4, [], Value.slice put.ptr put.len put.cap), (5, [], Value.int .i64 i), (27, [], Value.pointer (some ⟨(pblk script.ptr), (poff script.ptr) + i.toNat * 5, none⟩))] (by kernel_rfl) (by kernel_rfl) ?_
            obtain ⟨v28, hc, h⟩ := h
            refine reg_loadN (t := 37) (a := (Go.Operand.tmp 27)) (b := (pblk script.ptr)) (o := ((poff script.ptr) + i.toNat * 5)) (ty := 37) (dst := some 28) [Value.int .u8 v28.Kind, Value.int .u64 v28.N, Value.int .i64 v28.Width, Value.string v28.Text, Value.int .i64 v28.Most] (by kernel_rfl) (by kernel_rfl) (by kernel_rfl) (k := 5) (by kernel_rfl) (by kernel_rfl) hc ?_
            refine reg_run [] 4 [(0, [], Value.slice script.ptr script.len script.cap), (3, [], Value.pointer v18), (4, [], Value.slice put.ptr put.len put.cap), (5, [], Value.int .i64 i), (28, [], Value.agg #[Value.int .u8 v28.Kind, Value.int .u64 v28.N, Value.int .i64 v28.Width, Value.string v28.Text, Value.int .i64 v28.Most])] (by kernel_rfl) (by kernel_rfl) ?_
            refine reg_new (op := (Go.Op.alloc 37)) (ty := 0) (dst := some 6) (fun bb => Value.pointer (some ⟨bb, 0, none⟩)) (Obj.cells ([Value.int .u8 0, Value.int .u64 0, Value.int .i64 0, Value.string ByteArray.empty, Value.int .i64 0]).toArray ty_towpathlaw02_Op (0, 0)) (by kernel_rfl) (by kernel_rfl) (fun b_ w6 hb hw => ?_)
            replace h := h b_ w6 hb hw
            clear hb hw
            refine reg_run [] 5 [(0, [], Value.slice script.ptr script.len script.cap), (3, [], Value.pointer v18), (4, [], Value.slice put.ptr put.len put.cap), (5, [], Value.int .i64 i), (6, [], Value.pointer (some ⟨b_, 0, none⟩)), (28, [], Value.agg #[Value.int .u8 v28.Kind, Value.int .u64 v28.N, Value.int .i64 v28.Width, Value.string v28.Text, Value.int .i64 v28.Most])] (by kernel_rfl) (by kernel_rfl) ?_
            obtain ⟨hc, h⟩ := h
            refine reg_store (t := 37) (a := (Go.Operand.tmp 6)) (x := (Go.Operand.tmp 28)) (b := b_) (o := 0) (ty := 0) (dst := none) [Value.int .u8 v28.Kind, Value.int .u64 v28.N, Value.int .i64 v28.Width, Value.string v28.Text, Value.int .i64 v28.Most] (by kernel_rfl) (by kernel_rfl) (by kernel_rfl) (k := 5) (by kernel_rfl) (by kernel_rfl) (by kernel_rfl) hc (fun w7 hw => ?_)
            replace h := h w7 hw
            clear hw
            refine reg_end [(0, Value.slice script.ptr script.len script.cap), (3, Value.pointer v18), (4, Value.slice put.ptr put.len put.cap), (5, Value.int .i64 i), (6, Value.pointer (some ⟨b_, 0, none⟩))] (by kernel_rfl) (by kernel_rfl) ?_
            change WpE _ _ c_towpathlaw02_CodecBack_37 _ _ _
            refine wpE_seq_cut (x := c_towpathlaw02_CodecBack_38) (y := c_towpathlaw02_CodecBack_66) (by kernel_rfl) (fun l w => l = [(0, Value.slice script.ptr script.len script.cap), (3, Value.pointer v18), (4, Value.slice put.ptr put.len put.cap), (5, Value.int .i64 i), (6, Value.pointer (some ⟨b_, 0, none⟩))] ∧ F_towpathlaw02_CodecBack_k3 put i again_ b_ w) ?_ ?_
            · refine wpE_seq (x := c_towpathlaw02_CodecBack_39) (y := c_towpathlaw02_CodecBack_41) (by kernel_rfl) ?_
              refine wpE_region (id := 9) (ops := r_towpathlaw02_CodecBack_39) (by kernel_rfl) ?_
              refine reg_run [.plain] 1 [(0, [], Value.slice script.ptr script.len script.cap), (3, [], Value.pointer v18), (4, [], Value.slice put.ptr put.len put.cap), (5, [], Value.int .i64 i), (6, [], Value.pointer (some ⟨b_, 0, none⟩)), (29, [], Value.pointer (some ⟨b_, 0, none⟩))] (by kernel_rfl) (by kernel_rfl) ?_
              obtain ⟨v30, hc, h⟩ := h
              refine reg_load1 (t := 5) (a := (Go.Operand.tmp 29)) (b := b_) (o := 0) (ty := 5) (dst := some 30) (by kernel_rfl) (by kernel_rfl) (by kernel_rfl) hc ?_
              refine reg_end [(0, Value.slice script.ptr script.len script.cap), (3, Value.pointer v18), (4, Value.slice put.ptr put.len put.cap), (5, Value.int .i64 i), (6, Value.pointer (some ⟨b_, 0, none⟩)), (30, Value.int .u8 v30)] (by kernel_rfl) (by kernel_rfl) ?_
              change WpE _ _ c_towpathlaw02_CodecBack_41 _ _ _
              refine wpE_block (id := 2) (x := c_towpathlaw02_CodecBack_42) (by kernel_rfl) ?_
              refine wpE_seq (x := c_towpathlaw02_CodecBack_43) (y := c_towpathlaw02_CodecBack_45) (by kernel_rfl) ?_
              refine wpE_region (id := 11) (ops := r_towpathlaw02_CodecBack_43) (by kernel_rfl) ?_
              refine reg_run [.plain, .plain] 2 [(0, [], Value.slice script.ptr script.len script.cap), (3, [], Value.pointer v18), (4, [], Value.slice put.ptr put.len put.cap), (5, [], Value.int .i64 i), (6, [], Value.pointer (some ⟨b_, 0, none⟩)), (30, [], Value.int .u8 v30), (35, [], Value.bool (v30 == 1))] (by kernel_rfl) (by kernel_rfl) ?_
              refine reg_end [(0, Value.slice script.ptr script.len script.cap), (3, Value.pointer v18), (4, Value.slice put.ptr put.len put.cap), (5, Value.int .i64 i), (6, Value.pointer (some ⟨b_, 0, none⟩)), (30, Value.int .u8 v30), (35, Value.bool (v30 == 1))] (by kernel_rfl) (by kernel_rfl) ?_
              change WpE _ _ c_towpathlaw02_CodecBack_45 _ _ _
              refine wpE_cond (o := (Operand.tmp 35)) (b := (v30 == 1)) (x := c_towpathlaw02_CodecBack_46) (y := c_towpathlaw02_CodecBack_52) (by kernel_rfl) (by kernel_rfl) (fun hb => ?_) (fun hb => ?_)
              · replace h := h.1 hb
                refine wpE_seq (x := c_towpathlaw02_CodecBack_47) (y := c_towpathlaw02_CodecBack_49) (by kernel_rfl) ?_
                refine wpE_region (id := 12) (ops := r_towpathlaw02_CodecBack_47) (by kernel_rfl) ?_
                refine reg_run [.plain, .plain] 2 [(0, [], Value.slice script.ptr script.len script.cap), (3, [], Value.pointer v18), (4, [], Value.slice put.ptr put.len put.cap), (5, [], Value.int .i64 i), (6, [], Value.pointer (some ⟨b_, 0, none⟩)), (37, [], Value.pointer v18), (38, [], Value.pointer (some ⟨b_, 1, none⟩))] (by kernel_rfl) (by kernel_rfl) ?_
                obtain ⟨v39, hc, h⟩ := h
                refine reg_load1 (t := 35) (a := (Go.Operand.tmp 38)) (b := b_) (o := 1) (ty := 35) (dst := some 39) (by kernel_rfl) (by kernel_rfl) (by kernel_rfl) hc ?_
                refine reg_run [.plain] 4 [(0, [], Value.slice script.ptr script.len script.cap), (3, [], Value.pointer v18), (4, [], Value.slice put.ptr put.len put.cap), (5, [], Value.int .i64 i), (6, [], Value.pointer (some ⟨b_, 0, none⟩)), (37, [], Value.pointer v18), (39, [], Value.int .u64 v39), (40, [], Value.pointer (some ⟨b_, 2, none⟩))] (by kernel_rfl) (by kernel_rfl) ?_
                obtain ⟨v41, hc, h⟩ := h
                refine reg_load1 (t := 3) (a := (Go.Operand.tmp 40)) (b := b_) (o := 2) (ty := 3) (dst := some 41) (by kernel_rfl) (by kernel_rfl) (by kernel_rfl) hc ?_
                refine reg_run [] 5 [(0, [], Value.slice script.ptr script.len script.cap), (3, [], Value.pointer v18), (4, [], Value.slice put.ptr put.len put.cap), (5, [], Value.int .i64 i), (6, [], Value.pointer (some ⟨b_, 0, none⟩)), (37, [], Value.pointer v18), (39, [], Value.int .u64 v39), (41, [], Value.int .i64 v41)] (by kernel_rfl) (by kernel_rfl) ?_
                refine reg_enter (op := (Go.Op.call (Go.Call.mk (Go.Callee.value (Go.Operand.func 42)) #[(Go.Operand.tmp 37), (Go.Operand.tmp 39), (Go.Operand.tmp 41)] #[65, 35, 3]))) (ty := 30) (dst := some 42) 42 #[Value.pointer v18, Value.int .u64 v39, Value.int .i64 v41] (by kernel_rfl) (fun ww => by kernel_rfl) (Calls.mono h ?_)
                rintro _ w11 ⟨v42, rfl, h⟩
                refine ⟨_, rfl, ?_⟩
                refine reg_run [.plain] 7 [(0, [], Value.slice script.ptr script.len script.cap), (3, [], Value.pointer v18), (4, [], Value.slice put.ptr put.len put.cap), (5, [], Value.int .i64 i), (6, [], Value.pointer (some ⟨b_, 0, none⟩)), (43, [], Value.bool (v42 != 0))] (by kernel_rfl) (by kernel_rfl) ?_
                refine reg_end [(0, Value.slice script.ptr script.len script.cap), (3, Value.pointer v18), (4, Value.slice put.ptr put.len put.cap), (5, Value.int .i64 i), (6, Value.pointer (some ⟨b_, 0, none⟩)), (43, Value.bool (v42 != 0))] (by kernel_rfl) (by kernel_rfl) ?_
                change WpE _ _ c_towpathlaw02_CodecBack_49 _ _ _
                refine wpE_cond (o := (Operand.tmp 43)) (b := (v42 != 0)) (x := c_towpathlaw02_CodecBack_50) (y := c_towpathlaw02_CodecBack_51) (by kernel_rfl) (by kernel_rfl) (fun hb => ?_) (fun hb => ?_)
                · replace h := h.1 hb
                  refine wpE_exit (id := 1) (by kernel_rfl) ?_
                  exact ⟨[(0, Value.slice script.ptr script.len script.cap), (3, Value.pointer v18), (4, Value.slice put.ptr put.len put.cap), (5, Value.int .i64 i)], Sub.mk (by kernel_rfl), put, rfl, h⟩
                · replace h := h.2 hb
                  refine wpE_skip (by kernel_rfl) ?_
                  exact ⟨[(0, Value.slice script.ptr script.len script.cap), (3, Value.pointer v18), (4, Value.slice put.ptr put.len put.cap), (5, Value.int .i64 i), (6, Value.pointer (some ⟨b_, 0, none⟩))], Sub.mk (by kernel_rfl), rfl, h⟩
              · replace h := h.2 hb
                refine wpE_seq (x := c_towpathlaw02_CodecBack_53) (y := c_towpathlaw02_CodecBack_55) (by kernel_rfl) ?_
                refine wpE_region (id := 13) (ops := r_towpathlaw02_CodecBack_53) (by kernel_rfl) ?_
                refine reg_run [.plain, .plain] 2 [(0, [], Value.slice script.ptr script.len script.cap), (3, [], Value.pointer v18), (4, [], Value.slice put.ptr put.len put.cap), (5, [], Value.int .i64 i), (6, [], Value.pointer (some ⟨b_, 0, none⟩)), (30, [], Value.int .u8 v30), (44, [], Value.bool (v30 == 3))] (by kernel_rfl) (by kernel_rfl) ?_
                refine reg_end [(0, Value.slice script.ptr script.len script.cap), (3, Value.pointer v18), (4, Value.slice put.ptr put.len put.cap), (5, Value.int .i64 i), (6, Value.pointer (some ⟨b_, 0, none⟩)), (30, Value.int .u8 v30), (44, Value.bool (v30 == 3))] (by kernel_rfl) (by kernel_rfl) ?_
                change WpE _ _ c_towpathlaw02_CodecBack_55 _ _ _
                refine wpE_cond (o := (Operand.tmp 44)) (b := (v30 == 3)) (x := c_towpathlaw02_CodecBack_56) (y := c_towpathlaw02_CodecBack_58) (by kernel_rfl) (by kernel_rfl) (fun hb => ?_) (fun hb => ?_)
                · replace h := h.1 hb
                  refine wpE_region (id := 14) (ops := r_towpathlaw02_CodecBack_56) (by kernel_rfl) ?_
                  refine reg_run [.plain, .plain] 2 [(0, [], Value.slice script.ptr script.len script.cap), (3, [], Value.pointer v18), (4, [], Value.slice put.ptr put.len put.cap), (5, [], Value.int .i64 i), (6, [], Value.pointer (some ⟨b_, 0, none⟩)), (46, [], Value.pointer v18), (47, [], Value.pointer (some ⟨b_, 1, none⟩))] (by kernel_rfl) (by kernel_rfl) ?_
                  obtain ⟨v48, hc, h⟩ := h
                  refine reg_load1 (t := 35) (a := (Go.Operand.tmp 47)) (b := b_) (o := 1) (ty := 35) (dst := some 48) (by kernel_rfl) (by kernel_rfl) (by kernel_rfl) hc ?_
                  refine reg_run [.plain] 4 [(0, [], Value.slice script.ptr script.len script.cap), (3, [], Value.pointer v18), (4, [], Value.slice put.ptr put.len put.cap), (5, [], Value.int .i64 i), (6, [], Value.pointer (some ⟨b_, 0, none⟩)), (46, [], Value.pointer v18), (49, [], Value.int .i64 (IntKind.i64.wrap v48))] (by kernel_rfl) (by kernel_rfl) ?_
                  refine reg_enter (op := (Go.Op.call (Go.Call.mk (Go.Callee.value (Go.Operand.func 38)) #[(Go.Operand.tmp 46), (Go.Operand.tmp 49)] #[65, 2]))) (ty := 0) (dst := some 50) 38 #[Value.pointer v18, Value.int .i64 (IntKind.i64.wrap v48)] (by kernel_rfl) (fun ww => by kernel_rfl) (Calls.mono h ?_)
                  rintro _ w12 ⟨rfl, h⟩
                  refine ⟨_, rfl, ?_⟩
                  refine reg_end [(0, Value.slice script.ptr script.len script.cap), (3, Value.pointer v18), (4, Value.slice put.ptr put.len put.cap), (5, Value.int .i64 i), (6, Value.pointer (some ⟨b_, 0, none⟩))] (by kernel_rfl) (by kernel_rfl) ?_
                  exact ⟨[(0, Value.slice script.ptr script.len script.cap), (3, Value.pointer v18), (4, Value.slice put.ptr put.len put.cap), (5, Value.int .i64 i), (6, Value.pointer (some ⟨b_, 0, none⟩))], Sub.mk (by kernel_rfl), rfl, h⟩
                · replace h := h.2 hb
                  refine wpE_seq (x := c_towpathlaw02_CodecBack_59) (y := c_towpathlaw02_CodecBack_61) (by kernel_rfl) ?_
                  refine wpE_region (id := 15) (ops := r_towpathlaw02_CodecBack_59) (by kernel_rfl) ?_
                  refine reg_run [.plain, .plain] 2 [(0, [], Value.slice script.ptr script.len script.cap), (3, [], Value.pointer v18), (4, [], Value.slice put.ptr put.len put.cap), (5, [], Value.int .i64 i), (6, [], Value.pointer (some ⟨b_, 0, none⟩)), (51, [], Value.bool (v30 == 4))] (by kernel_rfl) (by kernel_rfl) ?_
                  refine reg_end [(0, Value.slice script.ptr script.len script.cap), (3, Value.pointer v18), (4, Value.slice put.ptr put.len put.cap), (5, Value.int .i64 i), (6, Value.pointer (some ⟨b_, 0, none⟩)), (51, Value.bool (v30 == 4))] (by kernel_rfl) (by kernel_rfl) ?_
                  change WpE _ _ c_towpathlaw02_CodecBack_61 _ _ _
                  refine wpE_cond (o := (Operand.tmp 51)) (b := (v30 == 4)) (x := c_towpathlaw02_CodecBack_62) (y := c_towpathlaw02_CodecBack_64) (by kernel_rfl) (by kernel_rfl) (fun hb => ?_) (fun hb => ?_)
                  · replace h := h.1 hb
                    refine wpE_region (id := 16) (ops := r_towpathlaw02_CodecBack_62) (by kernel_rfl) ?_
                    refine reg_run [.plain, .plain] 2 [(0, [], Value.slice script.ptr script.len script.cap), (3, [], Value.pointer v18), (4, [], Value.slice put.ptr put.len put.cap), (5, [], Value.int .i64 i), (6, [], Value.pointer (some ⟨b_, 0, none⟩)), (53, [], Value.pointer v18), (54, [], Value.pointer (some ⟨b_, 3, none⟩))] (by kernel_rfl) (by kernel_rfl) ?_
                    obtain ⟨v55, hc, h⟩ := h
                    refine reg_load1 (t := 9) (a := (Go.Operand.tmp 54)) (b := b_) (o := 3) (ty := 9) (dst := some 55) (by kernel_rfl) (by kernel_rfl) (by kernel_rfl) hc ?_
                    refine reg_run [] 3 [(0, [], Value.slice script.ptr script.len script.cap), (3, [], Value.pointer v18), (4, [], Value.slice put.ptr put.len put.cap), (5, [], Value.int .i64 i), (6, [], Value.pointer (some ⟨b_, 0, none⟩)), (53, [], Value.pointer v18), (55, [], Value.string v55)] (by kernel_rfl) (by kernel_rfl) ?_
                    refine reg_enter (op := (Go.Op.call (Go.Call.mk (Go.Callee.value (Go.Operand.func 40)) #[(Go.Operand.tmp 53), (Go.Operand.tmp 55)] #[65, 9]))) (ty := 0) (dst := some 56) 40 #[Value.pointer v18, Value.string v55] (by kernel_rfl) (fun ww => by kernel_rfl) (Calls.mono h ?_)
                    rintro _ w13 ⟨rfl, h⟩
                    refine ⟨_, rfl, ?_⟩
                    refine reg_end [(0, Value.slice script.ptr script.len script.cap), (3, Value.pointer v18), (4, Value.slice put.ptr put.len put.cap), (5, Value.int .i64 i), (6, Value.pointer (some ⟨b_, 0, none⟩))] (by kernel_rfl) (by kernel_rfl) ?_
                    exact ⟨[(0, Value.slice script.ptr script.len script.cap), (3, Value.pointer v18), (4, Value.slice put.ptr put.len put.cap), (5, Value.int .i64 i), (6, Value.pointer (some ⟨b_, 0, none⟩))], Sub.mk (by kernel_rfl), rfl, h⟩
                  · replace h := h.2 hb
                    refine wpE_region (id := 10) (ops := r_towpathlaw02_CodecBack_64) (by kernel_rfl) ?_
                    refine reg_run [.plain, .plain] 2 [(0, [], Value.slice script.ptr script.len script.cap), (3, [], Value.pointer v18), (4, [], Value.slice put.ptr put.len put.cap), (5, [], Value.int .i64 i), (6, [], Value.pointer (some ⟨b_, 0, none⟩)), (31, [], Value.pointer v18), (32, [], Value.pointer (some ⟨b_, 1, none⟩))] (by kernel_rfl) (by kernel_rfl) ?_
                    obtain ⟨v33, hc, h⟩ := h
                    refine reg_load1 (t := 35) (a := (Go.Operand.tmp 32)) (b := b_) (o := 1) (ty := 35) (dst := some 33) (by kernel_rfl) (by kernel_rfl) (by kernel_rfl) hc ?_
                    refine reg_run [] 3 [(0, [], Value.slice script.ptr script.len script.cap), (3, [], Value.pointer v18), (4, [], Value.slice put.ptr put.len put.cap), (5, [], Value.int .i64 i), (6, [], Value.pointer (some ⟨b_, 0, none⟩)), (31, [], Value.pointer v18), (33, [], Value.int .u64 v33)] (by kernel_rfl) (by kernel_rfl) ?_
                    refine reg_enter (op := (Go.Op.call (Go.Call.mk (Go.Callee.value (Go.Operand.func 34)) #[(Go.Operand.tmp 31), (Go.Operand.tmp 33)] #[65, 35]))) (ty := 0) (dst := some 34) 34 #[Value.pointer v18, Value.int .u64 v33] (by kernel_rfl) (fun ww => by kernel_rfl) (Calls.mono h ?_)
                    rintro _ w14 ⟨rfl, h⟩
                    refine ⟨_, rfl, ?_⟩
                    refine reg_end [(0, Value.slice script.ptr script.len script.cap), (3, Value.pointer v18), (4, Value.slice put.ptr put.len put.cap), (5, Value.int .i64 i), (6, Value.pointer (some ⟨b_, 0, none⟩))] (by kernel_rfl) (by kernel_rfl) ?_
                    exact ⟨[(0, Value.slice script.ptr script.len script.cap), (3, Value.pointer v18), (4, Value.slice put.ptr put.len put.cap), (5, Value.int .i64 i), (6, Value.pointer (some ⟨b_, 0, none⟩))], Sub.mk (by kernel_rfl), rfl, h⟩
            · rintro _ w8 ⟨rfl, h⟩
              unfold F_towpathlaw02_CodecBack_k3 at h
              refine wpE_region (id := 17) (ops := r_towpathlaw02_CodecBack_66) (by kernel_rfl) ?_
              refine reg_run [.plain] 1 [(0, [], Value.slice script.ptr script.len script.cap), (3, [], Value.pointer v18), (4, [], Value.slice put.ptr put.len put.cap), (5, [], Value.int .i64 i), (6, [], Value.pointer (some ⟨b_, 0, none⟩)), (57, [], Value.slice put.ptr put.len put.cap)] (by kernel_rfl) (by kernel_rfl) ?_
              obtain ⟨v58, hc, h⟩ := h
              refine reg_loadN (t := 37) (a := (Go.Operand.tmp 6)) (b := b_) (o := 0) (ty := 37) (dst := some 58) [Value.int .u8 v58.Kind, Value.int .u64 v58.N, Value.int .i64 v58.Width, Value.string v58.Text, Value.int .i64 v58.Most] (by kernel_rfl) (by kernel_rfl) (by kernel_rfl) (k := 5) (by kernel_rfl) (by kernel_rfl) hc ?_
              refine reg_run [] 2 [(0, [], Value.slice script.ptr script.len script.cap), (3, [], Value.pointer v18), (4, [], Value.slice put.ptr put.len put.cap), (5, [], Value.int .i64 i), (57, [], Value.slice put.ptr put.len put.cap), (58, [], Value.agg #[Value.int .u8 v58.Kind, Value.int .u64 v58.N, Value.int .i64 v58.Width, Value.string v58.Text, Value.int .i64 v58.Most])] (by kernel_rfl) (by kernel_rfl) ?_
              refine reg_new (op := (Go.Op.buildSlice 23 1 #[(0, (Go.Operand.tmp 58))])) (ty := 23) (dst := some 59) (fun bb => Value.slice (some ⟨bb, 0, none⟩) 1 1) (Obj.cells ([Value.int .u8 v58.Kind, Value.int .u64 v58.N, Value.int .i64 v58.Width, Value.string v58.Text, Value.int .i64 v58.Most]).toArray ty_towpathlaw02_Op (0, 0)) (by kernel_rfl) (by kernel_rfl) (fun b_1 w9 hb hw => ?_)
              replace h := h b_1 w9 hb hw
              clear hb hw
              refine reg_run [] 3 [(0, [], Value.slice script.ptr script.len script.cap), (3, [], Value.pointer v18), (4, [], Value.slice put.ptr put.len put.cap), (5, [], Value.int .i64 i), (57, [], Value.slice put.ptr put.len put.cap), (59, [], Value.slice (some ⟨b_1, 0, none⟩) 1 1)] (by kernel_rfl) (by kernel_rfl) ?_
              obtain ⟨src, hs, h⟩ := h
              refine reg_append (t := 23) (tx := 23) (e := 37) (a := (Go.Operand.tmp 57)) (xo := (Go.Operand.tmp 59)) (s := put) (x := (Slc.mk (some ⟨b_1, 0, none⟩) 1 1)) (sz := 5) (by_ := 48) (zs := [Value.int .u8 0, Value.int .u64 0, Value.int .i64 0, Value.string ByteArray.empty, Value.int .i64 0]) (ty := 23) (dst := some 60)  src (by kernel_rfl) (by kernel_rfl) (by kernel_rfl) (by kernel_rfl) (by kernel_rfl) (by kernel_rfl) (by kernel_rfl) (by kernel_rfl) (by kernel_rfl) hs (AppendW.mono h (fun put2 w10 h => ?_))
              refine reg_run [.plain] 5 [(0, [], Value.slice script.ptr script.len script.cap), (3, [], Value.pointer v18), (4, [], Value.slice put2.ptr put2.len put2.cap), (5, [], Value.int .i64 i)] (by kernel_rfl) (by kernel_rfl) ?_
              refine reg_end [(0, Value.slice script.ptr script.len script.cap), (3, Value.pointer v18), (4, Value.slice put2.ptr put2.len put2.cap), (5, Value.int .i64 i)] (by kernel_rfl) (by kernel_rfl) ?_
              exact ⟨[(0, Value.slice script.ptr script.len script.cap), (3, Value.pointer v18), (4, Value.slice put2.ptr put2.len put2.cap), (5, Value.int .i64 i)], Sub.mk (by kernel_rfl), put2, rfl, h⟩
          · rintro _ w5 ⟨put1, rfl, h⟩
            unfold F_towpathlaw02_CodecBack_k2 at h
            refine wpE_region (id := 7) (ops := r_towpathlaw02_CodecBack_68) (by kernel_rfl) ?_
            refine reg_run [.plain, .plain, .plain] 3 [(0, [], Value.slice script.ptr script.len script.cap), (3, [], Value.pointer v18), (4, [], Value.slice put1.ptr put1.len put1.cap), (5, [], Value.int .i64 (IntKind.i64.wrap (i + 1)))] (by kernel_rfl) (by kernel_rfl) ?_
            refine reg_end [(0, Value.slice script.ptr script.len script.cap), (3, Value.pointer v18), (4, Value.slice put1.ptr put1.len put1.cap), (5, Value.int .i64 (IntKind.i64.wrap (i + 1)))] (by kernel_rfl) (by kernel_rfl) ?_
            have hb_ := again__h _ _ _ h
            exact ⟨_, hb_.2, [(0, Value.slice script.ptr script.len script.cap), (3, Value.pointer v18), (4, Value.slice put1.ptr put1.len put1.cap), (5, Value.int .i64 (IntKind.i64.wrap (i + 1)))], Sub.mk (by kernel_rfl), put1, (IntKind.i64.wrap (i + 1)), rfl, hb_.1, rfl⟩
        · replace h := h.2 hb
          refine wpE_exit (id := 0) (by kernel_rfl) ?_
          change WpE _ _ c_towpathlaw02_CodecBack_70 _ _ _
          refine wpE_seq (x := c_towpathlaw02_CodecBack_71) (y := c_towpathlaw02_CodecBack_73) (by kernel_rfl) ?_
          refine wpE_region (id := 18) (ops := r_towpathlaw02_CodecBack_71) (by kernel_rfl) ?_
          refine reg_run [.plain] 1 [(4, [], Value.slice put.ptr put.len put.cap), (61, [], Value.pointer v18)] (by kernel_rfl) (by kernel_rfl) ?_
          refine reg_enter (op := (Go.Op.call (Go.Call.mk (Go.Callee.value (Go.Operand.func 35)) #[(Go.Operand.tmp 61)] #[65]))) (ty := 22) (dst := some 62) 35 #[Value.pointer v18] (by kernel_rfl) (fun ww => by kernel_rfl) (Calls.mono h ?_)
          rintro _ w15 ⟨v62, rfl, h⟩
          refine ⟨_, rfl, ?_⟩
          refine reg_run [] 2 [(4, [], Value.slice put.ptr put.len put.cap), (62, [], Value.slice v62.ptr v62.len v62.cap)] (by kernel_rfl) (by kernel_rfl) ?_
          refine reg_enter (op := (Go.Op.call (Go.Call.mk (Go.Callee.value (Go.Operand.func 14)) #[(Go.Operand.tmp 62)] #[22]))) (ty := 27) (dst := some 63) 14 #[Value.slice v62.ptr v62.len v62.cap] (by kernel_rfl) (fun ww => by kernel_rfl) (Calls.mono h ?_)
          rintro _ w16 ⟨v63, rfl, h⟩
          refine ⟨_, rfl, ?_⟩
          refine reg_run [.plain] 4 [(4, [], Value.slice put.ptr put.len put.cap), (7, [], Value.pointer v63)] (by kernel_rfl) (by kernel_rfl) ?_
          refine reg_end [(4, Value.slice put.ptr put.len put.cap), (7, Value.pointer v63)] (by kernel_rfl) (by kernel_rfl) ?_
          change WpE _ _ c_towpathlaw02_CodecBack_73 _ _ _
          refine wpE_seq (x := c_towpathlaw02_CodecBack_74) (y := c_towpathlaw02_CodecBack_130) (by kernel_rfl) ?_
          refine wpE_seq (x := c_towpathlaw02_CodecBack_75) (y := c_towpathlaw02_CodecBack_77) (by kernel_rfl) ?_
          refine wpE_region (id := 19) (ops := r_towpathlaw02_CodecBack_75) (by kernel_rfl) ?_
          refine reg_run [.plain] 1 [(4, [], Value.slice put.ptr put.len put.cap), (7, [], Value.pointer v63), (8, [], Value.int .i64 0)] (by kernel_rfl) (by kernel_rfl) ?_
          refine reg_end [(4, Value.slice put.ptr put.len put.cap), (7, Value.pointer v63), (8, Value.int .i64 0)] (by kernel_rfl) (by kernel_rfl) ?_
          change WpE _ _ c_towpathlaw02_CodecBack_77 _ _ _
          refine wpE_block (id := 3) (x := c_towpathlaw02_CodecBack_78) (by kernel_rfl) ?_
          obtain ⟨I, μ, h0, hr⟩ := h
          refine wpE_loop (x := c_towpathlaw02_CodecBack_79) (by kernel_rfl) (fun m l w => ∃ (i1 : Int), l = [(4, Value.slice put.ptr put.len put.cap), (7, Value.pointer v63), (8, Value.int .i64 i1)] ∧ I i1 w ∧ μ i1 w = m) (l' := [(4, Value.slice put.ptr put.len put.cap), (7, Value.pointer v63), (8, Value.int .i64 0)]) (Sub.mk (by kernel_rfl)) ⟨0, rfl, h0, rfl⟩ ?_
          rintro _ _ w17 ⟨i1, rfl, hI, rfl⟩
          obtain ⟨again_1, again_1_h, h⟩ : ∃ again_1 : Int → World → Prop, (∀ i1' w', again_1 i1' w' → I i1' w' ∧ μ i1' w' < μ i1 w17) ∧ F_towpathlaw02_CodecBack_L4 R put v63 again_1 i1 w17 := ⟨_, fun _ _ h => h, hr i1 w17 hI⟩
          clear h0 hI
          unfold F_towpathlaw02_CodecBack_L4 at h
          refine wpE_seq (x := c_towpathlaw02_CodecBack_80) (y := c_towpathlaw02_CodecBack_86) (by kernel_rfl) ?_
          refine wpE_seq (x := c_towpathlaw02_CodecBack_81) (y := c_towpathlaw02_CodecBack_83) (by kernel_rfl) ?_
          refine wpE_region (id := 20) (ops := r_towpathlaw02_CodecBack_81) (by kernel_rfl) ?_
          refine reg_run [.plain, .plain, .plain, .plain] 4 [(4, [], Value.slice put.ptr put.len put.cap), (7, [], Value.pointer v63), (8, [], Value.int .i64 i1), (67, [], Value.bool (decide (i1 < ((put.len : Nat) : Int))))] (by kernel_rfl) (by kernel_rfl) ?_
          refine reg_end [(4, Value.slice put.ptr put.len put.cap), (7, Value.pointer v63), (8, Value.int .i64 i1), (67, Value.bool (decide (i1 < ((put.len : Nat) : Int))))] (by kernel_rfl) (by kernel_rfl) ?_
          change WpE _ _ c_towpathlaw02_CodecBack_83 _ _ _
          refine wpE_cond (o := (Operand.tmp 67)) (b := (decide (i1 < ((put.len : Nat) : Int)))) (x := c_towpathlaw02_CodecBack_84) (y := c_towpathlaw02_CodecBack_85) (by kernel_rfl) (by kernel_rfl) (fun hb => ?_) (fun hb => ?_)
          · replace h := h.1 hb
            refine wpE_skip (by kernel_rfl) ?_
            change WpE _ _ c_towpathlaw02_CodecBack_86 _ _ _
            refine wpE_seq (x := c_towpathlaw02_CodecBack_87) (y := c_towpathlaw02_CodecBack_128) (by kernel_rfl) ?_
            refine wpE_block (id := 4) (x := c_towpathlaw02_CodecBack_88) (by kernel_rfl) ?_
            refine wpE_seq (x := c_towpathlaw02_CodecBack_89) (y := c_towpathlaw02_CodecBack_91) (by kernel_rfl) ?_
            refine wpE_region (id := 22) (ops := r_towpathlaw02_CodecBack_89) (by kernel_rfl) ?_
            refine reg_run [.plain, .plain] 2 [(4, [], Value.slice put.ptr put.len put.cap), (7, [], Value.pointer v63), (8, [], Value.int .i64 i1), (70, [], Value.slice put.ptr put.len put.cap), (71, [], Value.int .i64 i1)] (by kernel_rfl) (by kernel_rfl) ?_
            obtain ⟨hp_15, h⟩ := h
            refine reg_conv [(4, [], Value.slice put.ptr put.len put.cap), (7, [], Value.pointer v63), (8, [], Value.int .i64 i1), (70, [], Value.slice (some ⟨(pblk put.ptr), (poff put.ptr), none⟩) put.len put.cap), (71, [], Value.int .i64 i1)] (congrArg (fun pp => ([(4, [], Value.slice put.ptr put.len put.cap), (7, [], Value.pointer v63), (8, [], Value.int .i64 i1), (70, [], Value.slice pp put.len put.cap), (71, [], Value.int .i64 i1)] : GEnv)) hp_15) ?_
            obtain ⟨h0, h1, h⟩ := h
            refine reg_indexS (t := 23) (e := 37) (x := (Go.Operand.tmp 70)) (ix := (Go.Operand.tmp 71)) (b := (pblk put.ptr)) (o := (poff put.ptr)) (l := put.len) (c := put.cap) (k := .i64) (j := i1) (ty := 0) (dst := some 72) (sz := 5) (by kernel_rfl) (by kernel_rfl) (by kernel_rfl) (by kernel_rfl) (by kernel_rfl) h0 h1 ?_
            refine reg_run [] 3 [(4, [], Value.slice put.ptr put.len put.cap), (7, [], Value.pointer v63), (8, [], Value.int .i64 i1), (72, [], Value.pointer (some ⟨(pblk put.ptr), (poff put.ptr) + i1.toNat * 5, none⟩))] (by kernel_rfl) (by kernel_rfl) ?_
            obtain ⟨v73, hc, h⟩ := h
            refine reg_loadN (t := 37) (a := (Go.Operand.tmp 72)) (b := (pblk put.ptr)) (o := ((poff put.ptr) + i1.toNat * 5)) (ty := 37) (dst := some 73) [Value.int .u8 v73.Kind, Value.int .u64 v73.N, Value.int .i64 v73.Width, Value.string v73.Text, Value.int .i64 v73.Most] (by kernel_rfl) (by kernel_rfl) (by kernel_rfl) (k := 5) (by kernel_rfl) (by kernel_rfl) hc ?_
            refine reg_run [] 4 [(4, [], Value.slice put.ptr put.len put.cap), (7, [], Value.pointer v63), (8, [], Value.int .i64 i1), (73, [], Value.agg #[Value.int .u8 v73.Kind, Value.int .u64 v73.N, Value.int .i64 v73.Width, Value.string v73.Text, Value.int .i64 v73.Most])] (by kernel_rfl) (by kernel_rfl) ?_
            refine reg_new (op := (Go.Op.alloc 37)) (ty := 0) (dst := some 9) (fun bb => Value.pointer (some ⟨bb, 0, none⟩)) (Obj.cells ([Value.int .u8 0, Value.int .u64 0, Value.int .i64 0, Value.string ByteArray.empty, Value.int .i64 0]).toArray ty_towpathlaw02_Op (0, 0)) (by kernel_rfl) (by kernel_rfl) (fun b_2 w18 hb hw => ?_)
            replace h := h b_2 w18 hb hw
            clear hb hw
            refine reg_run [] 5 [(4, [], Value.slice put.ptr put.len put.cap), (7, [], Value.pointer v63), (8, [], Value.int .i64 i1), (9, [], Value.pointer (some ⟨b_2, 0, none⟩)), (73, [], Value.agg #[Value.int .u8 v73.Kind, Value.int .u64 v73.N, Value.int .i64 v73.Width, Value.string v73.Text, Value.int .i64 v73.Most])] (by kernel_rfl) (by kernel_rfl) ?_
            obtain ⟨hc, h⟩ := h
            refine reg_store (t := 37) (a := (Go.Operand.tmp 9)) (x := (Go.Operand.tmp 73)) (b := b_2) (o := 0) (ty := 0) (dst := none) [Value.int .u8 v73.Kind, Value.int .u64 v73.N, Value.int .i64 v73.Width, Value.string v73.Text, Value.int .i64 v73.Most] (by kernel_rfl) (by kernel_rfl) (by kernel_rfl) (k := 5) (by kernel_rfl) (by kernel_rfl) (by kernel_rfl) hc (fun w19 hw => ?_)
            replace h := h w19 hw
            clear hw
            refine reg_end [(4, Value.slice put.ptr put.len put.cap), (7, Value.pointer v63), (8, Value.int .i64 i1), (9, Value.pointer (some ⟨b_2, 0, none⟩))] (by kernel_rfl) (by kernel_rfl) ?_
            change WpE _ _ c_towpathlaw02_CodecBack_91 _ _ _
            refine wpE_seq (x := c_towpathlaw02_CodecBack_92) (y := c_towpathlaw02_CodecBack_94) (by kernel_rfl) ?_
            refine wpE_region (id := 23) (ops := r_towpathlaw02_CodecBack_92) (by kernel_rfl) ?_
            refine reg_run [.plain] 1 [(4, [], Value.slice put.ptr put.len put.cap), (7, [], Value.pointer v63), (8, [], Value.int .i64 i1), (9, [], Value.pointer (some ⟨b_2, 0, none⟩))] (by kernel_rfl) (by kernel_rfl) ?_
            refine reg_end [(4, Value.slice put.ptr put.len put.cap), (7, Value.pointer v63), (8, Value.int .i64 i1), (9, Value.pointer (some ⟨b_2, 0, none⟩))] (by kernel_rfl) (by kernel_rfl) ?_
            change WpE _ _ c_towpathlaw02_CodecBack_94 _ _ _
            refine wpE_seq_cut (x := c_towpathlaw02_CodecBack_95) (y := c_towpathlaw02_CodecBack_119) (by kernel_rfl) (fun l w => ∃ (ok : Bool), l = [(4, Value.slice put.ptr put.len put.cap), (7, Value.pointer v63), (8, Value.int .i64 i1), (10, Value.bool ok)] ∧ F_towpathlaw02_CodecBack_k5 R v63 i1 again_1 ok w) ?_ ?_
            · refine wpE_seq (x := c_towpathlaw02_CodecBack_96) (y := c_towpathlaw02_CodecBack_98) (by kernel_rfl) ?_
              refine wpE_region (id := 24) (ops := r_towpathlaw02_CodecBack_96) (by kernel_rfl) ?_
              refine reg_run [.plain] 1 [(4, [], Value.slice put.ptr put.len put.cap), (7, [], Value.pointer v63), (8, [], Value.int .i64 i1), (9, [], Value.pointer (some ⟨b_2, 0, none⟩)), (74, [], Value.pointer (some ⟨b_2, 0, none⟩))] (by kernel_rfl) (by kernel_rfl) ?_
              obtain ⟨v75, hc, h⟩ := h
              refine reg_load1 (t := 5) (a := (Go.Operand.tmp 74)) (b := b_2) (o := 0) (ty := 5) (dst := some 75) (by kernel_rfl) (by kernel_rfl) (by kernel_rfl) hc ?_
              refine reg_end [(4, Value.slice put.ptr put.len put.cap), (7, Value.pointer v63), (8, Value.int .i64 i1), (9, Value.pointer (some ⟨b_2, 0, none⟩)), (75, Value.int .u8 v75)] (by kernel_rfl) (by kernel_rfl) ?_
              change WpE _ _ c_towpathlaw02_CodecBack_98 _ _ _
              refine wpE_block (id := 5) (x := c_towpathlaw02_CodecBack_99) (by kernel_rfl) ?_
              refine wpE_seq (x := c_towpathlaw02_CodecBack_100) (y := c_towpathlaw02_CodecBack_102) (by kernel_rfl) ?_
              refine wpE_region (id := 26) (ops := r_towpathlaw02_CodecBack_100) (by kernel_rfl) ?_
              refine reg_run [.plain, .plain] 2 [(4, [], Value.slice put.ptr put.len put.cap), (7, [], Value.pointer v63), (8, [], Value.int .i64 i1), (9, [], Value.pointer (some ⟨b_2, 0, none⟩)), (75, [], Value.int .u8 v75), (81, [], Value.bool (v75 == 1))] (by kernel_rfl) (by kernel_rfl) ?_
              refine reg_end [(4, Value.slice put.ptr put.len put.cap), (7, Value.pointer v63), (8, Value.int .i64 i1), (9, Value.pointer (some ⟨b_2, 0, none⟩)), (75, Value.int .u8 v75), (81, Value.bool (v75 == 1))] (by kernel_rfl) (by kernel_rfl) ?_
              change WpE _ _ c_towpathlaw02_CodecBack_102 _ _ _
              refine wpE_cond (o := (Operand.tmp 81)) (b := (v75 == 1)) (x := c_towpathlaw02_CodecBack_103) (y := c_towpathlaw02_CodecBack_105) (by kernel_rfl) (by kernel_rfl) (fun hb => ?_) (fun hb => ?_)
              · replace h := h.1 hb
                refine wpE_mixregion (id := 27) (ops := r_towpathlaw02_CodecBack_103) o_towpathlaw02_CodecBack_103 (by kernel_rfl) (by kernel_rfl) (by kernel_rfl) (by kernel_rfl) (fun w24 hw => ?_)
                replace h := h w24 hw
                clear hw
                refine mreg_run [.plain, .plain] 2 [(4, [], Value.slice put.ptr put.len put.cap), (7, [], Value.pointer v63), (8, [], Value.int .i64 i1), (9, [], Value.pointer (some ⟨b_2, 0, none⟩)), (83, [], Value.pointer v63), (84, [], Value.pointer (some ⟨b_2, 2, none⟩))] (by kernel_rfl) (by kernel_rfl) ?_
                obtain ⟨v85, hc, h⟩ := h
                refine mreg_load1 (i := 2) (by kernel_rfl) (t := 3) (a := (Go.Operand.tmp 84)) (b := b_2) (o := 2) (ty := 3) (dst := some 85) (by kernel_rfl) (by kernel_rfl) (by kernel_rfl) hc ?_
                refine mreg_run [.plain] 4 [(4, [], Value.slice put.ptr put.len put.cap), (7, [], Value.pointer v63), (8, [], Value.int .i64 i1), (83, [], Value.pointer v63), (85, [], Value.int .i64 v85), (87, [], Value.pointer (some ⟨b_2, 1, none⟩))] (by kernel_rfl) (by kernel_rfl) ?_
                obtain ⟨v88, hc, h⟩ := h
                refine mreg_load1 (i := 5) (by kernel_rfl) (t := 35) (a := (Go.Operand.tmp 87)) (b := b_2) (o := 1) (ty := 35) (dst := some 88) (by kernel_rfl) (by kernel_rfl) (by kernel_rfl) hc ?_
                refine mreg_run [] 5 [(4, [], Value.slice put.ptr put.len put.cap), (7, [], Value.pointer v63), (8, [], Value.int .i64 i1), (83, [], Value.pointer v63), (85, [], Value.int .i64 v85), (88, [], Value.int .u64 v88)] (by kernel_rfl) (by kernel_rfl) ?_
                refine mreg_enter (op := (Go.Op.call (Go.Call.mk (Go.Callee.value (Go.Operand.func 43)) #[(Go.Operand.tmp 83), (Go.Operand.tmp 85)] #[27, 3]))) (ty := 35) (dst := some 86) 3 [0, 2, 1] [(5, fun w' => w'.cell? ⟨b_2, 1, none⟩ = some (Value.int .u64 v88))] 43 #[Value.pointer v63, Value.int .i64 v85] (by kernel_rfl) (by kernel_rfl) (by kernel_rfl) (by kernel_rfl) (by kernel_rfl) (fun ww => by kernel_rfl) (Calls.mono h ?_)
                rintro _ w25 ⟨v86, rfl, h⟩
                obtain ⟨hk0, h⟩ := h
                refine ⟨_, rfl, ⟨hk0, trivial⟩, ?_⟩
                refine mreg_run [.plain, .plain] 8 [(4, [], Value.slice put.ptr put.len put.cap), (7, [], Value.pointer v63), (8, [], Value.int .i64 i1), (10, [], Value.bool (v86 == v88))] (by kernel_rfl) (by kernel_rfl) ?_
                refine mreg_end [(4, Value.slice put.ptr put.len put.cap), (7, Value.pointer v63), (8, Value.int .i64 i1), (10, Value.bool (v86 == v88))] (by kernel_rfl) (by kernel_rfl) (by kernel_rfl) ?_
                exact ⟨[(4, Value.slice put.ptr put.len put.cap), (7, Value.pointer v63), (8, Value.int .i64 i1), (10, Value.bool (v86 == v88))], Sub.mk (by kernel_rfl), (v86 == v88), rfl, h⟩
              · replace h := h.2 hb
                refine wpE_seq (x := c_towpathlaw02_CodecBack_106) (y := c_towpathlaw02_CodecBack_108) (by kernel_rfl) ?_
                refine wpE_region (id := 28) (ops := r_towpathlaw02_CodecBack_106) (by kernel_rfl) ?_
                refine reg_run [.plain, .plain] 2 [(4, [], Value.slice put.ptr put.len put.cap), (7, [], Value.pointer v63), (8, [], Value.int .i64 i1), (9, [], Value.pointer (some ⟨b_2, 0, none⟩)), (75, [], Value.int .u8 v75), (90, [], Value.bool (v75 == 3))] (by kernel_rfl) (by kernel_rfl) ?_
                refine reg_end [(4, Value.slice put.ptr put.len put.cap), (7, Value.pointer v63), (8, Value.int .i64 i1), (9, Value.pointer (some ⟨b_2, 0, none⟩)), (75, Value.int .u8 v75), (90, Value.bool (v75 == 3))] (by kernel_rfl) (by kernel_rfl) ?_
                change WpE _ _ c_towpathlaw02_CodecBack_108 _ _ _
                refine wpE_cond (o := (Operand.tmp 90)) (b := (v75 == 3)) (x := c_towpathlaw02_CodecBack_109) (y := c_towpathlaw02_CodecBack_111) (by kernel_rfl) (by kernel_rfl) (fun hb => ?_) (fun hb => ?_)
                · replace h := h.1 hb
                  refine wpE_mixregion (id := 29) (ops := r_towpathlaw02_CodecBack_109) o_towpathlaw02_CodecBack_109 (by kernel_rfl) (by kernel_rfl) (by kernel_rfl) (by kernel_rfl) (fun w26 hw => ?_)
                  replace h := h w26 hw
                  clear hw
                  refine mreg_run [.plain, .plain] 2 [(4, [], Value.slice put.ptr put.len put.cap), (7, [], Value.pointer v63), (8, [], Value.int .i64 i1), (92, [], Value.pointer v63), (94, [], Value.pointer (some ⟨b_2, 1, none⟩))] (by kernel_rfl) (by kernel_rfl) ?_
                  obtain ⟨v95, hc, h⟩ := h
                  refine mreg_load1 (i := 3) (by kernel_rfl) (t := 35) (a := (Go.Operand.tmp 94)) (b := b_2) (o := 1) (ty := 35) (dst := some 95) (by kernel_rfl) (by kernel_rfl) (by kernel_rfl) hc ?_
                  refine mreg_run [.plain] 4 [(4, [], Value.slice put.ptr put.len put.cap), (7, [], Value.pointer v63), (8, [], Value.int .i64 i1), (92, [], Value.pointer v63), (96, [], Value.int .i64 (IntKind.i64.wrap v95))] (by kernel_rfl) (by kernel_rfl) ?_
                  refine mreg_enter (op := (Go.Op.call (Go.Call.mk (Go.Callee.value (Go.Operand.func 39)) #[(Go.Operand.tmp 92)] #[27]))) (ty := 2) (dst := some 93) 1 [0] [(3, fun w' => w'.cell? ⟨b_2, 1, none⟩ = some (Value.int .u64 v95))] 39 #[Value.pointer v63] (by kernel_rfl) (by kernel_rfl) (by kernel_rfl) (by kernel_rfl) (by kernel_rfl) (fun ww => by kernel_rfl) (Calls.mono h ?_)
                  rintro _ w27 ⟨v93, rfl, h⟩
                  obtain ⟨hk0, h⟩ := h
                  refine ⟨_, rfl, ⟨hk0, trivial⟩, ?_⟩
                  refine mreg_run [.plain, .plain] 7 [(4, [], Value.slice put.ptr put.len put.cap), (7, [], Value.pointer v63), (8, [], Value.int .i64 i1), (10, [], Value.bool (v93 == (IntKind.i64.wrap v95)))] (by kernel_rfl) (by kernel_rfl) ?_
                  refine mreg_end [(4, Value.slice put.ptr put.len put.cap), (7, Value.pointer v63), (8, Value.int .i64 i1), (10, Value.bool (v93 == (IntKind.i64.wrap v95)))] (by kernel_rfl) (by kernel_rfl) (by kernel_rfl) ?_
                  exact ⟨[(4, Value.slice put.ptr put.len put.cap), (7, Value.pointer v63), (8, Value.int .i64 i1), (10, Value.bool (v93 == (IntKind.i64.wrap v95)))], Sub.mk (by kernel_rfl), (v93 == (IntKind.i64.wrap v95)), rfl, h⟩
                · replace h := h.2 hb
                  refine wpE_seq (x := c_towpathlaw02_CodecBack_112) (y := c_towpathlaw02_CodecBack_114) (by kernel_rfl) ?_
                  refine wpE_region (id := 30) (ops := r_towpathlaw02_CodecBack_112) (by kernel_rfl) ?_
                  refine reg_run [.plain, .plain] 2 [(4, [], Value.slice put.ptr put.len put.cap), (7, [], Value.pointer v63), (8, [], Value.int .i64 i1), (9, [], Value.pointer (some ⟨b_2, 0, none⟩)), (98, [], Value.bool (v75 == 4))] (by kernel_rfl) (by kernel_rfl) ?_
                  refine reg_end [(4, Value.slice put.ptr put.len put.cap), (7, Value.pointer v63), (8, Value.int .i64 i1), (9, Value.pointer (some ⟨b_2, 0, none⟩)), (98, Value.bool (v75 == 4))] (by kernel_rfl) (by kernel_rfl) ?_
                  change WpE _ _ c_towpathlaw02_CodecBack_114 _ _ _
                  refine wpE_cond (o := (Operand.tmp 98)) (b := (v75 == 4)) (x := c_towpathlaw02_CodecBack_115) (y := c_towpathlaw02_CodecBack_117) (by kernel_rfl) (by kernel_rfl) (fun hb => ?_) (fun hb => ?_)
                  · replace h := h.1 hb
                    refine wpE_mixregion (id := 31) (ops := r_towpathlaw02_CodecBack_115) o_towpathlaw02_CodecBack_115 (by kernel_rfl) (by kernel_rfl) (by kernel_rfl) (by kernel_rfl) (fun w28 hw => ?_)
                    replace h := h w28 hw
                    clear hw
                    refine mreg_run [.plain, .plain] 2 [(4, [], Value.slice put.ptr put.len put.cap), (7, [], Value.pointer v63), (8, [], Value.int .i64 i1), (9, [], Value.pointer (some ⟨b_2, 0, none⟩)), (100, [], Value.pointer v63), (101, [], Value.pointer (some ⟨b_2, 3, none⟩))] (by kernel_rfl) (by kernel_rfl) ?_
                    obtain ⟨v102, hc, h⟩ := h
                    refine mreg_load1 (i := 2) (by kernel_rfl) (t := 9) (a := (Go.Operand.tmp 101)) (b := b_2) (o := 3) (ty := 9) (dst := some 102) (by kernel_rfl) (by kernel_rfl) (by kernel_rfl) hc ?_
                    refine mreg_run [.plain, .plain] 5 [(4, [], Value.slice put.ptr put.len put.cap), (7, [], Value.pointer v63), (8, [], Value.int .i64 i1), (100, [], Value.pointer v63), (103, [], Value.int .i64 ((v102.size : Nat) : Int)), (105, [], Value.pointer (some ⟨b_2, 3, none⟩))] (by kernel_rfl) (by kernel_rfl) ?_
                    obtain ⟨v106, hc, h⟩ := h
                    refine mreg_load1 (i := 6) (by kernel_rfl) (t := 9) (a := (Go.Operand.tmp 105)) (b := b_2) (o := 3) (ty := 9) (dst := some 106) (by kernel_rfl) (by kernel_rfl) (by kernel_rfl) hc ?_
                    refine mreg_run [] 6 [(4, [], Value.slice put.ptr put.len put.cap), (7, [], Value.pointer v63), (8, [], Value.int .i64 i1), (100, [], Value.pointer v63), (103, [], Value.int .i64 ((v102.size : Nat) : Int)), (106, [], Value.string v106)] (by kernel_rfl) (by kernel_rfl) ?_
                    refine mreg_enter (op := (Go.Op.call (Go.Call.mk (Go.Callee.value (Go.Operand.func 41)) #[(Go.Operand.tmp 100), (Go.Operand.tmp 103)] #[27, 3]))) (ty := 9) (dst := some 104) 4 [0, 3, 2, 1] [(6, fun w' => w'.cell? ⟨b_2, 3, none⟩ = some (Value.string v106))] 41 #[Value.pointer v63, Value.int .i64 ((v102.size : Nat) : Int)] (by kernel_rfl) (by kernel_rfl) (by kernel_rfl) (by kernel_rfl) (by kernel_rfl) (fun ww => by kernel_rfl) (Calls.mono h ?_)
                    rintro _ w29 ⟨v104, rfl, h⟩
                    obtain ⟨hk0, h⟩ := h
                    refine ⟨_, rfl, ⟨hk0, trivial⟩, ?_⟩
                    refine mreg_run [.plain, .plain] 9 [(4, [], Value.slice put.ptr put.len put.cap), (7, [], Value.pointer v63), (8, [], Value.int .i64 i1), (10, [], Value.bool (v104.toList == v106.toList))] (by kernel_rfl) (by kernel_rfl) ?_
                    refine mreg_end [(4, Value.slice put.ptr put.len put.cap), (7, Value.pointer v63), (8, Value.int .i64 i1), (10, Value.bool (v104.toList == v106.toList))] (by kernel_rfl) (by kernel_rfl) (by kernel_rfl) ?_
                    exact ⟨[(4, Value.slice put.ptr put.len put.cap), (7, Value.pointer v63), (8, Value.int .i64 i1), (10, Value.bool (v104.toList == v106.toList))], Sub.mk (by kernel_rfl), (v104.toList == v106.toList), rfl, h⟩
                  · replace h := h.2 hb
                    refine wpE_mixregion (id := 25) (ops := r_towpathlaw02_CodecBack_117) o_towpathlaw02_CodecBack_117 (by kernel_rfl) (by kernel_rfl) (by kernel_rfl) (by kernel_rfl) (fun w30 hw => ?_)
                    replace h := h w30 hw
                    clear hw
                    refine mreg_run [.plain, .plain] 2 [(4, [], Value.slice put.ptr put.len put.cap), (7, [], Value.pointer v63), (8, [], Value.int .i64 i1), (76, [], Value.pointer v63), (78, [], Value.pointer (some ⟨b_2, 1, none⟩))] (by kernel_rfl) (by kernel_rfl) ?_
                    obtain ⟨v79, hc, h⟩ := h
                    refine mreg_load1 (i := 3) (by kernel_rfl) (t := 35) (a := (Go.Operand.tmp 78)) (b := b_2) (o := 1) (ty := 35) (dst := some 79) (by kernel_rfl) (by kernel_rfl) (by kernel_rfl) hc ?_
                    refine mreg_run [] 3 [(4, [], Value.slice put.ptr put.len put.cap), (7, [], Value.pointer v63), (8, [], Value.int .i64 i1), (76, [], Value.pointer v63), (79, [], Value.int .u64 v79)] (by kernel_rfl) (by kernel_rfl) ?_
                    refine mreg_enter (op := (Go.Op.call (Go.Call.mk (Go.Callee.value (Go.Operand.func 37)) #[(Go.Operand.tmp 76)] #[27]))) (ty := 35) (dst := some 77) 1 [0] [(3, fun w' => w'.cell? ⟨b_2, 1, none⟩ = some (Value.int .u64 v79))] 37 #[Value.pointer v63] (by kernel_rfl) (by kernel_rfl) (by kernel_rfl) (by kernel_rfl) (by kernel_rfl) (fun ww => by kernel_rfl) (Calls.mono h ?_)
                    rintro _ w31 ⟨v77, rfl, h⟩
                    obtain ⟨hk0, h⟩ := h
                    refine ⟨_, rfl, ⟨hk0, trivial⟩, ?_⟩
                    refine mreg_run [.plain, .plain] 6 [(4, [], Value.slice put.ptr put.len put.cap), (7, [], Value.pointer v63), (8, [], Value.int .i64 i1), (10, [], Value.bool (v77 == v79))] (by kernel_rfl) (by kernel_rfl) ?_
                    refine mreg_end [(4, Value.slice put.ptr put.len put.cap), (7, Value.pointer v63), (8, Value.int .i64 i1), (10, Value.bool (v77 == v79))] (by kernel_rfl) (by kernel_rfl) (by kernel_rfl) ?_
                    exact ⟨[(4, Value.slice put.ptr put.len put.cap), (7, Value.pointer v63), (8, Value.int .i64 i1), (10, Value.bool (v77 == v79))], Sub.mk (by kernel_rfl), (v77 == v79), rfl, h⟩
            · rintro _ w20 ⟨ok, rfl, h⟩
              unfold F_towpathlaw02_CodecBack_k5 at h
              refine wpE_seq_cut (x := c_towpathlaw02_CodecBack_120) (y := c_towpathlaw02_CodecBack_122) (by kernel_rfl) (fun l w => ∃ (t119 : Bool), l = [(4, Value.slice put.ptr put.len put.cap), (7, Value.pointer v63), (8, Value.int .i64 i1), (119, Value.bool t119)] ∧ F_towpathlaw02_CodecBack_k6 R i1 again_1 t119 w) ?_ ?_
              · refine wpE_region (id := 32) (ops := r_towpathlaw02_CodecBack_120) (by kernel_rfl) ?_
                refine reg_run [.plain, .plain, .plain, .plain] 4 [(4, [], Value.slice put.ptr put.len put.cap), (7, [], Value.pointer v63), (8, [], Value.int .i64 i1), (110, [], Value.bool (!ok)), (111, [(110, false)], Value.pointer v63)] (by kernel_rfl) (by kernel_rfl) ?_
                refine reg_split 110 (!ok) (by kernel_rfl) (fun hb => ?_) (fun hb => ?_)
                · replace h := h.1 hb
                  refine reg_run [] 4 [(4, [], Value.slice put.ptr put.len put.cap), (7, [], Value.pointer v63), (8, [], Value.int .i64 i1), (110, [], Value.bool true), (111, [], undef)] (by kernel_rfl) (by kernel_rfl) ?_
                  refine reg_run [.skip, .skip, .skip, .skip, .skip, .skip, .skip, .plain] 12 [(4, [], Value.slice put.ptr put.len put.cap), (7, [], Value.pointer v63), (8, [], Value.int .i64 i1), (119, [], Value.bool true)] (by kernel_rfl) (by kernel_rfl) ?_
                  refine reg_end [(4, Value.slice put.ptr put.len put.cap), (7, Value.pointer v63), (8, Value.int .i64 i1), (119, Value.bool true)] (by kernel_rfl) (by kernel_rfl) ?_
                  exact ⟨[(4, Value.slice put.ptr put.len put.cap), (7, Value.pointer v63), (8, Value.int .i64 i1), (119, Value.bool true)], Sub.mk (by kernel_rfl), true, rfl, h⟩
                · replace h := h.2 hb
                  refine reg_run [] 4 [(4, [], Value.slice put.ptr put.len put.cap), (7, [], Value.pointer v63), (8, [], Value.int .i64 i1), (110, [], Value.bool false), (111, [], Value.pointer v63)] (by kernel_rfl) (by kernel_rfl) ?_
                  refine reg_run [] 4 [(4, [], Value.slice put.ptr put.len put.cap), (7, [], Value.pointer v63), (8, [], Value.int .i64 i1), (110, [], Value.bool false), (111, [], Value.pointer v63)] (by kernel_rfl) (by kernel_rfl) ?_
                  refine reg_enter (op := (Go.Op.call (Go.Call.mk (Go.Callee.value (Go.Operand.func 19)) #[(Go.Operand.tmp 111)] #[27]))) (ty := 30) (dst := some 112) 19 #[Value.pointer v63] (by kernel_rfl) (fun ww => by kernel_rfl) (Calls.mono h ?_)
                  rintro _ w22 ⟨v112, rfl, h⟩
                  refine ⟨_, rfl, ?_⟩
                  refine reg_run [.sure, .sure, .plain] 8 [(4, [], Value.slice put.ptr put.len put.cap), (7, [], Value.pointer v63), (8, [], Value.int .i64 i1), (110, [], Value.bool false), (114, [], Value.bool (v112 != 0)), (115, [(114, true)], Value.pointer v63)] (by kernel_rfl) (by kernel_rfl) ?_
                  refine reg_split 114 (v112 != 0) (by kernel_rfl) (fun hb => ?_) (fun hb => ?_)
                  · replace h := h.1 hb
                    refine reg_run [] 8 [(4, [], Value.slice put.ptr put.len put.cap), (7, [], Value.pointer v63), (8, [], Value.int .i64 i1), (110, [], Value.bool false), (114, [], Value.bool true), (115, [], Value.pointer v63)] (by kernel_rfl) (by kernel_rfl) ?_
                    refine reg_run [] 8 [(4, [], Value.slice put.ptr put.len put.cap), (7, [], Value.pointer v63), (8, [], Value.int .i64 i1), (110, [], Value.bool false), (114, [], Value.bool true), (115, [], Value.pointer v63)] (by kernel_rfl) (by kernel_rfl) ?_
                    refine reg_enter (op := (Go.Op.call (Go.Call.mk (Go.Callee.value (Go.Operand.func 17)) #[(Go.Operand.tmp 115)] #[27]))) (ty := 3) (dst := some 116) 17 #[Value.pointer v63] (by kernel_rfl) (fun ww => by kernel_rfl) (Calls.mono h ?_)
                    rintro _ w23 ⟨v116, rfl, h⟩
                    refine ⟨_, rfl, ?_⟩
                    refine reg_run [.sure, .sure, .plain] 12 [(4, [], Value.slice put.ptr put.len put.cap), (7, [], Value.pointer v63), (8, [], Value.int .i64 i1), (119, [], Value.bool (v116 == 0))] (by kernel_rfl) (by kernel_rfl) ?_
                    refine reg_end [(4, Value.slice put.ptr put.len put.cap), (7, Value.pointer v63), (8, Value.int .i64 i1), (119, Value.bool (v116 == 0))] (by kernel_rfl) (by kernel_rfl) ?_
                    exact ⟨[(4, Value.slice put.ptr put.len put.cap), (7, Value.pointer v63), (8, Value.int .i64 i1), (119, Value.bool (v116 == 0))], Sub.mk (by kernel_rfl), (v116 == 0), rfl, h⟩
                  · replace h := h.2 hb
                    refine reg_run [] 8 [(4, [], Value.slice put.ptr put.len put.cap), (7, [], Value.pointer v63), (8, [], Value.int .i64 i1), (110, [], Value.bool false), (114, [], Value.bool false), (115, [], undef)] (by kernel_rfl) (by kernel_rfl) ?_
                    refine reg_run [.skip, .skip, .sure, .plain] 12 [(4, [], Value.slice put.ptr put.len put.cap), (7, [], Value.pointer v63), (8, [], Value.int .i64 i1), (119, [], Value.bool false)] (by kernel_rfl) (by kernel_rfl) ?_
                    refine reg_end [(4, Value.slice put.ptr put.len put.cap), (7, Value.pointer v63), (8, Value.int .i64 i1), (119, Value.bool false)] (by kernel_rfl) (by kernel_rfl) ?_
                    exact ⟨[(4, Value.slice put.ptr put.len put.cap), (7, Value.pointer v63), (8, Value.int .i64 i1), (119, Value.bool false)], Sub.mk (by kernel_rfl), false, rfl, h⟩
              · rintro _ w21 ⟨t119, rfl, h⟩
                unfold F_towpathlaw02_CodecBack_k6 at h
                refine wpE_cond (o := (Operand.tmp 119)) (b := t119) (x := c_towpathlaw02_CodecBack_123) (y := c_towpathlaw02_CodecBack_127) (by kernel_rfl) (by kernel_rfl) (fun hb => ?_) (fun hb => ?_)
                · replace h := h.1 hb
                  refine wpE_seq (x := c_towpathlaw02_CodecBack_124) (y := c_towpathlaw02_CodecBack_126) (by kernel_rfl) ?_
                  refine wpE_region (id := 33) (ops := r_towpathlaw02_CodecBack_124) (by kernel_rfl) ?_
                  refine reg_run [.plain] 1 [(2, [], Value.bool false)] (by kernel_rfl) (by kernel_rfl) ?_
                  refine reg_end [(2, Value.bool false)] (by kernel_rfl) (by kernel_rfl) ?_
                  change WpE _ _ c_towpathlaw02_CodecBack_126 _ _ _
                  refine wpE_ret (by kernel_rfl) ?_
                  repeat (first | refine seqQ_ret ?_ | refine blockQ_ret ?_ | refine loopQ_ret ?_ | refine cutQ_ret ?_)
                  exact retS (rs := [(Go.ResultVar.tmp 2)]) (v := Value.bool false) (by kernel_rfl) (⟨by kernel_rfl, trivial⟩) ⟨false, rfl, h⟩
                · replace h := h.2 hb
                  refine wpE_skip (by kernel_rfl) ?_
                  change WpE _ _ c_towpathlaw02_CodecBack_128 _ _ _
                  refine wpE_region (id := 21) (ops := r_towpathlaw02_CodecBack_128) (by kernel_rfl) ?_
                  refine reg_run [.plain, .plain, .plain] 3 [(4, [], Value.slice put.ptr put.len put.cap), (7, [], Value.pointer v63), (8, [], Value.int .i64 (IntKind.i64.wrap (i1 + 1)))] (by kernel_rfl) (by kernel_rfl) ?_
                  refine reg_end [(4, Value.slice put.ptr put.len put.cap), (7, Value.pointer v63), (8, Value.int .i64 (IntKind.i64.wrap (i1 + 1)))] (by kernel_rfl) (by kernel_rfl) ?_
                  have hb_ := again_1_h _ _ h
                  exact ⟨_, hb_.2, [(4, Value.slice put.ptr put.len put.cap), (7, Value.pointer v63), (8, Value.int .i64 (IntKind.i64.wrap (i1 + 1)))], Sub.mk (by kernel_rfl), (IntKind.i64.wrap (i1 + 1)), rfl, hb_.1, rfl⟩
          · replace h := h.2 hb
            refine wpE_exit (id := 3) (by kernel_rfl) ?_
            change WpE _ _ c_towpathlaw02_CodecBack_130 _ _ _
            refine wpE_seq (x := c_towpathlaw02_CodecBack_131) (y := c_towpathlaw02_CodecBack_133) (by kernel_rfl) ?_
            refine wpE_region (id := 34) (ops := r_towpathlaw02_CodecBack_131) (by kernel_rfl) ?_
            refine reg_run [.plain] 1 [(7, [], Value.pointer v63), (120, [], Value.pointer v63)] (by kernel_rfl) (by kernel_rfl) ?_
            refine reg_enter (op := (Go.Op.call (Go.Call.mk (Go.Callee.value (Go.Operand.func 19)) #[(Go.Operand.tmp 120)] #[27]))) (ty := 30) (dst := some 121) 19 #[Value.pointer v63] (by kernel_rfl) (fun ww => by kernel_rfl) (Calls.mono h ?_)
            rintro _ w32 ⟨v121, rfl, h⟩
            refine ⟨_, rfl, ?_⟩
            refine reg_run [.plain, .plain, .plain] 5 [(123, [], Value.bool (v121 == 0)), (124, [(123, true)], Value.pointer v63)] (by kernel_rfl) (by kernel_rfl) ?_
            refine reg_split 123 (v121 == 0) (by kernel_rfl) (fun hb => ?_) (fun hb => ?_)
            · replace h := h.1 hb
              refine reg_run [] 5 [(123, [], Value.bool true), (124, [], Value.pointer v63)] (by kernel_rfl) (by kernel_rfl) ?_
              refine reg_run [] 5 [(123, [], Value.bool true), (124, [], Value.pointer v63)] (by kernel_rfl) (by kernel_rfl) ?_
              refine reg_enter (op := (Go.Op.call (Go.Call.mk (Go.Callee.value (Go.Operand.func 17)) #[(Go.Operand.tmp 124)] #[27]))) (ty := 3) (dst := some 125) 17 #[Value.pointer v63] (by kernel_rfl) (fun ww => by kernel_rfl) (Calls.mono h ?_)
              rintro _ w33 ⟨v125, rfl, h⟩
              refine ⟨_, rfl, ?_⟩
              refine reg_run [.sure, .plain, .plain] 9 [(2, [], Value.bool (v125 == 0))] (by kernel_rfl) (by kernel_rfl) ?_
              refine reg_end [(2, Value.bool (v125 == 0))] (by kernel_rfl) (by kernel_rfl) ?_
              change WpE _ _ c_towpathlaw02_CodecBack_133 _ _ _
              refine wpE_ret (by kernel_rfl) ?_
              repeat (first | refine seqQ_ret ?_ | refine blockQ_ret ?_ | refine loopQ_ret ?_ | refine cutQ_ret ?_)
              exact retS (rs := [(Go.ResultVar.tmp 2)]) (v := Value.bool (v125 == 0)) (by kernel_rfl) (⟨by kernel_rfl, trivial⟩) ⟨(v125 == 0), rfl, h⟩
            · replace h := h.2 hb
              refine reg_run [] 5 [(123, [], Value.bool false), (124, [], undef)] (by kernel_rfl) (by kernel_rfl) ?_
              refine reg_run [.skip, .skip, .plain, .plain] 9 [(2, [], Value.bool false)] (by kernel_rfl) (by kernel_rfl) ?_
              refine reg_end [(2, Value.bool false)] (by kernel_rfl) (by kernel_rfl) ?_
              change WpE _ _ c_towpathlaw02_CodecBack_133 _ _ _
              refine wpE_ret (by kernel_rfl) ?_
              repeat (first | refine seqQ_ret ?_ | refine blockQ_ret ?_ | refine loopQ_ret ?_ | refine cutQ_ret ?_)
              exact retS (rs := [(Go.ResultVar.tmp 2)]) (v := Value.bool false) (by kernel_rfl) (⟨by kernel_rfl, trivial⟩) ⟨false, rfl, h⟩
  · rintro e w' ⟨v, rfl, r0, rfl, h⟩; exact ⟨r0, rfl, h⟩
end Go.Proofs.Ytckmganidgbpgaa
