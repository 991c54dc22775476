/- WRITTEN BY PROGRAM (dec.py): for each Go function the clean formula F, the call's contract C, and the proof S that F gives C. -/
import Derived.Test.YtckmganidgbpgaaDoorRows
import Derived.Test.YtckmganidgbpgaaDoorGF
namespace Go.Proofs.YtckmganidgbpgaaDoor
open Go
set_option linter.unusedVariables false

/-! ### towpath/towpathlaw02.CodecWrites (function 3) -/
noncomputable def c_towpathlaw02_CodecWrites_0 : Code := (Tryd.f3.body).getD Code.skip
noncomputable def c_towpathlaw02_CodecWrites_1 : Code := Code.l c_towpathlaw02_CodecWrites_0
noncomputable def r_towpathlaw02_CodecWrites_1 : Array Oper := Code.ops c_towpathlaw02_CodecWrites_1
noncomputable def c_towpathlaw02_CodecWrites_3 : Code := Code.r c_towpathlaw02_CodecWrites_0
noncomputable def c_towpathlaw02_CodecWrites_4 : Code := Code.l c_towpathlaw02_CodecWrites_3
noncomputable def c_towpathlaw02_CodecWrites_5 : Code := Code.l c_towpathlaw02_CodecWrites_4
noncomputable def r_towpathlaw02_CodecWrites_5 : Array Oper := Code.ops c_towpathlaw02_CodecWrites_5
noncomputable def c_towpathlaw02_CodecWrites_7 : Code := Code.r c_towpathlaw02_CodecWrites_4
noncomputable def c_towpathlaw02_CodecWrites_8 : Code := Code.l c_towpathlaw02_CodecWrites_7
noncomputable def c_towpathlaw02_CodecWrites_9 : Code := Code.l c_towpathlaw02_CodecWrites_8
noncomputable def r_towpathlaw02_CodecWrites_9 : Array Oper := Code.ops c_towpathlaw02_CodecWrites_9
noncomputable def c_towpathlaw02_CodecWrites_11 : Code := Code.r c_towpathlaw02_CodecWrites_8
noncomputable def c_towpathlaw02_CodecWrites_12 : Code := Code.r c_towpathlaw02_CodecWrites_7
noncomputable def c_towpathlaw02_CodecWrites_13 : Code := Code.r c_towpathlaw02_CodecWrites_3
noncomputable def c_towpathlaw02_CodecWrites_14 : Code := Code.l c_towpathlaw02_CodecWrites_13
noncomputable def r_towpathlaw02_CodecWrites_14 : Array Oper := Code.ops c_towpathlaw02_CodecWrites_14
noncomputable def c_towpathlaw02_CodecWrites_16 : Code := Code.r c_towpathlaw02_CodecWrites_13
noncomputable def c_towpathlaw02_CodecWrites_17 : Code := Code.l c_towpathlaw02_CodecWrites_16
noncomputable def r_towpathlaw02_CodecWrites_17 : Array Oper := Code.ops c_towpathlaw02_CodecWrites_17
noncomputable def c_towpathlaw02_CodecWrites_19 : Code := Code.r c_towpathlaw02_CodecWrites_16
noncomputable def c_towpathlaw02_CodecWrites_20 : Code := Code.l c_towpathlaw02_CodecWrites_19
noncomputable def r_towpathlaw02_CodecWrites_20 : Array Oper := Code.ops c_towpathlaw02_CodecWrites_20
noncomputable def c_towpathlaw02_CodecWrites_22 : Code := Code.r c_towpathlaw02_CodecWrites_19
noncomputable def c_towpathlaw02_CodecWrites_23 : Code := Code.l c_towpathlaw02_CodecWrites_22
noncomputable def r_towpathlaw02_CodecWrites_23 : Array Oper := Code.ops c_towpathlaw02_CodecWrites_23
noncomputable def c_towpathlaw02_CodecWrites_25 : Code := Code.r c_towpathlaw02_CodecWrites_22
noncomputable def c_towpathlaw02_CodecWrites_26 : Code := Code.l c_towpathlaw02_CodecWrites_25
noncomputable def r_towpathlaw02_CodecWrites_26 : Array Oper := Code.ops c_towpathlaw02_CodecWrites_26
noncomputable def c_towpathlaw02_CodecWrites_28 : Code := Code.r c_towpathlaw02_CodecWrites_25
noncomputable def c_towpathlaw02_CodecWrites_29 : Code := Code.l c_towpathlaw02_CodecWrites_28
noncomputable def c_towpathlaw02_CodecWrites_30 : Code := Code.l c_towpathlaw02_CodecWrites_29
noncomputable def r_towpathlaw02_CodecWrites_30 : Array Oper := Code.ops c_towpathlaw02_CodecWrites_30
noncomputable def c_towpathlaw02_CodecWrites_32 : Code := Code.r c_towpathlaw02_CodecWrites_29
noncomputable def c_towpathlaw02_CodecWrites_33 : Code := Code.l c_towpathlaw02_CodecWrites_32
noncomputable def c_towpathlaw02_CodecWrites_34 : Code := Code.l c_towpathlaw02_CodecWrites_33
noncomputable def c_towpathlaw02_CodecWrites_35 : Code := Code.l c_towpathlaw02_CodecWrites_34
noncomputable def c_towpathlaw02_CodecWrites_36 : Code := Code.l c_towpathlaw02_CodecWrites_35
noncomputable def r_towpathlaw02_CodecWrites_36 : Array Oper := Code.ops c_towpathlaw02_CodecWrites_36
noncomputable def c_towpathlaw02_CodecWrites_38 : Code := Code.r c_towpathlaw02_CodecWrites_35
noncomputable def c_towpathlaw02_CodecWrites_39 : Code := Code.l c_towpathlaw02_CodecWrites_38
noncomputable def c_towpathlaw02_CodecWrites_40 : Code := Code.r c_towpathlaw02_CodecWrites_38
noncomputable def c_towpathlaw02_CodecWrites_41 : Code := Code.r c_towpathlaw02_CodecWrites_34
noncomputable def c_towpathlaw02_CodecWrites_42 : Code := Code.l c_towpathlaw02_CodecWrites_41
noncomputable def c_towpathlaw02_CodecWrites_43 : Code := Code.l c_towpathlaw02_CodecWrites_42
noncomputable def c_towpathlaw02_CodecWrites_44 : Code := Code.l c_towpathlaw02_CodecWrites_43
noncomputable def r_towpathlaw02_CodecWrites_44 : Array Oper := Code.ops c_towpathlaw02_CodecWrites_44
noncomputable def c_towpathlaw02_CodecWrites_46 : Code := Code.r c_towpathlaw02_CodecWrites_43
noncomputable def c_towpathlaw02_CodecWrites_47 : Code := Code.l c_towpathlaw02_CodecWrites_46
noncomputable def c_towpathlaw02_CodecWrites_48 : Code := Code.l c_towpathlaw02_CodecWrites_47
noncomputable def r_towpathlaw02_CodecWrites_48 : Array Oper := Code.ops c_towpathlaw02_CodecWrites_48
noncomputable def c_towpathlaw02_CodecWrites_50 : Code := Code.r c_towpathlaw02_CodecWrites_47
noncomputable def c_towpathlaw02_CodecWrites_51 : Code := Code.l c_towpathlaw02_CodecWrites_50
noncomputable def c_towpathlaw02_CodecWrites_52 : Code := Code.l c_towpathlaw02_CodecWrites_51
noncomputable def r_towpathlaw02_CodecWrites_52 : Array Oper := Code.ops c_towpathlaw02_CodecWrites_52
noncomputable def c_towpathlaw02_CodecWrites_54 : Code := Code.r c_towpathlaw02_CodecWrites_51
noncomputable def c_towpathlaw02_CodecWrites_55 : Code := Code.l c_towpathlaw02_CodecWrites_54
noncomputable def c_towpathlaw02_CodecWrites_56 : Code := Code.l c_towpathlaw02_CodecWrites_55
noncomputable def r_towpathlaw02_CodecWrites_56 : Array Oper := Code.ops c_towpathlaw02_CodecWrites_56
noncomputable def c_towpathlaw02_CodecWrites_58 : Code := Code.r c_towpathlaw02_CodecWrites_55
noncomputable def c_towpathlaw02_CodecWrites_59 : Code := Code.l c_towpathlaw02_CodecWrites_58
noncomputable def r_towpathlaw02_CodecWrites_59 : Array Oper := Code.ops c_towpathlaw02_CodecWrites_59
noncomputable def c_towpathlaw02_CodecWrites_61 : Code := Code.r c_towpathlaw02_CodecWrites_58
noncomputable def c_towpathlaw02_CodecWrites_62 : Code := Code.l c_towpathlaw02_CodecWrites_61
noncomputable def r_towpathlaw02_CodecWrites_62 : Array Oper := Code.ops c_towpathlaw02_CodecWrites_62
noncomputable def c_towpathlaw02_CodecWrites_64 : Code := Code.r c_towpathlaw02_CodecWrites_61
noncomputable def c_towpathlaw02_CodecWrites_65 : Code := Code.l c_towpathlaw02_CodecWrites_64
noncomputable def c_towpathlaw02_CodecWrites_66 : Code := Code.l c_towpathlaw02_CodecWrites_65
noncomputable def r_towpathlaw02_CodecWrites_66 : Array Oper := Code.ops c_towpathlaw02_CodecWrites_66
noncomputable def c_towpathlaw02_CodecWrites_68 : Code := Code.r c_towpathlaw02_CodecWrites_65
noncomputable def c_towpathlaw02_CodecWrites_69 : Code := Code.r c_towpathlaw02_CodecWrites_64
noncomputable def c_towpathlaw02_CodecWrites_70 : Code := Code.r c_towpathlaw02_CodecWrites_54
noncomputable def c_towpathlaw02_CodecWrites_71 : Code := Code.l c_towpathlaw02_CodecWrites_70
noncomputable def r_towpathlaw02_CodecWrites_71 : Array Oper := Code.ops c_towpathlaw02_CodecWrites_71
noncomputable def c_towpathlaw02_CodecWrites_73 : Code := Code.r c_towpathlaw02_CodecWrites_70
noncomputable def c_towpathlaw02_CodecWrites_74 : Code := Code.l c_towpathlaw02_CodecWrites_73
noncomputable def c_towpathlaw02_CodecWrites_75 : Code := Code.l c_towpathlaw02_CodecWrites_74
noncomputable def r_towpathlaw02_CodecWrites_75 : Array Oper := Code.ops c_towpathlaw02_CodecWrites_75
noncomputable def c_towpathlaw02_CodecWrites_77 : Code := Code.r c_towpathlaw02_CodecWrites_74
noncomputable def c_towpathlaw02_CodecWrites_78 : Code := Code.l c_towpathlaw02_CodecWrites_77
noncomputable def r_towpathlaw02_CodecWrites_78 : Array Oper := Code.ops c_towpathlaw02_CodecWrites_78
noncomputable def c_towpathlaw02_CodecWrites_80 : Code := Code.r c_towpathlaw02_CodecWrites_77
noncomputable def c_towpathlaw02_CodecWrites_81 : Code := Code.l c_towpathlaw02_CodecWrites_80
noncomputable def r_towpathlaw02_CodecWrites_81 : Array Oper := Code.ops c_towpathlaw02_CodecWrites_81
noncomputable def c_towpathlaw02_CodecWrites_83 : Code := Code.r c_towpathlaw02_CodecWrites_80
noncomputable def r_towpathlaw02_CodecWrites_83 : Array Oper := Code.ops c_towpathlaw02_CodecWrites_83
noncomputable def c_towpathlaw02_CodecWrites_85 : Code := Code.r c_towpathlaw02_CodecWrites_73
noncomputable def c_towpathlaw02_CodecWrites_86 : Code := Code.l c_towpathlaw02_CodecWrites_85
noncomputable def r_towpathlaw02_CodecWrites_86 : Array Oper := Code.ops c_towpathlaw02_CodecWrites_86
noncomputable def c_towpathlaw02_CodecWrites_88 : Code := Code.r c_towpathlaw02_CodecWrites_85
noncomputable def c_towpathlaw02_CodecWrites_89 : Code := Code.l c_towpathlaw02_CodecWrites_88
noncomputable def c_towpathlaw02_CodecWrites_90 : Code := Code.l c_towpathlaw02_CodecWrites_89
noncomputable def r_towpathlaw02_CodecWrites_90 : Array Oper := Code.ops c_towpathlaw02_CodecWrites_90
noncomputable def c_towpathlaw02_CodecWrites_92 : Code := Code.r c_towpathlaw02_CodecWrites_89
noncomputable def c_towpathlaw02_CodecWrites_93 : Code := Code.l c_towpathlaw02_CodecWrites_92
noncomputable def r_towpathlaw02_CodecWrites_93 : Array Oper := Code.ops c_towpathlaw02_CodecWrites_93
noncomputable def c_towpathlaw02_CodecWrites_95 : Code := Code.r c_towpathlaw02_CodecWrites_92
noncomputable def c_towpathlaw02_CodecWrites_96 : Code := Code.l c_towpathlaw02_CodecWrites_95
noncomputable def r_towpathlaw02_CodecWrites_96 : Array Oper := Code.ops c_towpathlaw02_CodecWrites_96
noncomputable def c_towpathlaw02_CodecWrites_98 : Code := Code.r c_towpathlaw02_CodecWrites_95
noncomputable def r_towpathlaw02_CodecWrites_98 : Array Oper := Code.ops c_towpathlaw02_CodecWrites_98
noncomputable def c_towpathlaw02_CodecWrites_100 : Code := Code.r c_towpathlaw02_CodecWrites_88
noncomputable def c_towpathlaw02_CodecWrites_101 : Code := Code.l c_towpathlaw02_CodecWrites_100
noncomputable def r_towpathlaw02_CodecWrites_101 : Array Oper := Code.ops c_towpathlaw02_CodecWrites_101
noncomputable def c_towpathlaw02_CodecWrites_103 : Code := Code.r c_towpathlaw02_CodecWrites_100
noncomputable def c_towpathlaw02_CodecWrites_104 : Code := Code.l c_towpathlaw02_CodecWrites_103
noncomputable def r_towpathlaw02_CodecWrites_104 : Array Oper := Code.ops c_towpathlaw02_CodecWrites_104
noncomputable def c_towpathlaw02_CodecWrites_106 : Code := Code.r c_towpathlaw02_CodecWrites_103
noncomputable def c_towpathlaw02_CodecWrites_107 : Code := Code.l c_towpathlaw02_CodecWrites_106
noncomputable def r_towpathlaw02_CodecWrites_107 : Array Oper := Code.ops c_towpathlaw02_CodecWrites_107
noncomputable def c_towpathlaw02_CodecWrites_109 : Code := Code.r c_towpathlaw02_CodecWrites_106
noncomputable def r_towpathlaw02_CodecWrites_109 : Array Oper := Code.ops c_towpathlaw02_CodecWrites_109
noncomputable def c_towpathlaw02_CodecWrites_111 : Code := Code.r c_towpathlaw02_CodecWrites_46
noncomputable def c_towpathlaw02_CodecWrites_112 : Code := Code.l c_towpathlaw02_CodecWrites_111
noncomputable def r_towpathlaw02_CodecWrites_112 : Array Oper := Code.ops c_towpathlaw02_CodecWrites_112
noncomputable def c_towpathlaw02_CodecWrites_114 : Code := Code.r c_towpathlaw02_CodecWrites_111
noncomputable def c_towpathlaw02_CodecWrites_115 : Code := Code.l c_towpathlaw02_CodecWrites_114
noncomputable def r_towpathlaw02_CodecWrites_115 : Array Oper := Code.ops c_towpathlaw02_CodecWrites_115
noncomputable def c_towpathlaw02_CodecWrites_117 : Code := Code.r c_towpathlaw02_CodecWrites_114
noncomputable def c_towpathlaw02_CodecWrites_118 : Code := Code.r c_towpathlaw02_CodecWrites_41
noncomputable def r_towpathlaw02_CodecWrites_118 : Array Oper := Code.ops c_towpathlaw02_CodecWrites_118
noncomputable def c_towpathlaw02_CodecWrites_120 : Code := Code.r c_towpathlaw02_CodecWrites_28
noncomputable def c_towpathlaw02_CodecWrites_121 : Code := Code.l c_towpathlaw02_CodecWrites_120
noncomputable def r_towpathlaw02_CodecWrites_121 : Array Oper := Code.ops c_towpathlaw02_CodecWrites_121
noncomputable def c_towpathlaw02_CodecWrites_123 : Code := Code.r c_towpathlaw02_CodecWrites_120
noncomputable def c_towpathlaw02_CodecWrites_124 : Code := Code.l c_towpathlaw02_CodecWrites_123
noncomputable def c_towpathlaw02_CodecWrites_125 : Code := Code.l c_towpathlaw02_CodecWrites_124
noncomputable def r_towpathlaw02_CodecWrites_125 : Array Oper := Code.ops c_towpathlaw02_CodecWrites_125
noncomputable def c_towpathlaw02_CodecWrites_127 : Code := Code.r c_towpathlaw02_CodecWrites_124
noncomputable def c_towpathlaw02_CodecWrites_128 : Code := Code.l c_towpathlaw02_CodecWrites_127
noncomputable def c_towpathlaw02_CodecWrites_129 : Code := Code.l c_towpathlaw02_CodecWrites_128
noncomputable def r_towpathlaw02_CodecWrites_129 : Array Oper := Code.ops c_towpathlaw02_CodecWrites_129
noncomputable def c_towpathlaw02_CodecWrites_131 : Code := Code.r c_towpathlaw02_CodecWrites_128
noncomputable def c_towpathlaw02_CodecWrites_132 : Code := Code.r c_towpathlaw02_CodecWrites_127
noncomputable def c_towpathlaw02_CodecWrites_133 : Code := Code.r c_towpathlaw02_CodecWrites_123
noncomputable def c_towpathlaw02_CodecWrites_134 : Code := Code.l c_towpathlaw02_CodecWrites_133
noncomputable def r_towpathlaw02_CodecWrites_134 : Array Oper := Code.ops c_towpathlaw02_CodecWrites_134
noncomputable def c_towpathlaw02_CodecWrites_136 : Code := Code.r c_towpathlaw02_CodecWrites_133
noncomputable def c_towpathlaw02_CodecWrites_137 : Code := Code.l c_towpathlaw02_CodecWrites_136
noncomputable def r_towpathlaw02_CodecWrites_137 : Array Oper := Code.ops c_towpathlaw02_CodecWrites_137
noncomputable def c_towpathlaw02_CodecWrites_139 : Code := Code.r c_towpathlaw02_CodecWrites_136
noncomputable def c_towpathlaw02_CodecWrites_140 : Code := Code.l c_towpathlaw02_CodecWrites_139
noncomputable def r_towpathlaw02_CodecWrites_140 : Array Oper := Code.ops c_towpathlaw02_CodecWrites_140
noncomputable def c_towpathlaw02_CodecWrites_142 : Code := Code.r c_towpathlaw02_CodecWrites_139

set_option maxRecDepth 100000 in
set_option maxHeartbeats 4000000 in
theorem S_towpathlaw02_CodecWrites {script : Slc} {w : World} {R : Bool → World → Prop} (h : F_towpathlaw02_CodecWrites script R w) : C_towpathlaw02_CodecWrites script w R := by
  unfold F_towpathlaw02_CodecWrites at h
  unfold C_towpathlaw02_CodecWrites
  refine Calls.mono (calls_of_wpE (args := [Value.slice script.ptr script.len script.cap]) (R := fun v w' => ∃ (r0 : Bool), v = Value.bool r0 ∧ R r0 w') Tryd.func3 (c := c_towpathlaw02_CodecWrites_0) (by kernel_rfl) 159 (by kernel_rfl) (by kernel_rfl) [(0, Value.slice script.ptr script.len script.cap)] (by kernel_rfl) ?_) ?_
  · refine wpE_seq (x := c_towpathlaw02_CodecWrites_1) (y := c_towpathlaw02_CodecWrites_3) (by kernel_rfl) ?_
    refine wpE_region (id := 0) (ops := r_towpathlaw02_CodecWrites_1) (by kernel_rfl) ?_
    refine reg_run [.plain] 1 [(0, [], Value.slice script.ptr script.len script.cap)] (by kernel_rfl) (by kernel_rfl) ?_
    refine reg_end [(0, Value.slice script.ptr script.len script.cap)] (by kernel_rfl) (by kernel_rfl) ?_
    change WpE _ _ c_towpathlaw02_CodecWrites_3 _ _ _
    refine wpE_seq (x := c_towpathlaw02_CodecWrites_4) (y := c_towpathlaw02_CodecWrites_13) (by kernel_rfl) ?_
    refine wpE_seq (x := c_towpathlaw02_CodecWrites_5) (y := c_towpathlaw02_CodecWrites_7) (by kernel_rfl) ?_
    refine wpE_region (id := 1) (ops := r_towpathlaw02_CodecWrites_5) (by kernel_rfl) ?_
    refine reg_run [.plain] 1 [(0, [], Value.slice script.ptr script.len script.cap), (14, [], Value.slice script.ptr script.len script.cap)] (by kernel_rfl) (by kernel_rfl) ?_
    refine reg_enter (op := (Go.Op.call (Go.Call.mk (Go.Callee.value (Go.Operand.func 4)) #[(Go.Operand.tmp 14)] #[22]))) (ty := 4) (dst := some 15) 4 #[Value.slice script.ptr script.len script.cap] (by kernel_rfl) (fun ww => by kernel_rfl) (Calls.mono h ?_)
    rintro _ w1 ⟨v15, rfl, h⟩
    refine ⟨_, rfl, ?_⟩
    refine reg_end [(0, Value.slice script.ptr script.len script.cap), (15, Value.bool v15)] (by kernel_rfl) (by kernel_rfl) ?_
    change WpE _ _ c_towpathlaw02_CodecWrites_7 _ _ _
    refine wpE_cond (o := (Operand.tmp 15)) (b := v15) (x := c_towpathlaw02_CodecWrites_8) (y := c_towpathlaw02_CodecWrites_12) (by kernel_rfl) (by kernel_rfl) (fun hb => ?_) (fun hb => ?_)
    · replace h := h.1 hb
      refine wpE_seq (x := c_towpathlaw02_CodecWrites_9) (y := c_towpathlaw02_CodecWrites_11) (by kernel_rfl) ?_
      refine wpE_region (id := 2) (ops := r_towpathlaw02_CodecWrites_9) (by kernel_rfl) ?_
      refine reg_run [.plain] 1 [(2, [], Value.bool true)] (by kernel_rfl) (by kernel_rfl) ?_
      refine reg_end [(2, Value.bool true)] (by kernel_rfl) (by kernel_rfl) ?_
      change WpE _ _ c_towpathlaw02_CodecWrites_11 _ _ _
      refine wpE_ret (by kernel_rfl) ?_
      repeat (first | refine seqQ_ret ?_ | refine blockQ_ret ?_ | refine loopQ_ret ?_ | refine cutQ_ret ?_)
      exact retS (rs := [(Go.ResultVar.tmp 2)]) (v := Value.bool true) (by kernel_rfl) (⟨by kernel_rfl, trivial⟩) ⟨true, rfl, h⟩
    · replace h := h.2 hb
      refine wpE_skip (by kernel_rfl) ?_
      change WpE _ _ c_towpathlaw02_CodecWrites_13 _ _ _
      refine wpE_seq (x := c_towpathlaw02_CodecWrites_14) (y := c_towpathlaw02_CodecWrites_16) (by kernel_rfl) ?_
      refine wpE_region (id := 3) (ops := r_towpathlaw02_CodecWrites_14) (by kernel_rfl) ?_
      refine reg_run [] 0 [(0, [], Value.slice script.ptr script.len script.cap)] (by kernel_rfl) (by kernel_rfl) ?_
      refine reg_enter (op := (Go.Op.call (Go.Call.mk (Go.Callee.value (Go.Operand.func 5)) #[] #[]))) (ty := 24) (dst := some 16) 5 #[] (by kernel_rfl) (fun ww => by kernel_rfl) (Calls.mono h ?_)
      rintro _ w2 ⟨v16, rfl, h⟩
      refine ⟨_, rfl, ?_⟩
      refine reg_run [.plain] 2 [(0, [], Value.slice script.ptr script.len script.cap), (3, [], Value.pointer v16)] (by kernel_rfl) (by kernel_rfl) ?_
      refine reg_end [(0, Value.slice script.ptr script.len script.cap), (3, Value.pointer v16)] (by kernel_rfl) (by kernel_rfl) ?_
      change WpE _ _ c_towpathlaw02_CodecWrites_16 _ _ _
      refine wpE_seq (x := c_towpathlaw02_CodecWrites_17) (y := c_towpathlaw02_CodecWrites_19) (by kernel_rfl) ?_
      refine wpE_region (id := 4) (ops := r_towpathlaw02_CodecWrites_17) (by kernel_rfl) ?_
      refine reg_run [.plain] 1 [(0, [], Value.slice script.ptr script.len script.cap), (3, [], Value.pointer v16), (4, [], Value.pointer none)] (by kernel_rfl) (by kernel_rfl) ?_
      refine reg_end [(0, Value.slice script.ptr script.len script.cap), (3, Value.pointer v16), (4, Value.pointer none)] (by kernel_rfl) (by kernel_rfl) ?_
      change WpE _ _ c_towpathlaw02_CodecWrites_19 _ _ _
      refine wpE_seq (x := c_towpathlaw02_CodecWrites_20) (y := c_towpathlaw02_CodecWrites_22) (by kernel_rfl) ?_
      refine wpE_region (id := 5) (ops := r_towpathlaw02_CodecWrites_20) (by kernel_rfl) ?_
      refine reg_run [.plain] 1 [(0, [], Value.slice script.ptr script.len script.cap), (3, [], Value.pointer v16), (4, [], Value.pointer none), (17, [], Value.agg #[Value.bool false, Value.slice none 0 0])] (by kernel_rfl) (by kernel_rfl) ?_
      refine reg_new (op := (Go.Op.box 28 (Go.Operand.tmp 17))) (ty := 24) (dst := some 18) (fun bb => Value.pointer (some ⟨bb, 0, none⟩)) (Obj.cells ([Value.bool false, Value.slice none 0 0]).toArray ty_codec_Writer (0, 0)) (by kernel_rfl) (by kernel_rfl) (fun b_ w3 hb hw => ?_)
      replace h := h b_ w3 hb hw
      clear hb hw
      refine reg_run [.plain] 3 [(0, [], Value.slice script.ptr script.len script.cap), (3, [], Value.pointer v16), (4, [], Value.pointer none), (5, [], Value.pointer (some ⟨b_, 0, none⟩))] (by kernel_rfl) (by kernel_rfl) ?_
      refine reg_end [(0, Value.slice script.ptr script.len script.cap), (3, Value.pointer v16), (4, Value.pointer none), (5, Value.pointer (some ⟨b_, 0, none⟩))] (by kernel_rfl) (by kernel_rfl) ?_
      change WpE _ _ c_towpathlaw02_CodecWrites_22 _ _ _
      refine wpE_seq (x := c_towpathlaw02_CodecWrites_23) (y := c_towpathlaw02_CodecWrites_25) (by kernel_rfl) ?_
      refine wpE_region (id := 6) (ops := r_towpathlaw02_CodecWrites_23) (by kernel_rfl) ?_
      refine reg_run [.plain] 1 [(0, [], Value.slice script.ptr script.len script.cap), (3, [], Value.pointer v16), (4, [], Value.pointer none), (5, [], Value.pointer (some ⟨b_, 0, none⟩)), (6, [], Value.slice none 0 0)] (by kernel_rfl) (by kernel_rfl) ?_
      refine reg_end [(0, Value.slice script.ptr script.len script.cap), (3, Value.pointer v16), (4, Value.pointer none), (5, Value.pointer (some ⟨b_, 0, none⟩)), (6, Value.slice none 0 0)] (by kernel_rfl) (by kernel_rfl) ?_
      change WpE _ _ c_towpathlaw02_CodecWrites_25 _ _ _
      refine wpE_seq (x := c_towpathlaw02_CodecWrites_26) (y := c_towpathlaw02_CodecWrites_28) (by kernel_rfl) ?_
      refine wpE_region (id := 7) (ops := r_towpathlaw02_CodecWrites_26) (by kernel_rfl) ?_
      refine reg_run [.plain] 1 [(0, [], Value.slice script.ptr script.len script.cap), (3, [], Value.pointer v16), (4, [], Value.pointer none), (5, [], Value.pointer (some ⟨b_, 0, none⟩)), (6, [], Value.slice none 0 0), (19, [], Value.agg #[Value.int .i64 0, Value.slice none 0 0, Value.slice none 0 0, Value.slice none 0 0, Value.slice none 0 0, Value.slice none 0 0, Value.slice none 0 0, Value.slice none 0 0, Value.slice none 0 0, Value.slice none 0 0, Value.slice none 0 0, Value.slice none 0 0])] (by kernel_rfl) (by kernel_rfl) ?_
      refine reg_new (op := (Go.Op.alloc 41)) (ty := 0) (dst := some 7) (fun bb => Value.pointer (some ⟨bb, 0, none⟩)) (Obj.cells ([Value.int .i64 0, Value.slice none 0 0, Value.slice none 0 0, Value.slice none 0 0, Value.slice none 0 0, Value.slice none 0 0, Value.slice none 0 0, Value.slice none 0 0, Value.slice none 0 0, Value.slice none 0 0, Value.slice none 0 0, Value.slice none 0 0]).toArray ty_towpathlaw01_Book (0, 0)) (by kernel_rfl) (by kernel_rfl) (fun b_1 w4 hb hw => ?_)
      replace h := h b_1 w4 hb hw
      clear hb hw
      refine reg_run [] 2 [(0, [], Value.slice script.ptr script.len script.cap), (3, [], Value.pointer v16), (4, [], Value.pointer none), (5, [], Value.pointer (some ⟨b_, 0, none⟩)), (6, [], Value.slice none 0 0), (7, [], Value.pointer (some ⟨b_1, 0, none⟩)), (19, [], Value.agg #[Value.int .i64 0, Value.slice none 0 0, Value.slice none 0 0, Value.slice none 0 0, Value.slice none 0 0, Value.slice none 0 0, Value.slice none 0 0, Value.slice none 0 0, Value.slice none 0 0, Value.slice none 0 0, Value.slice none 0 0, Value.slice none 0 0])] (by kernel_rfl) (by kernel_rfl) ?_
      obtain ⟨hc, h⟩ := h
      refine reg_store (t := 41) (a := (Go.Operand.tmp 7)) (x := (Go.Operand.tmp 19)) (b := b_1) (o := 0) (ty := 0) (dst := none) [Value.int .i64 0, Value.slice none 0 0, Value.slice none 0 0, Value.slice none 0 0, Value.slice none 0 0, Value.slice none 0 0, Value.slice none 0 0, Value.slice none 0 0, Value.slice none 0 0, Value.slice none 0 0, Value.slice none 0 0, Value.slice none 0 0] (by kernel_rfl) (by kernel_rfl) (by kernel_rfl) (k := 12) (by kernel_rfl) (by kernel_rfl) (by kernel_rfl) hc (fun w5 hw => ?_)
      replace h := h w5 hw
      clear hw
      refine reg_end [(0, Value.slice script.ptr script.len script.cap), (3, Value.pointer v16), (4, Value.pointer none), (5, Value.pointer (some ⟨b_, 0, none⟩)), (6, Value.slice none 0 0), (7, Value.pointer (some ⟨b_1, 0, none⟩))] (by kernel_rfl) (by kernel_rfl) ?_
      change WpE _ _ c_towpathlaw02_CodecWrites_28 _ _ _
      refine wpE_seq (x := c_towpathlaw02_CodecWrites_29) (y := c_towpathlaw02_CodecWrites_120) (by kernel_rfl) ?_
      refine wpE_seq (x := c_towpathlaw02_CodecWrites_30) (y := c_towpathlaw02_CodecWrites_32) (by kernel_rfl) ?_
      refine wpE_region (id := 8) (ops := r_towpathlaw02_CodecWrites_30) (by kernel_rfl) ?_
      refine reg_run [.plain] 1 [(0, [], Value.slice script.ptr script.len script.cap), (3, [], Value.pointer v16), (4, [], Value.pointer none), (5, [], Value.pointer (some ⟨b_, 0, none⟩)), (6, [], Value.slice none 0 0), (7, [], Value.pointer (some ⟨b_1, 0, none⟩)), (8, [], Value.int .i64 0)] (by kernel_rfl) (by kernel_rfl) ?_
      refine reg_end [(0, Value.slice script.ptr script.len script.cap), (3, Value.pointer v16), (4, Value.pointer none), (5, Value.pointer (some ⟨b_, 0, none⟩)), (6, Value.slice none 0 0), (7, Value.pointer (some ⟨b_1, 0, none⟩)), (8, Value.int .i64 0)] (by kernel_rfl) (by kernel_rfl) ?_
      change WpE _ _ c_towpathlaw02_CodecWrites_32 _ _ _
      refine wpE_block (id := 0) (x := c_towpathlaw02_CodecWrites_33) (by kernel_rfl) ?_
      obtain ⟨I, μ, h0, hr⟩ := h
      refine wpE_loop (x := c_towpathlaw02_CodecWrites_34) (by kernel_rfl) (fun m l w => ∃ (want : Slc) (i : Int), l = [(0, Value.slice script.ptr script.len script.cap), (3, Value.pointer v16), (4, Value.pointer none), (5, Value.pointer (some ⟨b_, 0, none⟩)), (6, Value.slice want.ptr want.len want.cap), (7, Value.pointer (some ⟨b_1, 0, none⟩)), (8, Value.int .i64 i)] ∧ I want i w ∧ μ want i w = m) (l' := [(0, Value.slice script.ptr script.len script.cap), (3, Value.pointer v16), (4, Value.pointer none), (5, Value.pointer (some ⟨b_, 0, none⟩)), (6, Value.slice none 0 0), (7, Value.pointer (some ⟨b_1, 0, none⟩)), (8, Value.int .i64 0)]) (Sub.mk (by kernel_rfl)) ⟨(Slc.mk none 0 0), 0, rfl, h0, rfl⟩ ?_
      rintro _ _ w6 ⟨want, i, rfl, hI, rfl⟩
      obtain ⟨again_, again__h, h⟩ : ∃ again_ : Slc → Int → World → Prop, (∀ want' i' w', again_ want' i' w' → I want' i' w' ∧ μ want' i' w' < μ want i w6) ∧ F_towpathlaw02_CodecWrites_L0 script R v16 b_ b_1 again_ want i w6 := ⟨_, fun _ _ _ h => h, hr want i w6 hI⟩
      clear h0 hI
      unfold F_towpathlaw02_CodecWrites_L0 at h
      refine wpE_seq (x := c_towpathlaw02_CodecWrites_35) (y := c_towpathlaw02_CodecWrites_41) (by kernel_rfl) ?_
      refine wpE_seq (x := c_towpathlaw02_CodecWrites_36) (y := c_towpathlaw02_CodecWrites_38) (by kernel_rfl) ?_
      refine wpE_region (id := 9) (ops := r_towpathlaw02_CodecWrites_36) (by kernel_rfl) ?_
      refine reg_run [.plain, .plain, .plain, .plain] 4 [(0, [], Value.slice script.ptr script.len script.cap), (3, [], Value.pointer v16), (4, [], Value.pointer none), (5, [], Value.pointer (some ⟨b_, 0, none⟩)), (6, [], Value.slice want.ptr want.len want.cap), (7, [], Value.pointer (some ⟨b_1, 0, none⟩)), (8, [], Value.int .i64 i), (23, [], Value.bool (decide (i < ((script.len : Nat) : Int))))] (by kernel_rfl) (by kernel_rfl) ?_
      refine reg_end [(0, Value.slice script.ptr script.len script.cap), (3, Value.pointer v16), (4, Value.pointer none), (5, Value.pointer (some ⟨b_, 0, none⟩)), (6, Value.slice want.ptr want.len want.cap), (7, Value.pointer (some ⟨b_1, 0, none⟩)), (8, Value.int .i64 i), (23, Value.bool (decide (i < ((script.len : Nat) : Int))))] (by kernel_rfl) (by kernel_rfl) ?_
      change WpE _ _ c_towpathlaw02_CodecWrites_38 _ _ _
      refine wpE_cond (o := (Operand.tmp 23)) (b := (decide (i < ((script.len : Nat) : Int)))) (x := c_towpathlaw02_CodecWrites_39) (y := c_towpathlaw02_CodecWrites_40) (by kernel_rfl) (by kernel_rfl) (fun hb => ?_) (fun hb => ?_)
      · replace h := h.1 hb
        refine wpE_skip (by kernel_rfl) ?_
        change WpE _ _ c_towpathlaw02_CodecWrites_41 _ _ _
        refine wpE_seq_cut (x := c_towpathlaw02_CodecWrites_42) (y := c_towpathlaw02_CodecWrites_118) (by kernel_rfl) (fun l w => ∃ (want1 : Slc), l = [(0, Value.slice script.ptr script.len script.cap), (3, Value.pointer v16), (4, Value.pointer none), (5, Value.pointer (some ⟨b_, 0, none⟩)), (6, Value.slice want1.ptr want1.len want1.cap), (7, Value.pointer (some ⟨b_1, 0, none⟩)), (8, Value.int .i64 i)] ∧ F_towpathlaw02_CodecWrites_k1 i again_ want1 w) ?_ ?_
        · refine wpE_block (id := 1) (x := c_towpathlaw02_CodecWrites_43) (by kernel_rfl) ?_
          refine wpE_seq (x := c_towpathlaw02_CodecWrites_44) (y := c_towpathlaw02_CodecWrites_46) (by kernel_rfl) ?_
          refine wpE_region (id := 11) (ops := r_towpathlaw02_CodecWrites_44) (by kernel_rfl) ?_
          refine reg_run [.plain, .plain] 2 [(0, [], Value.slice script.ptr script.len script.cap), (3, [], Value.pointer v16), (4, [], Value.pointer none), (5, [], Value.pointer (some ⟨b_, 0, none⟩)), (6, [], Value.slice want.ptr want.len want.cap), (7, [], Value.pointer (some ⟨b_1, 0, none⟩)), (8, [], Value.int .i64 i), (26, [], Value.slice script.ptr script.len script.cap), (27, [], Value.int .i64 i)] (by kernel_rfl) (by kernel_rfl) ?_
          obtain ⟨hp_7, h⟩ := h
          refine reg_conv [(0, [], Value.slice script.ptr script.len script.cap), (3, [], Value.pointer v16), (4, [], Value.pointer none), (5, [], Value.pointer (some ⟨b_, 0, none⟩)), (6, [], Value.slice want.ptr want.len want.cap), (7, [], Value.pointer (some ⟨b_1, 0, none⟩)), (8, [], Value.int .i64 i), (26, [], Value.slice (some ⟨(pblk script.ptr), (poff script.ptr), none⟩) script.len script.cap), (27, [], Value.int .i64 i)] (congrArg (fun pp => ([(0, [], Value.slice script.ptr script.len script.cap), (3, [], Value.pointer v16), (4, [], Value.pointer none), (5, [], Value.pointer (some ⟨b_, 0, none⟩)), (6, [], Value.slice want.ptr want.len want.cap), (7, [], Value.pointer (some ⟨b_1, 0, none⟩)), (8, [], Value.int .i64 i), (26, [], Value.slice pp script.len script.cap), (27, [], Value.int .i64 i)] : GEnv)) hp_7) ?_
          obtain ⟨h0, h1, h⟩ := h
          refine reg_indexS (t := 22) (e := 44) (x := (Go.Operand.tmp 26)) (ix := (Go.Operand.tmp 27)) (b := (pblk script.ptr)) (o := (poff script.ptr)) (l := script.len) (c := script.cap) (k := .i64) (j := i) (ty := 0) (dst := some 28) (sz := 5) (by kernel_rfl) (by kernel_rfl) (by kernel_rfl) (by kernel_rfl) (by kernel_rfl) h0 h1 ?_
          refine reg_run [] 3 [(0, [], Value.slice script.ptr script.len script.cap), (3, [], Value.pointer v16), (4, [], Value.pointer none), (5, [], Value.pointer (some ⟨b_, 0, none⟩)), (6, [], Value.slice want.ptr want.len want.cap), (7, [], Value.pointer (some ⟨b_1, 0, none⟩)), (8, [], Value.int .i64 i), (28, [], Value.pointer (some ⟨(pblk script.ptr), (poff script.ptr) + i.toNat * 5, none⟩))] (by kernel_rfl) (by kernel_rfl) ?_
          obtain ⟨v29, hc, h⟩ := h
          refine reg_loadN (t := 44) (a := (Go.Operand.tmp 28)) (b := (pblk script.ptr)) (o := ((poff script.ptr) + i.toNat * 5)) (ty := 44) (dst := some 29) [Value.int .u8 v29.Kind, Value.int .u64 v29.N, Value.int .i64 v29.Width, Value.string v29.Text, Value.int .i64 v29.Most] (by kernel_rfl) (by kernel_rfl) (by kernel_rfl) (k := 5) (by kernel_rfl) (by kernel_rfl) hc ?_
          refine reg_run [] 4 [(0, [], Value.slice script.ptr script.len script.cap), (3, [], Value.pointer v16), (4, [], Value.pointer none), (5, [], Value.pointer (some ⟨b_, 0, none⟩)), (6, [], Value.slice want.ptr want.len want.cap), (7, [], Value.pointer (some ⟨b_1, 0, none⟩)), (8, [], Value.int .i64 i), (29, [], Value.agg #[Value.int .u8 v29.Kind, Value.int .u64 v29.N, Value.int .i64 v29.Width, Value.string v29.Text, Value.int .i64 v29.Most])] (by kernel_rfl) (by kernel_rfl) ?_
          refine reg_new (op := (Go.Op.alloc 44)) (ty := 0) (dst := some 9) (fun bb => Value.pointer (some ⟨bb, 0, none⟩)) (Obj.cells ([Value.int .u8 0, Value.int .u64 0, Value.int .i64 0, Value.string ByteArray.empty, Value.int .i64 0]).toArray ty_towpathlaw02_Op (0, 0)) (by kernel_rfl) (by kernel_rfl) (fun b_2 w8 hb hw => ?_)
          replace h := h b_2 w8 hb hw
          clear hb hw
          refine reg_run [] 5 [(0, [], Value.slice script.ptr script.len script.cap), (3, [], Value.pointer v16), (4, [], Value.pointer none), (5, [], Value.pointer (some ⟨b_, 0, none⟩)), (6, [], Value.slice want.ptr want.len want.cap), (7, [], Value.pointer (some ⟨b_1, 0, none⟩)), (8, [], Value.int .i64 i), (9, [], Value.pointer (some ⟨b_2, 0, none⟩)), (29, [], Value.agg #[Value.int .u8 v29.Kind, Value.int .u64 v29.N, Value.int .i64 v29.Width, Value.string v29.Text, Value.int .i64 v29.Most])] (by kernel_rfl) (by kernel_rfl) ?_
          obtain ⟨hc, h⟩ := h
          refine reg_store (t := 44) (a := (Go.Operand.tmp 9)) (x := (Go.Operand.tmp 29)) (b := b_2) (o := 0) (ty := 0) (dst := none) [Value.int .u8 v29.Kind, Value.int .u64 v29.N, Value.int .i64 v29.Width, Value.string v29.Text, Value.int .i64 v29.Most] (by kernel_rfl) (by kernel_rfl) (by kernel_rfl) (k := 5) (by kernel_rfl) (by kernel_rfl) (by kernel_rfl) hc (fun w9 hw => ?_)
          replace h := h w9 hw
          clear hw
          refine reg_end [(0, Value.slice script.ptr script.len script.cap), (3, Value.pointer v16), (4, Value.pointer none), (5, Value.pointer (some ⟨b_, 0, none⟩)), (6, Value.slice want.ptr want.len want.cap), (7, Value.pointer (some ⟨b_1, 0, none⟩)), (8, Value.int .i64 i), (9, Value.pointer (some ⟨b_2, 0, none⟩))] (by kernel_rfl) (by kernel_rfl) ?_
          change WpE _ _ c_towpathlaw02_CodecWrites_46 _ _ _
          refine wpE_seq_cut (x := c_towpathlaw02_CodecWrites_47) (y := c_towpathlaw02_CodecWrites_111) (by kernel_rfl) (fun l w => ∃ (want2 : Slc), l = [(0, Value.slice script.ptr script.len script.cap), (3, Value.pointer v16), (4, Value.pointer none), (5, Value.pointer (some ⟨b_, 0, none⟩)), (6, Value.slice want2.ptr want2.len want2.cap), (7, Value.pointer (some ⟨b_1, 0, none⟩)), (8, Value.int .i64 i)] ∧ F_towpathlaw02_CodecWrites_k2 v16 b_1 i again_ want2 w) ?_ ?_
          · refine wpE_seq (x := c_towpathlaw02_CodecWrites_48) (y := c_towpathlaw02_CodecWrites_50) (by kernel_rfl) ?_
            refine wpE_region (id := 12) (ops := r_towpathlaw02_CodecWrites_48) (by kernel_rfl) ?_
            refine reg_run [.plain] 1 [(0, [], Value.slice script.ptr script.len script.cap), (3, [], Value.pointer v16), (4, [], Value.pointer none), (5, [], Value.pointer (some ⟨b_, 0, none⟩)), (6, [], Value.slice want.ptr want.len want.cap), (7, [], Value.pointer (some ⟨b_1, 0, none⟩)), (8, [], Value.int .i64 i), (9, [], Value.pointer (some ⟨b_2, 0, none⟩)), (30, [], Value.pointer (some ⟨b_2, 0, none⟩))] (by kernel_rfl) (by kernel_rfl) ?_
            obtain ⟨v31, hc, h⟩ := h
            refine reg_load1 (t := 5) (a := (Go.Operand.tmp 30)) (b := b_2) (o := 0) (ty := 5) (dst := some 31) (by kernel_rfl) (by kernel_rfl) (by kernel_rfl) hc ?_
            refine reg_end [(0, Value.slice script.ptr script.len script.cap), (3, Value.pointer v16), (4, Value.pointer none), (5, Value.pointer (some ⟨b_, 0, none⟩)), (6, Value.slice want.ptr want.len want.cap), (7, Value.pointer (some ⟨b_1, 0, none⟩)), (8, Value.int .i64 i), (9, Value.pointer (some ⟨b_2, 0, none⟩)), (31, Value.int .u8 v31)] (by kernel_rfl) (by kernel_rfl) ?_
            change WpE _ _ c_towpathlaw02_CodecWrites_50 _ _ _
            refine wpE_block (id := 2) (x := c_towpathlaw02_CodecWrites_51) (by kernel_rfl) ?_
            refine wpE_seq (x := c_towpathlaw02_CodecWrites_52) (y := c_towpathlaw02_CodecWrites_54) (by kernel_rfl) ?_
            refine wpE_region (id := 17) (ops := r_towpathlaw02_CodecWrites_52) (by kernel_rfl) ?_
            refine reg_run [.plain, .plain] 2 [(0, [], Value.slice script.ptr script.len script.cap), (3, [], Value.pointer v16), (4, [], Value.pointer none), (5, [], Value.pointer (some ⟨b_, 0, none⟩)), (6, [], Value.slice want.ptr want.len want.cap), (7, [], Value.pointer (some ⟨b_1, 0, none⟩)), (8, [], Value.int .i64 i), (9, [], Value.pointer (some ⟨b_2, 0, none⟩)), (31, [], Value.int .u8 v31), (46, [], Value.bool (v31 == 1))] (by kernel_rfl) (by kernel_rfl) ?_
            refine reg_end [(0, Value.slice script.ptr script.len script.cap), (3, Value.pointer v16), (4, Value.pointer none), (5, Value.pointer (some ⟨b_, 0, none⟩)), (6, Value.slice want.ptr want.len want.cap), (7, Value.pointer (some ⟨b_1, 0, none⟩)), (8, Value.int .i64 i), (9, Value.pointer (some ⟨b_2, 0, none⟩)), (31, Value.int .u8 v31), (46, Value.bool (v31 == 1))] (by kernel_rfl) (by kernel_rfl) ?_
            change WpE _ _ c_towpathlaw02_CodecWrites_54 _ _ _
            refine wpE_cond (o := (Operand.tmp 46)) (b := (v31 == 1)) (x := c_towpathlaw02_CodecWrites_55) (y := c_towpathlaw02_CodecWrites_70) (by kernel_rfl) (by kernel_rfl) (fun hb => ?_) (fun hb => ?_)
            · replace h := h.1 hb
              refine wpE_seq (x := c_towpathlaw02_CodecWrites_56) (y := c_towpathlaw02_CodecWrites_58) (by kernel_rfl) ?_
              refine wpE_region (id := 18) (ops := r_towpathlaw02_CodecWrites_56) (by kernel_rfl) ?_
              refine reg_run [.plain, .plain] 2 [(0, [], Value.slice script.ptr script.len script.cap), (3, [], Value.pointer v16), (4, [], Value.pointer none), (5, [], Value.pointer (some ⟨b_, 0, none⟩)), (7, [], Value.pointer (some ⟨b_1, 0, none⟩)), (8, [], Value.int .i64 i), (9, [], Value.pointer (some ⟨b_2, 0, none⟩)), (49, [], Value.slice want.ptr want.len want.cap), (50, [], Value.pointer (some ⟨b_2, 1, none⟩))] (by kernel_rfl) (by kernel_rfl) ?_
              obtain ⟨v51, hc, h⟩ := h
              refine reg_load1 (t := 42) (a := (Go.Operand.tmp 50)) (b := b_2) (o := 1) (ty := 42) (dst := some 51) (by kernel_rfl) (by kernel_rfl) (by kernel_rfl) hc ?_
              refine reg_run [.plain] 4 [(0, [], Value.slice script.ptr script.len script.cap), (3, [], Value.pointer v16), (4, [], Value.pointer none), (5, [], Value.pointer (some ⟨b_, 0, none⟩)), (7, [], Value.pointer (some ⟨b_1, 0, none⟩)), (8, [], Value.int .i64 i), (9, [], Value.pointer (some ⟨b_2, 0, none⟩)), (49, [], Value.slice want.ptr want.len want.cap), (51, [], Value.int .u64 v51), (52, [], Value.pointer (some ⟨b_2, 2, none⟩))] (by kernel_rfl) (by kernel_rfl) ?_
              obtain ⟨v53, hc, h⟩ := h
              refine reg_load1 (t := 3) (a := (Go.Operand.tmp 52)) (b := b_2) (o := 2) (ty := 3) (dst := some 53) (by kernel_rfl) (by kernel_rfl) (by kernel_rfl) hc ?_
              refine reg_run [] 5 [(0, [], Value.slice script.ptr script.len script.cap), (3, [], Value.pointer v16), (4, [], Value.pointer none), (5, [], Value.pointer (some ⟨b_, 0, none⟩)), (7, [], Value.pointer (some ⟨b_1, 0, none⟩)), (8, [], Value.int .i64 i), (9, [], Value.pointer (some ⟨b_2, 0, none⟩)), (49, [], Value.slice want.ptr want.len want.cap), (51, [], Value.int .u64 v51), (53, [], Value.int .i64 v53)] (by kernel_rfl) (by kernel_rfl) ?_
              refine reg_enter (op := (Go.Op.call (Go.Call.mk (Go.Callee.value (Go.Operand.func 6)) #[(Go.Operand.tmp 49), (Go.Operand.tmp 51), (Go.Operand.tmp 53)] #[26, 42, 3]))) (ty := 46) (dst := some 54) 6 #[Value.slice want.ptr want.len want.cap, Value.int .u64 v51, Value.int .i64 v53] (by kernel_rfl) (fun ww => by kernel_rfl) (Calls.mono h ?_)
              rintro _ w13 ⟨next, f, rfl, h⟩
              refine ⟨_, rfl, ?_⟩
              refine reg_run [.plain, .plain, .plain, .plain, .plain] 11 [(0, [], Value.slice script.ptr script.len script.cap), (3, [], Value.pointer v16), (4, [], Value.pointer none), (5, [], Value.pointer (some ⟨b_, 0, none⟩)), (7, [], Value.pointer (some ⟨b_1, 0, none⟩)), (8, [], Value.int .i64 i), (9, [], Value.pointer (some ⟨b_2, 0, none⟩)), (10, [], Value.slice next.ptr next.len next.cap), (11, [], Value.int .i64 f)] (by kernel_rfl) (by kernel_rfl) ?_
              refine reg_end [(0, Value.slice script.ptr script.len script.cap), (3, Value.pointer v16), (4, Value.pointer none), (5, Value.pointer (some ⟨b_, 0, none⟩)), (7, Value.pointer (some ⟨b_1, 0, none⟩)), (8, Value.int .i64 i), (9, Value.pointer (some ⟨b_2, 0, none⟩)), (10, Value.slice next.ptr next.len next.cap), (11, Value.int .i64 f)] (by kernel_rfl) (by kernel_rfl) ?_
              change WpE _ _ c_towpathlaw02_CodecWrites_58 _ _ _
              refine wpE_seq (x := c_towpathlaw02_CodecWrites_59) (y := c_towpathlaw02_CodecWrites_61) (by kernel_rfl) ?_
              refine wpE_region (id := 19) (ops := r_towpathlaw02_CodecWrites_59) (by kernel_rfl) ?_
              refine reg_run [.plain, .plain] 2 [(0, [], Value.slice script.ptr script.len script.cap), (3, [], Value.pointer v16), (4, [], Value.pointer none), (5, [], Value.pointer (some ⟨b_, 0, none⟩)), (6, [], Value.slice next.ptr next.len next.cap), (7, [], Value.pointer (some ⟨b_1, 0, none⟩)), (8, [], Value.int .i64 i), (9, [], Value.pointer (some ⟨b_2, 0, none⟩)), (11, [], Value.int .i64 f)] (by kernel_rfl) (by kernel_rfl) ?_
              refine reg_end [(0, Value.slice script.ptr script.len script.cap), (3, Value.pointer v16), (4, Value.pointer none), (5, Value.pointer (some ⟨b_, 0, none⟩)), (6, Value.slice next.ptr next.len next.cap), (7, Value.pointer (some ⟨b_1, 0, none⟩)), (8, Value.int .i64 i), (9, Value.pointer (some ⟨b_2, 0, none⟩)), (11, Value.int .i64 f)] (by kernel_rfl) (by kernel_rfl) ?_
              change WpE _ _ c_towpathlaw02_CodecWrites_61 _ _ _
              refine wpE_seq_cut (x := c_towpathlaw02_CodecWrites_62) (y := c_towpathlaw02_CodecWrites_64) (by kernel_rfl) (fun l w => ∃ (t83 : Bool), l = [(0, Value.slice script.ptr script.len script.cap), (3, Value.pointer v16), (4, Value.pointer none), (5, Value.pointer (some ⟨b_, 0, none⟩)), (6, Value.slice next.ptr next.len next.cap), (7, Value.pointer (some ⟨b_1, 0, none⟩)), (8, Value.int .i64 i), (83, Value.bool t83)] ∧ F_towpathlaw02_CodecWrites_k3 R v16 b_1 i again_ next t83 w) ?_ ?_
              · refine wpE_region (id := 20) (ops := r_towpathlaw02_CodecWrites_62) (by kernel_rfl) ?_
                refine reg_run [.plain, .plain] 2 [(0, [], Value.slice script.ptr script.len script.cap), (3, [], Value.pointer v16), (4, [], Value.pointer none), (5, [], Value.pointer (some ⟨b_, 0, none⟩)), (6, [], Value.slice next.ptr next.len next.cap), (7, [], Value.pointer (some ⟨b_1, 0, none⟩)), (8, [], Value.int .i64 i), (9, [], Value.pointer (some ⟨b_2, 0, none⟩)), (11, [], Value.int .i64 f), (58, [], Value.pointer v16), (59, [], Value.pointer (some ⟨b_2, 1, none⟩))] (by kernel_rfl) (by kernel_rfl) ?_
                obtain ⟨v60, hc, h⟩ := h
                refine reg_load1 (t := 42) (a := (Go.Operand.tmp 59)) (b := b_2) (o := 1) (ty := 42) (dst := some 60) (by kernel_rfl) (by kernel_rfl) (by kernel_rfl) hc ?_
                refine reg_run [.plain] 4 [(0, [], Value.slice script.ptr script.len script.cap), (3, [], Value.pointer v16), (4, [], Value.pointer none), (5, [], Value.pointer (some ⟨b_, 0, none⟩)), (6, [], Value.slice next.ptr next.len next.cap), (7, [], Value.pointer (some ⟨b_1, 0, none⟩)), (8, [], Value.int .i64 i), (9, [], Value.pointer (some ⟨b_2, 0, none⟩)), (11, [], Value.int .i64 f), (58, [], Value.pointer v16), (60, [], Value.int .u64 v60), (61, [], Value.pointer (some ⟨b_2, 2, none⟩))] (by kernel_rfl) (by kernel_rfl) ?_
                obtain ⟨v62, hc, h⟩ := h
                refine reg_load1 (t := 3) (a := (Go.Operand.tmp 61)) (b := b_2) (o := 2) (ty := 3) (dst := some 62) (by kernel_rfl) (by kernel_rfl) (by kernel_rfl) hc ?_
                refine reg_run [] 5 [(0, [], Value.slice script.ptr script.len script.cap), (3, [], Value.pointer v16), (4, [], Value.pointer none), (5, [], Value.pointer (some ⟨b_, 0, none⟩)), (6, [], Value.slice next.ptr next.len next.cap), (7, [], Value.pointer (some ⟨b_1, 0, none⟩)), (8, [], Value.int .i64 i), (9, [], Value.pointer (some ⟨b_2, 0, none⟩)), (11, [], Value.int .i64 f), (58, [], Value.pointer v16), (60, [], Value.int .u64 v60), (62, [], Value.int .i64 v62)] (by kernel_rfl) (by kernel_rfl) ?_
                refine reg_enter (op := (Go.Op.call (Go.Call.mk (Go.Callee.value (Go.Operand.func 7)) #[(Go.Operand.tmp 58), (Go.Operand.tmp 60), (Go.Operand.tmp 62)] #[24, 42, 3]))) (ty := 45) (dst := some 63) 7 #[Value.pointer v16, Value.int .u64 v60, Value.int .i64 v62] (by kernel_rfl) (fun ww => by kernel_rfl) (Calls.mono h ?_)
                rintro _ w15 ⟨v63, rfl, h⟩
                refine ⟨_, rfl, ?_⟩
                refine reg_run [.plain, .plain, .plain, .plain, .plain] 11 [(0, [], Value.slice script.ptr script.len script.cap), (3, [], Value.pointer v16), (4, [], Value.pointer none), (5, [], Value.pointer (some ⟨b_, 0, none⟩)), (6, [], Value.slice next.ptr next.len next.cap), (7, [], Value.pointer (some ⟨b_1, 0, none⟩)), (8, [], Value.int .i64 i), (9, [], Value.pointer (some ⟨b_2, 0, none⟩)), (66, [], Value.bool (v63 != f)), (67, [(66, false)], Value.pointer none), (68, [(66, false)], Value.pointer (some ⟨b_2, 1, none⟩))] (by kernel_rfl) (by kernel_rfl) ?_
                refine reg_split 66 (v63 != f) (by kernel_rfl) (fun hb => ?_) (fun hb => ?_)
                · replace h := h.1 hb
                  refine reg_run [] 11 [(0, [], Value.slice script.ptr script.len script.cap), (3, [], Value.pointer v16), (4, [], Value.pointer none), (5, [], Value.pointer (some ⟨b_, 0, none⟩)), (6, [], Value.slice next.ptr next.len next.cap), (7, [], Value.pointer (some ⟨b_1, 0, none⟩)), (8, [], Value.int .i64 i), (9, [], Value.pointer (some ⟨b_2, 0, none⟩)), (66, [], Value.bool true), (67, [], undef), (68, [], undef)] (by kernel_rfl) (by kernel_rfl) ?_
                  refine reg_run [.skip, .skip, .skip, .skip, .skip, .plain, .plain, .skip, .skip, .skip, .skip, .skip, .skip, .skip, .plain] 26 [(0, [], Value.slice script.ptr script.len script.cap), (3, [], Value.pointer v16), (4, [], Value.pointer none), (5, [], Value.pointer (some ⟨b_, 0, none⟩)), (6, [], Value.slice next.ptr next.len next.cap), (7, [], Value.pointer (some ⟨b_1, 0, none⟩)), (8, [], Value.int .i64 i), (83, [], Value.bool true)] (by kernel_rfl) (by kernel_rfl) ?_
                  refine reg_end [(0, Value.slice script.ptr script.len script.cap), (3, Value.pointer v16), (4, Value.pointer none), (5, Value.pointer (some ⟨b_, 0, none⟩)), (6, Value.slice next.ptr next.len next.cap), (7, Value.pointer (some ⟨b_1, 0, none⟩)), (8, Value.int .i64 i), (83, Value.bool true)] (by kernel_rfl) (by kernel_rfl) ?_
                  exact ⟨[(0, Value.slice script.ptr script.len script.cap), (3, Value.pointer v16), (4, Value.pointer none), (5, Value.pointer (some ⟨b_, 0, none⟩)), (6, Value.slice next.ptr next.len next.cap), (7, Value.pointer (some ⟨b_1, 0, none⟩)), (8, Value.int .i64 i), (83, Value.bool true)], Sub.mk (by kernel_rfl), true, rfl, h⟩
                · replace h := h.2 hb
                  refine reg_run [] 11 [(0, [], Value.slice script.ptr script.len script.cap), (3, [], Value.pointer v16), (4, [], Value.pointer none), (5, [], Value.pointer (some ⟨b_, 0, none⟩)), (6, [], Value.slice next.ptr next.len next.cap), (7, [], Value.pointer (some ⟨b_1, 0, none⟩)), (8, [], Value.int .i64 i), (9, [], Value.pointer (some ⟨b_2, 0, none⟩)), (66, [], Value.bool false), (67, [], Value.pointer none), (68, [], Value.pointer (some ⟨b_2, 1, none⟩))] (by kernel_rfl) (by kernel_rfl) ?_
                  refine reg_run [] 11 [(0, [], Value.slice script.ptr script.len script.cap), (3, [], Value.pointer v16), (4, [], Value.pointer none), (5, [], Value.pointer (some ⟨b_, 0, none⟩)), (6, [], Value.slice next.ptr next.len next.cap), (7, [], Value.pointer (some ⟨b_1, 0, none⟩)), (8, [], Value.int .i64 i), (9, [], Value.pointer (some ⟨b_2, 0, none⟩)), (66, [], Value.bool false), (67, [], Value.pointer none), (68, [], Value.pointer (some ⟨b_2, 1, none⟩))] (by kernel_rfl) (by kernel_rfl) ?_
                  obtain ⟨v69, hc, h⟩ := h
                  refine reg_load1 (t := 42) (a := (Go.Operand.tmp 68)) (b := b_2) (o := 1) (ty := 42) (dst := some 69) (by kernel_rfl) (by kernel_rfl) (by kernel_rfl) hc ?_
                  refine reg_run [.sure] 13 [(0, [], Value.slice script.ptr script.len script.cap), (3, [], Value.pointer v16), (4, [], Value.pointer none), (5, [], Value.pointer (some ⟨b_, 0, none⟩)), (6, [], Value.slice next.ptr next.len next.cap), (7, [], Value.pointer (some ⟨b_1, 0, none⟩)), (8, [], Value.int .i64 i), (9, [], Value.pointer (some ⟨b_2, 0, none⟩)), (66, [], Value.bool false), (67, [], Value.pointer none), (69, [], Value.int .u64 v69), (70, [], Value.pointer (some ⟨b_2, 2, none⟩))] (by kernel_rfl) (by kernel_rfl) ?_
                  obtain ⟨v71, hc, h⟩ := h
                  refine reg_load1 (t := 3) (a := (Go.Operand.tmp 70)) (b := b_2) (o := 2) (ty := 3) (dst := some 71) (by kernel_rfl) (by kernel_rfl) (by kernel_rfl) hc ?_
                  refine reg_run [] 14 [(0, [], Value.slice script.ptr script.len script.cap), (3, [], Value.pointer v16), (4, [], Value.pointer none), (5, [], Value.pointer (some ⟨b_, 0, none⟩)), (6, [], Value.slice next.ptr next.len next.cap), (7, [], Value.pointer (some ⟨b_1, 0, none⟩)), (8, [], Value.int .i64 i), (9, [], Value.pointer (some ⟨b_2, 0, none⟩)), (66, [], Value.bool false), (67, [], Value.pointer none), (69, [], Value.int .u64 v69), (71, [], Value.int .i64 v71)] (by kernel_rfl) (by kernel_rfl) ?_
                  refine reg_enter (op := (Go.Op.call (Go.Call.mk (Go.Callee.value (Go.Operand.func 7)) #[(Go.Operand.tmp 67), (Go.Operand.tmp 69), (Go.Operand.tmp 71)] #[24, 42, 3]))) (ty := 45) (dst := some 72) 7 #[Value.pointer none, Value.int .u64 v69, Value.int .i64 v71] (by kernel_rfl) (fun ww => by kernel_rfl) (Calls.mono h ?_)
                  rintro _ w16 ⟨v72, rfl, h⟩
                  refine ⟨_, rfl, ?_⟩
                  refine reg_run [.sure, .plain, .plain, .plain, .plain] 20 [(0, [], Value.slice script.ptr script.len script.cap), (3, [], Value.pointer v16), (4, [], Value.pointer none), (5, [], Value.pointer (some ⟨b_, 0, none⟩)), (6, [], Value.slice next.ptr next.len next.cap), (7, [], Value.pointer (some ⟨b_1, 0, none⟩)), (8, [], Value.int .i64 i), (9, [], Value.pointer (some ⟨b_2, 0, none⟩)), (75, [], Value.bool (v72 != 2)), (76, [(75, false)], Value.pointer (some ⟨b_, 0, none⟩)), (77, [(75, false)], Value.pointer (some ⟨b_2, 1, none⟩))] (by kernel_rfl) (by kernel_rfl) ?_
                  refine reg_split 75 (v72 != 2) (by kernel_rfl) (fun hb => ?_) (fun hb => ?_)
                  · replace h := h.1 hb
                    refine reg_run [] 20 [(0, [], Value.slice script.ptr script.len script.cap), (3, [], Value.pointer v16), (4, [], Value.pointer none), (5, [], Value.pointer (some ⟨b_, 0, none⟩)), (6, [], Value.slice next.ptr next.len next.cap), (7, [], Value.pointer (some ⟨b_1, 0, none⟩)), (8, [], Value.int .i64 i), (9, [], Value.pointer (some ⟨b_2, 0, none⟩)), (75, [], Value.bool true), (76, [], undef), (77, [], undef)] (by kernel_rfl) (by kernel_rfl) ?_
                    refine reg_run [.skip, .skip, .skip, .skip, .skip, .plain] 26 [(0, [], Value.slice script.ptr script.len script.cap), (3, [], Value.pointer v16), (4, [], Value.pointer none), (5, [], Value.pointer (some ⟨b_, 0, none⟩)), (6, [], Value.slice next.ptr next.len next.cap), (7, [], Value.pointer (some ⟨b_1, 0, none⟩)), (8, [], Value.int .i64 i), (83, [], Value.bool true)] (by kernel_rfl) (by kernel_rfl) ?_
                    refine reg_end [(0, Value.slice script.ptr script.len script.cap), (3, Value.pointer v16), (4, Value.pointer none), (5, Value.pointer (some ⟨b_, 0, none⟩)), (6, Value.slice next.ptr next.len next.cap), (7, Value.pointer (some ⟨b_1, 0, none⟩)), (8, Value.int .i64 i), (83, Value.bool true)] (by kernel_rfl) (by kernel_rfl) ?_
                    exact ⟨[(0, Value.slice script.ptr script.len script.cap), (3, Value.pointer v16), (4, Value.pointer none), (5, Value.pointer (some ⟨b_, 0, none⟩)), (6, Value.slice next.ptr next.len next.cap), (7, Value.pointer (some ⟨b_1, 0, none⟩)), (8, Value.int .i64 i), (83, Value.bool true)], Sub.mk (by kernel_rfl), true, rfl, h⟩
                  · replace h := h.2 hb
                    refine reg_run [] 20 [(0, [], Value.slice script.ptr script.len script.cap), (3, [], Value.pointer v16), (4, [], Value.pointer none), (5, [], Value.pointer (some ⟨b_, 0, none⟩)), (6, [], Value.slice next.ptr next.len next.cap), (7, [], Value.pointer (some ⟨b_1, 0, none⟩)), (8, [], Value.int .i64 i), (9, [], Value.pointer (some ⟨b_2, 0, none⟩)), (75, [], Value.bool false), (76, [], Value.pointer (some ⟨b_, 0, none⟩)), (77, [], Value.pointer (some ⟨b_2, 1, none⟩))] (by kernel_rfl) (by kernel_rfl) ?_
                    refine reg_run [] 20 [(0, [], Value.slice script.ptr script.len script.cap), (3, [], Value.pointer v16), (4, [], Value.pointer none), (5, [], Value.pointer (some ⟨b_, 0, none⟩)), (6, [], Value.slice next.ptr next.len next.cap), (7, [], Value.pointer (some ⟨b_1, 0, none⟩)), (8, [], Value.int .i64 i), (9, [], Value.pointer (some ⟨b_2, 0, none⟩)), (75, [], Value.bool false), (76, [], Value.pointer (some ⟨b_, 0, none⟩)), (77, [], Value.pointer (some ⟨b_2, 1, none⟩))] (by kernel_rfl) (by kernel_rfl) ?_
                    obtain ⟨v78, hc, h⟩ := h
                    refine reg_load1 (t := 42) (a := (Go.Operand.tmp 77)) (b := b_2) (o := 1) (ty := 42) (dst := some 78) (by kernel_rfl) (by kernel_rfl) (by kernel_rfl) hc ?_
                    refine reg_run [.sure] 22 [(0, [], Value.slice script.ptr script.len script.cap), (3, [], Value.pointer v16), (4, [], Value.pointer none), (5, [], Value.pointer (some ⟨b_, 0, none⟩)), (6, [], Value.slice next.ptr next.len next.cap), (7, [], Value.pointer (some ⟨b_1, 0, none⟩)), (8, [], Value.int .i64 i), (75, [], Value.bool false), (76, [], Value.pointer (some ⟨b_, 0, none⟩)), (78, [], Value.int .u64 v78), (79, [], Value.pointer (some ⟨b_2, 2, none⟩))] (by kernel_rfl) (by kernel_rfl) ?_
                    obtain ⟨v80, hc, h⟩ := h
                    refine reg_load1 (t := 3) (a := (Go.Operand.tmp 79)) (b := b_2) (o := 2) (ty := 3) (dst := some 80) (by kernel_rfl) (by kernel_rfl) (by kernel_rfl) hc ?_
                    refine reg_run [] 23 [(0, [], Value.slice script.ptr script.len script.cap), (3, [], Value.pointer v16), (4, [], Value.pointer none), (5, [], Value.pointer (some ⟨b_, 0, none⟩)), (6, [], Value.slice next.ptr next.len next.cap), (7, [], Value.pointer (some ⟨b_1, 0, none⟩)), (8, [], Value.int .i64 i), (75, [], Value.bool false), (76, [], Value.pointer (some ⟨b_, 0, none⟩)), (78, [], Value.int .u64 v78), (80, [], Value.int .i64 v80)] (by kernel_rfl) (by kernel_rfl) ?_
                    refine reg_enter (op := (Go.Op.call (Go.Call.mk (Go.Callee.value (Go.Operand.func 7)) #[(Go.Operand.tmp 76), (Go.Operand.tmp 78), (Go.Operand.tmp 80)] #[24, 42, 3]))) (ty := 45) (dst := some 81) 7 #[Value.pointer (some ⟨b_, 0, none⟩), Value.int .u64 v78, Value.int .i64 v80] (by kernel_rfl) (fun ww => by kernel_rfl) (Calls.mono h ?_)
                    rintro _ w17 ⟨v81, rfl, h⟩
                    refine ⟨_, rfl, ?_⟩
                    refine reg_run [.sure, .plain] 26 [(0, [], Value.slice script.ptr script.len script.cap), (3, [], Value.pointer v16), (4, [], Value.pointer none), (5, [], Value.pointer (some ⟨b_, 0, none⟩)), (6, [], Value.slice next.ptr next.len next.cap), (7, [], Value.pointer (some ⟨b_1, 0, none⟩)), (8, [], Value.int .i64 i), (83, [], Value.bool (v81 != 2))] (by kernel_rfl) (by kernel_rfl) ?_
                    refine reg_end [(0, Value.slice script.ptr script.len script.cap), (3, Value.pointer v16), (4, Value.pointer none), (5, Value.pointer (some ⟨b_, 0, none⟩)), (6, Value.slice next.ptr next.len next.cap), (7, Value.pointer (some ⟨b_1, 0, none⟩)), (8, Value.int .i64 i), (83, Value.bool (v81 != 2))] (by kernel_rfl) (by kernel_rfl) ?_
                    exact ⟨[(0, Value.slice script.ptr script.len script.cap), (3, Value.pointer v16), (4, Value.pointer none), (5, Value.pointer (some ⟨b_, 0, none⟩)), (6, Value.slice next.ptr next.len next.cap), (7, Value.pointer (some ⟨b_1, 0, none⟩)), (8, Value.int .i64 i), (83, Value.bool (v81 != 2))], Sub.mk (by kernel_rfl), (v81 != 2), rfl, h⟩
              · rintro _ w14 ⟨t83, rfl, h⟩
                unfold F_towpathlaw02_CodecWrites_k3 at h
                refine wpE_cond (o := (Operand.tmp 83)) (b := t83) (x := c_towpathlaw02_CodecWrites_65) (y := c_towpathlaw02_CodecWrites_69) (by kernel_rfl) (by kernel_rfl) (fun hb => ?_) (fun hb => ?_)
                · replace h := h.1 hb
                  refine wpE_seq (x := c_towpathlaw02_CodecWrites_66) (y := c_towpathlaw02_CodecWrites_68) (by kernel_rfl) ?_
                  refine wpE_region (id := 21) (ops := r_towpathlaw02_CodecWrites_66) (by kernel_rfl) ?_
                  refine reg_run [.plain] 1 [(2, [], Value.bool false)] (by kernel_rfl) (by kernel_rfl) ?_
                  refine reg_end [(2, Value.bool false)] (by kernel_rfl) (by kernel_rfl) ?_
                  change WpE _ _ c_towpathlaw02_CodecWrites_68 _ _ _
                  refine wpE_ret (by kernel_rfl) ?_
                  repeat (first | refine seqQ_ret ?_ | refine blockQ_ret ?_ | refine loopQ_ret ?_ | refine cutQ_ret ?_)
                  exact retS (rs := [(Go.ResultVar.tmp 2)]) (v := Value.bool false) (by kernel_rfl) (⟨by kernel_rfl, trivial⟩) ⟨false, rfl, h⟩
                · replace h := h.2 hb
                  refine wpE_skip (by kernel_rfl) ?_
                  exact ⟨[(0, Value.slice script.ptr script.len script.cap), (3, Value.pointer v16), (4, Value.pointer none), (5, Value.pointer (some ⟨b_, 0, none⟩)), (6, Value.slice next.ptr next.len next.cap), (7, Value.pointer (some ⟨b_1, 0, none⟩)), (8, Value.int .i64 i)], Sub.mk (by kernel_rfl), next, rfl, h⟩
            · replace h := h.2 hb
              refine wpE_seq (x := c_towpathlaw02_CodecWrites_71) (y := c_towpathlaw02_CodecWrites_73) (by kernel_rfl) ?_
              refine wpE_region (id := 22) (ops := r_towpathlaw02_CodecWrites_71) (by kernel_rfl) ?_
              refine reg_run [.plain, .plain] 2 [(0, [], Value.slice script.ptr script.len script.cap), (3, [], Value.pointer v16), (4, [], Value.pointer none), (5, [], Value.pointer (some ⟨b_, 0, none⟩)), (6, [], Value.slice want.ptr want.len want.cap), (7, [], Value.pointer (some ⟨b_1, 0, none⟩)), (8, [], Value.int .i64 i), (9, [], Value.pointer (some ⟨b_2, 0, none⟩)), (31, [], Value.int .u8 v31), (84, [], Value.bool (v31 == 3))] (by kernel_rfl) (by kernel_rfl) ?_
              refine reg_end [(0, Value.slice script.ptr script.len script.cap), (3, Value.pointer v16), (4, Value.pointer none), (5, Value.pointer (some ⟨b_, 0, none⟩)), (6, Value.slice want.ptr want.len want.cap), (7, Value.pointer (some ⟨b_1, 0, none⟩)), (8, Value.int .i64 i), (9, Value.pointer (some ⟨b_2, 0, none⟩)), (31, Value.int .u8 v31), (84, Value.bool (v31 == 3))] (by kernel_rfl) (by kernel_rfl) ?_
              change WpE _ _ c_towpathlaw02_CodecWrites_73 _ _ _
              refine wpE_cond (o := (Operand.tmp 84)) (b := (v31 == 3)) (x := c_towpathlaw02_CodecWrites_74) (y := c_towpathlaw02_CodecWrites_85) (by kernel_rfl) (by kernel_rfl) (fun hb => ?_) (fun hb => ?_)
              · replace h := h.1 hb
                refine wpE_seq (x := c_towpathlaw02_CodecWrites_75) (y := c_towpathlaw02_CodecWrites_77) (by kernel_rfl) ?_
                refine wpE_region (id := 23) (ops := r_towpathlaw02_CodecWrites_75) (by kernel_rfl) ?_
                refine reg_run [.plain, .plain] 2 [(0, [], Value.slice script.ptr script.len script.cap), (3, [], Value.pointer v16), (4, [], Value.pointer none), (5, [], Value.pointer (some ⟨b_, 0, none⟩)), (6, [], Value.slice want.ptr want.len want.cap), (7, [], Value.pointer (some ⟨b_1, 0, none⟩)), (8, [], Value.int .i64 i), (9, [], Value.pointer (some ⟨b_2, 0, none⟩)), (86, [], Value.slice want.ptr want.len want.cap), (87, [], Value.pointer (some ⟨b_2, 1, none⟩))] (by kernel_rfl) (by kernel_rfl) ?_
                obtain ⟨v88, hc, h⟩ := h
                refine reg_load1 (t := 42) (a := (Go.Operand.tmp 87)) (b := b_2) (o := 1) (ty := 42) (dst := some 88) (by kernel_rfl) (by kernel_rfl) (by kernel_rfl) hc ?_
                refine reg_run [.plain] 4 [(0, [], Value.slice script.ptr script.len script.cap), (3, [], Value.pointer v16), (4, [], Value.pointer none), (5, [], Value.pointer (some ⟨b_, 0, none⟩)), (6, [], Value.slice want.ptr want.len want.cap), (7, [], Value.pointer (some ⟨b_1, 0, none⟩)), (8, [], Value.int .i64 i), (9, [], Value.pointer (some ⟨b_2, 0, none⟩)), (86, [], Value.slice want.ptr want.len want.cap), (89, [], Value.int .i64 (IntKind.i64.wrap v88))] (by kernel_rfl) (by kernel_rfl) ?_
                refine reg_enter (op := (Go.Op.call (Go.Call.mk (Go.Callee.value (Go.Operand.func 8)) #[(Go.Operand.tmp 86), (Go.Operand.tmp 89)] #[26, 2]))) (ty := 26) (dst := some 90) 8 #[Value.slice want.ptr want.len want.cap, Value.int .i64 (IntKind.i64.wrap v88)] (by kernel_rfl) (fun ww => by kernel_rfl) (Calls.mono h ?_)
                rintro _ w18 ⟨v90, rfl, h⟩
                refine ⟨_, rfl, ?_⟩
                refine reg_run [.plain] 6 [(0, [], Value.slice script.ptr script.len script.cap), (3, [], Value.pointer v16), (4, [], Value.pointer none), (5, [], Value.pointer (some ⟨b_, 0, none⟩)), (6, [], Value.slice v90.ptr v90.len v90.cap), (7, [], Value.pointer (some ⟨b_1, 0, none⟩)), (8, [], Value.int .i64 i), (9, [], Value.pointer (some ⟨b_2, 0, none⟩))] (by kernel_rfl) (by kernel_rfl) ?_
                refine reg_end [(0, Value.slice script.ptr script.len script.cap), (3, Value.pointer v16), (4, Value.pointer none), (5, Value.pointer (some ⟨b_, 0, none⟩)), (6, Value.slice v90.ptr v90.len v90.cap), (7, Value.pointer (some ⟨b_1, 0, none⟩)), (8, Value.int .i64 i), (9, Value.pointer (some ⟨b_2, 0, none⟩))] (by kernel_rfl) (by kernel_rfl) ?_
                change WpE _ _ c_towpathlaw02_CodecWrites_77 _ _ _
                refine wpE_seq (x := c_towpathlaw02_CodecWrites_78) (y := c_towpathlaw02_CodecWrites_80) (by kernel_rfl) ?_
                refine wpE_region (id := 24) (ops := r_towpathlaw02_CodecWrites_78) (by kernel_rfl) ?_
                refine reg_run [.plain, .plain] 2 [(0, [], Value.slice script.ptr script.len script.cap), (3, [], Value.pointer v16), (4, [], Value.pointer none), (5, [], Value.pointer (some ⟨b_, 0, none⟩)), (6, [], Value.slice v90.ptr v90.len v90.cap), (7, [], Value.pointer (some ⟨b_1, 0, none⟩)), (8, [], Value.int .i64 i), (9, [], Value.pointer (some ⟨b_2, 0, none⟩)), (91, [], Value.pointer v16), (92, [], Value.pointer (some ⟨b_2, 1, none⟩))] (by kernel_rfl) (by kernel_rfl) ?_
                obtain ⟨v93, hc, h⟩ := h
                refine reg_load1 (t := 42) (a := (Go.Operand.tmp 92)) (b := b_2) (o := 1) (ty := 42) (dst := some 93) (by kernel_rfl) (by kernel_rfl) (by kernel_rfl) hc ?_
                refine reg_run [.plain] 4 [(0, [], Value.slice script.ptr script.len script.cap), (3, [], Value.pointer v16), (4, [], Value.pointer none), (5, [], Value.pointer (some ⟨b_, 0, none⟩)), (6, [], Value.slice v90.ptr v90.len v90.cap), (7, [], Value.pointer (some ⟨b_1, 0, none⟩)), (8, [], Value.int .i64 i), (9, [], Value.pointer (some ⟨b_2, 0, none⟩)), (91, [], Value.pointer v16), (94, [], Value.int .i64 (IntKind.i64.wrap v93))] (by kernel_rfl) (by kernel_rfl) ?_
                refine reg_enter (op := (Go.Op.call (Go.Call.mk (Go.Callee.value (Go.Operand.func 9)) #[(Go.Operand.tmp 91), (Go.Operand.tmp 94)] #[24, 2]))) (ty := 0) (dst := some 95) 9 #[Value.pointer v16, Value.int .i64 (IntKind.i64.wrap v93)] (by kernel_rfl) (fun ww => by kernel_rfl) (Calls.mono h ?_)
                rintro _ w19 ⟨rfl, h⟩
                refine ⟨_, rfl, ?_⟩
                refine reg_end [(0, Value.slice script.ptr script.len script.cap), (3, Value.pointer v16), (4, Value.pointer none), (5, Value.pointer (some ⟨b_, 0, none⟩)), (6, Value.slice v90.ptr v90.len v90.cap), (7, Value.pointer (some ⟨b_1, 0, none⟩)), (8, Value.int .i64 i), (9, Value.pointer (some ⟨b_2, 0, none⟩))] (by kernel_rfl) (by kernel_rfl) ?_
                change WpE _ _ c_towpathlaw02_CodecWrites_80 _ _ _
                refine wpE_seq (x := c_towpathlaw02_CodecWrites_81) (y := c_towpathlaw02_CodecWrites_83) (by kernel_rfl) ?_
                refine wpE_region (id := 25) (ops := r_towpathlaw02_CodecWrites_81) (by kernel_rfl) ?_
                refine reg_run [.plain, .plain] 2 [(0, [], Value.slice script.ptr script.len script.cap), (3, [], Value.pointer v16), (4, [], Value.pointer none), (5, [], Value.pointer (some ⟨b_, 0, none⟩)), (6, [], Value.slice v90.ptr v90.len v90.cap), (7, [], Value.pointer (some ⟨b_1, 0, none⟩)), (8, [], Value.int .i64 i), (96, [], Value.pointer none), (97, [], Value.pointer (some ⟨b_2, 1, none⟩))] (by kernel_rfl) (by kernel_rfl) ?_
                obtain ⟨v98, hc, h⟩ := h
                refine reg_load1 (t := 42) (a := (Go.Operand.tmp 97)) (b := b_2) (o := 1) (ty := 42) (dst := some 98) (by kernel_rfl) (by kernel_rfl) (by kernel_rfl) hc ?_
                refine reg_run [.plain] 4 [(0, [], Value.slice script.ptr script.len script.cap), (3, [], Value.pointer v16), (4, [], Value.pointer none), (5, [], Value.pointer (some ⟨b_, 0, none⟩)), (6, [], Value.slice v90.ptr v90.len v90.cap), (7, [], Value.pointer (some ⟨b_1, 0, none⟩)), (8, [], Value.int .i64 i), (96, [], Value.pointer none), (99, [], Value.int .i64 (IntKind.i64.wrap v98))] (by kernel_rfl) (by kernel_rfl) ?_
                refine reg_enter (op := (Go.Op.call (Go.Call.mk (Go.Callee.value (Go.Operand.func 9)) #[(Go.Operand.tmp 96), (Go.Operand.tmp 99)] #[24, 2]))) (ty := 0) (dst := some 100) 9 #[Value.pointer none, Value.int .i64 (IntKind.i64.wrap v98)] (by kernel_rfl) (fun ww => by kernel_rfl) (Calls.mono h ?_)
                rintro _ w20 ⟨rfl, h⟩
                refine ⟨_, rfl, ?_⟩
                refine reg_end [(0, Value.slice script.ptr script.len script.cap), (3, Value.pointer v16), (4, Value.pointer none), (5, Value.pointer (some ⟨b_, 0, none⟩)), (6, Value.slice v90.ptr v90.len v90.cap), (7, Value.pointer (some ⟨b_1, 0, none⟩)), (8, Value.int .i64 i)] (by kernel_rfl) (by kernel_rfl) ?_
                change WpE _ _ c_towpathlaw02_CodecWrites_83 _ _ _
                refine wpE_region (id := 26) (ops := r_towpathlaw02_CodecWrites_83) (by kernel_rfl) ?_
                refine reg_run [.plain] 1 [(0, [], Value.slice script.ptr script.len script.cap), (3, [], Value.pointer v16), (4, [], Value.pointer none), (5, [], Value.pointer (some ⟨b_, 0, none⟩)), (6, [], Value.slice v90.ptr v90.len v90.cap), (7, [], Value.pointer (some ⟨b_1, 0, none⟩)), (8, [], Value.int .i64 i), (101, [], Value.pointer (some ⟨b_, 0, none⟩))] (by kernel_rfl) (by kernel_rfl) ?_
                refine reg_enter (op := (Go.Op.call (Go.Call.mk (Go.Callee.value (Go.Operand.func 9)) #[(Go.Operand.tmp 101), (Go.Operand.const (Go.Value.int Go.IntKind.i64 1))] #[24, 2]))) (ty := 0) (dst := some 102) 9 #[Value.pointer (some ⟨b_, 0, none⟩), Value.int .i64 1] (by kernel_rfl) (fun ww => by kernel_rfl) (Calls.mono h ?_)
                rintro _ w21 ⟨rfl, h⟩
                refine ⟨_, rfl, ?_⟩
                refine reg_end [(0, Value.slice script.ptr script.len script.cap), (3, Value.pointer v16), (4, Value.pointer none), (5, Value.pointer (some ⟨b_, 0, none⟩)), (6, Value.slice v90.ptr v90.len v90.cap), (7, Value.pointer (some ⟨b_1, 0, none⟩)), (8, Value.int .i64 i)] (by kernel_rfl) (by kernel_rfl) ?_
                exact ⟨[(0, Value.slice script.ptr script.len script.cap), (3, Value.pointer v16), (4, Value.pointer none), (5, Value.pointer (some ⟨b_, 0, none⟩)), (6, Value.slice v90.ptr v90.len v90.cap), (7, Value.pointer (some ⟨b_1, 0, none⟩)), (8, Value.int .i64 i)], Sub.mk (by kernel_rfl), v90, rfl, h⟩
              · replace h := h.2 hb
                refine wpE_seq (x := c_towpathlaw02_CodecWrites_86) (y := c_towpathlaw02_CodecWrites_88) (by kernel_rfl) ?_
                refine wpE_region (id := 27) (ops := r_towpathlaw02_CodecWrites_86) (by kernel_rfl) ?_
                refine reg_run [.plain, .plain] 2 [(0, [], Value.slice script.ptr script.len script.cap), (3, [], Value.pointer v16), (4, [], Value.pointer none), (5, [], Value.pointer (some ⟨b_, 0, none⟩)), (6, [], Value.slice want.ptr want.len want.cap), (7, [], Value.pointer (some ⟨b_1, 0, none⟩)), (8, [], Value.int .i64 i), (9, [], Value.pointer (some ⟨b_2, 0, none⟩)), (103, [], Value.bool (v31 == 4))] (by kernel_rfl) (by kernel_rfl) ?_
                refine reg_end [(0, Value.slice script.ptr script.len script.cap), (3, Value.pointer v16), (4, Value.pointer none), (5, Value.pointer (some ⟨b_, 0, none⟩)), (6, Value.slice want.ptr want.len want.cap), (7, Value.pointer (some ⟨b_1, 0, none⟩)), (8, Value.int .i64 i), (9, Value.pointer (some ⟨b_2, 0, none⟩)), (103, Value.bool (v31 == 4))] (by kernel_rfl) (by kernel_rfl) ?_
                change WpE _ _ c_towpathlaw02_CodecWrites_88 _ _ _
                refine wpE_cond (o := (Operand.tmp 103)) (b := (v31 == 4)) (x := c_towpathlaw02_CodecWrites_89) (y := c_towpathlaw02_CodecWrites_100) (by kernel_rfl) (by kernel_rfl) (fun hb => ?_) (fun hb => ?_)
                · replace h := h.1 hb
                  refine wpE_seq (x := c_towpathlaw02_CodecWrites_90) (y := c_towpathlaw02_CodecWrites_92) (by kernel_rfl) ?_
                  refine wpE_region (id := 28) (ops := r_towpathlaw02_CodecWrites_90) (by kernel_rfl) ?_
                  refine reg_run [.plain, .plain] 2 [(0, [], Value.slice script.ptr script.len script.cap), (3, [], Value.pointer v16), (4, [], Value.pointer none), (5, [], Value.pointer (some ⟨b_, 0, none⟩)), (6, [], Value.slice want.ptr want.len want.cap), (7, [], Value.pointer (some ⟨b_1, 0, none⟩)), (8, [], Value.int .i64 i), (9, [], Value.pointer (some ⟨b_2, 0, none⟩)), (105, [], Value.slice want.ptr want.len want.cap), (106, [], Value.pointer (some ⟨b_2, 3, none⟩))] (by kernel_rfl) (by kernel_rfl) ?_
                  obtain ⟨v107, hc, h⟩ := h
                  refine reg_load1 (t := 9) (a := (Go.Operand.tmp 106)) (b := b_2) (o := 3) (ty := 9) (dst := some 107) (by kernel_rfl) (by kernel_rfl) (by kernel_rfl) hc ?_
                  refine reg_run [] 3 [(0, [], Value.slice script.ptr script.len script.cap), (3, [], Value.pointer v16), (4, [], Value.pointer none), (5, [], Value.pointer (some ⟨b_, 0, none⟩)), (6, [], Value.slice want.ptr want.len want.cap), (7, [], Value.pointer (some ⟨b_1, 0, none⟩)), (8, [], Value.int .i64 i), (9, [], Value.pointer (some ⟨b_2, 0, none⟩)), (105, [], Value.slice want.ptr want.len want.cap), (107, [], Value.string v107)] (by kernel_rfl) (by kernel_rfl) ?_
                  refine reg_enter (op := (Go.Op.call (Go.Call.mk (Go.Callee.value (Go.Operand.func 10)) #[(Go.Operand.tmp 105), (Go.Operand.tmp 107)] #[26, 9]))) (ty := 26) (dst := some 108) 10 #[Value.slice want.ptr want.len want.cap, Value.string v107] (by kernel_rfl) (fun ww => by kernel_rfl) (Calls.mono h ?_)
                  rintro _ w22 ⟨v108, rfl, h⟩
                  refine ⟨_, rfl, ?_⟩
                  refine reg_run [.plain] 5 [(0, [], Value.slice script.ptr script.len script.cap), (3, [], Value.pointer v16), (4, [], Value.pointer none), (5, [], Value.pointer (some ⟨b_, 0, none⟩)), (6, [], Value.slice v108.ptr v108.len v108.cap), (7, [], Value.pointer (some ⟨b_1, 0, none⟩)), (8, [], Value.int .i64 i), (9, [], Value.pointer (some ⟨b_2, 0, none⟩))] (by kernel_rfl) (by kernel_rfl) ?_
                  refine reg_end [(0, Value.slice script.ptr script.len script.cap), (3, Value.pointer v16), (4, Value.pointer none), (5, Value.pointer (some ⟨b_, 0, none⟩)), (6, Value.slice v108.ptr v108.len v108.cap), (7, Value.pointer (some ⟨b_1, 0, none⟩)), (8, Value.int .i64 i), (9, Value.pointer (some ⟨b_2, 0, none⟩))] (by kernel_rfl) (by kernel_rfl) ?_
                  change WpE _ _ c_towpathlaw02_CodecWrites_92 _ _ _
                  refine wpE_seq (x := c_towpathlaw02_CodecWrites_93) (y := c_towpathlaw02_CodecWrites_95) (by kernel_rfl) ?_
                  refine wpE_region (id := 29) (ops := r_towpathlaw02_CodecWrites_93) (by kernel_rfl) ?_
                  refine reg_run [.plain, .plain] 2 [(0, [], Value.slice script.ptr script.len script.cap), (3, [], Value.pointer v16), (4, [], Value.pointer none), (5, [], Value.pointer (some ⟨b_, 0, none⟩)), (6, [], Value.slice v108.ptr v108.len v108.cap), (7, [], Value.pointer (some ⟨b_1, 0, none⟩)), (8, [], Value.int .i64 i), (9, [], Value.pointer (some ⟨b_2, 0, none⟩)), (109, [], Value.pointer v16), (110, [], Value.pointer (some ⟨b_2, 3, none⟩))] (by kernel_rfl) (by kernel_rfl) ?_
                  obtain ⟨v111, hc, h⟩ := h
                  refine reg_load1 (t := 9) (a := (Go.Operand.tmp 110)) (b := b_2) (o := 3) (ty := 9) (dst := some 111) (by kernel_rfl) (by kernel_rfl) (by kernel_rfl) hc ?_
                  refine reg_run [] 3 [(0, [], Value.slice script.ptr script.len script.cap), (3, [], Value.pointer v16), (4, [], Value.pointer none), (5, [], Value.pointer (some ⟨b_, 0, none⟩)), (6, [], Value.slice v108.ptr v108.len v108.cap), (7, [], Value.pointer (some ⟨b_1, 0, none⟩)), (8, [], Value.int .i64 i), (9, [], Value.pointer (some ⟨b_2, 0, none⟩)), (109, [], Value.pointer v16), (111, [], Value.string v111)] (by kernel_rfl) (by kernel_rfl) ?_
                  refine reg_enter (op := (Go.Op.call (Go.Call.mk (Go.Callee.value (Go.Operand.func 11)) #[(Go.Operand.tmp 109), (Go.Operand.tmp 111)] #[24, 9]))) (ty := 0) (dst := some 112) 11 #[Value.pointer v16, Value.string v111] (by kernel_rfl) (fun ww => by kernel_rfl) (Calls.mono h ?_)
                  rintro _ w23 ⟨rfl, h⟩
                  refine ⟨_, rfl, ?_⟩
                  refine reg_end [(0, Value.slice script.ptr script.len script.cap), (3, Value.pointer v16), (4, Value.pointer none), (5, Value.pointer (some ⟨b_, 0, none⟩)), (6, Value.slice v108.ptr v108.len v108.cap), (7, Value.pointer (some ⟨b_1, 0, none⟩)), (8, Value.int .i64 i), (9, Value.pointer (some ⟨b_2, 0, none⟩))] (by kernel_rfl) (by kernel_rfl) ?_
                  change WpE _ _ c_towpathlaw02_CodecWrites_95 _ _ _
                  refine wpE_seq (x := c_towpathlaw02_CodecWrites_96) (y := c_towpathlaw02_CodecWrites_98) (by kernel_rfl) ?_
                  refine wpE_region (id := 30) (ops := r_towpathlaw02_CodecWrites_96) (by kernel_rfl) ?_
                  refine reg_run [.plain, .plain] 2 [(0, [], Value.slice script.ptr script.len script.cap), (3, [], Value.pointer v16), (4, [], Value.pointer none), (5, [], Value.pointer (some ⟨b_, 0, none⟩)), (6, [], Value.slice v108.ptr v108.len v108.cap), (7, [], Value.pointer (some ⟨b_1, 0, none⟩)), (8, [], Value.int .i64 i), (113, [], Value.pointer none), (114, [], Value.pointer (some ⟨b_2, 3, none⟩))] (by kernel_rfl) (by kernel_rfl) ?_
                  obtain ⟨v115, hc, h⟩ := h
                  refine reg_load1 (t := 9) (a := (Go.Operand.tmp 114)) (b := b_2) (o := 3) (ty := 9) (dst := some 115) (by kernel_rfl) (by kernel_rfl) (by kernel_rfl) hc ?_
                  refine reg_run [] 3 [(0, [], Value.slice script.ptr script.len script.cap), (3, [], Value.pointer v16), (4, [], Value.pointer none), (5, [], Value.pointer (some ⟨b_, 0, none⟩)), (6, [], Value.slice v108.ptr v108.len v108.cap), (7, [], Value.pointer (some ⟨b_1, 0, none⟩)), (8, [], Value.int .i64 i), (113, [], Value.pointer none), (115, [], Value.string v115)] (by kernel_rfl) (by kernel_rfl) ?_
                  refine reg_enter (op := (Go.Op.call (Go.Call.mk (Go.Callee.value (Go.Operand.func 11)) #[(Go.Operand.tmp 113), (Go.Operand.tmp 115)] #[24, 9]))) (ty := 0) (dst := some 116) 11 #[Value.pointer none, Value.string v115] (by kernel_rfl) (fun ww => by kernel_rfl) (Calls.mono h ?_)
                  rintro _ w24 ⟨rfl, h⟩
                  refine ⟨_, rfl, ?_⟩
                  refine reg_end [(0, Value.slice script.ptr script.len script.cap), (3, Value.pointer v16), (4, Value.pointer none), (5, Value.pointer (some ⟨b_, 0, none⟩)), (6, Value.slice v108.ptr v108.len v108.cap), (7, Value.pointer (some ⟨b_1, 0, none⟩)), (8, Value.int .i64 i)] (by kernel_rfl) (by kernel_rfl) ?_
                  change WpE _ _ c_towpathlaw02_CodecWrites_98 _ _ _
                  refine wpE_region (id := 31) (ops := r_towpathlaw02_CodecWrites_98) (by kernel_rfl) ?_
                  refine reg_run [.plain] 1 [(0, [], Value.slice script.ptr script.len script.cap), (3, [], Value.pointer v16), (4, [], Value.pointer none), (5, [], Value.pointer (some ⟨b_, 0, none⟩)), (6, [], Value.slice v108.ptr v108.len v108.cap), (7, [], Value.pointer (some ⟨b_1, 0, none⟩)), (8, [], Value.int .i64 i), (117, [], Value.pointer (some ⟨b_, 0, none⟩))] (by kernel_rfl) (by kernel_rfl) ?_
                  refine reg_enter (op := (Go.Op.call (Go.Call.mk (Go.Callee.value (Go.Operand.func 11)) #[(Go.Operand.tmp 117), (Go.Operand.const (Go.Value.string (ByteArray.mk #[120])))] #[24, 9]))) (ty := 0) (dst := some 118) 11 #[Value.pointer (some ⟨b_, 0, none⟩), Value.string (ByteArray.mk #[120])] (by kernel_rfl) (fun ww => by kernel_rfl) (Calls.mono h ?_)
                  rintro _ w25 ⟨rfl, h⟩
                  refine ⟨_, rfl, ?_⟩
                  refine reg_end [(0, Value.slice script.ptr script.len script.cap), (3, Value.pointer v16), (4, Value.pointer none), (5, Value.pointer (some ⟨b_, 0, none⟩)), (6, Value.slice v108.ptr v108.len v108.cap), (7, Value.pointer (some ⟨b_1, 0, none⟩)), (8, Value.int .i64 i)] (by kernel_rfl) (by kernel_rfl) ?_
                  exact ⟨[(0, Value.slice script.ptr script.len script.cap), (3, Value.pointer v16), (4, Value.pointer none), (5, Value.pointer (some ⟨b_, 0, none⟩)), (6, Value.slice v108.ptr v108.len v108.cap), (7, Value.pointer (some ⟨b_1, 0, none⟩)), (8, Value.int .i64 i)], Sub.mk (by kernel_rfl), v108, rfl, h⟩
                · replace h := h.2 hb
                  refine wpE_seq (x := c_towpathlaw02_CodecWrites_101) (y := c_towpathlaw02_CodecWrites_103) (by kernel_rfl) ?_
                  refine wpE_region (id := 13) (ops := r_towpathlaw02_CodecWrites_101) (by kernel_rfl) ?_
                  refine reg_run [.plain, .plain] 2 [(0, [], Value.slice script.ptr script.len script.cap), (3, [], Value.pointer v16), (4, [], Value.pointer none), (5, [], Value.pointer (some ⟨b_, 0, none⟩)), (6, [], Value.slice want.ptr want.len want.cap), (7, [], Value.pointer (some ⟨b_1, 0, none⟩)), (8, [], Value.int .i64 i), (9, [], Value.pointer (some ⟨b_2, 0, none⟩)), (32, [], Value.slice want.ptr want.len want.cap), (33, [], Value.pointer (some ⟨b_2, 1, none⟩))] (by kernel_rfl) (by kernel_rfl) ?_
                  obtain ⟨v34, hc, h⟩ := h
                  refine reg_load1 (t := 42) (a := (Go.Operand.tmp 33)) (b := b_2) (o := 1) (ty := 42) (dst := some 34) (by kernel_rfl) (by kernel_rfl) (by kernel_rfl) hc ?_
                  refine reg_run [] 3 [(0, [], Value.slice script.ptr script.len script.cap), (3, [], Value.pointer v16), (4, [], Value.pointer none), (5, [], Value.pointer (some ⟨b_, 0, none⟩)), (6, [], Value.slice want.ptr want.len want.cap), (7, [], Value.pointer (some ⟨b_1, 0, none⟩)), (8, [], Value.int .i64 i), (9, [], Value.pointer (some ⟨b_2, 0, none⟩)), (32, [], Value.slice want.ptr want.len want.cap), (34, [], Value.int .u64 v34)] (by kernel_rfl) (by kernel_rfl) ?_
                  refine reg_enter (op := (Go.Op.call (Go.Call.mk (Go.Callee.value (Go.Operand.func 12)) #[(Go.Operand.tmp 32), (Go.Operand.tmp 34)] #[26, 42]))) (ty := 26) (dst := some 35) 12 #[Value.slice want.ptr want.len want.cap, Value.int .u64 v34] (by kernel_rfl) (fun ww => by kernel_rfl) (Calls.mono h ?_)
                  rintro _ w26 ⟨v35, rfl, h⟩
                  refine ⟨_, rfl, ?_⟩
                  refine reg_run [.plain] 5 [(0, [], Value.slice script.ptr script.len script.cap), (3, [], Value.pointer v16), (4, [], Value.pointer none), (5, [], Value.pointer (some ⟨b_, 0, none⟩)), (6, [], Value.slice v35.ptr v35.len v35.cap), (7, [], Value.pointer (some ⟨b_1, 0, none⟩)), (8, [], Value.int .i64 i), (9, [], Value.pointer (some ⟨b_2, 0, none⟩))] (by kernel_rfl) (by kernel_rfl) ?_
                  refine reg_end [(0, Value.slice script.ptr script.len script.cap), (3, Value.pointer v16), (4, Value.pointer none), (5, Value.pointer (some ⟨b_, 0, none⟩)), (6, Value.slice v35.ptr v35.len v35.cap), (7, Value.pointer (some ⟨b_1, 0, none⟩)), (8, Value.int .i64 i), (9, Value.pointer (some ⟨b_2, 0, none⟩))] (by kernel_rfl) (by kernel_rfl) ?_
                  change WpE _ _ c_towpathlaw02_CodecWrites_103 _ _ _
                  refine wpE_seq (x := c_towpathlaw02_CodecWrites_104) (y := c_towpathlaw02_CodecWrites_106) (by kernel_rfl) ?_
                  refine wpE_region (id := 14) (ops := r_towpathlaw02_CodecWrites_104) (by kernel_rfl) ?_
                  refine reg_run [.plain, .plain] 2 [(0, [], Value.slice script.ptr script.len script.cap), (3, [], Value.pointer v16), (4, [], Value.pointer none), (5, [], Value.pointer (some ⟨b_, 0, none⟩)), (6, [], Value.slice v35.ptr v35.len v35.cap), (7, [], Value.pointer (some ⟨b_1, 0, none⟩)), (8, [], Value.int .i64 i), (9, [], Value.pointer (some ⟨b_2, 0, none⟩)), (36, [], Value.pointer v16), (37, [], Value.pointer (some ⟨b_2, 1, none⟩))] (by kernel_rfl) (by kernel_rfl) ?_
                  obtain ⟨v38, hc, h⟩ := h
                  refine reg_load1 (t := 42) (a := (Go.Operand.tmp 37)) (b := b_2) (o := 1) (ty := 42) (dst := some 38) (by kernel_rfl) (by kernel_rfl) (by kernel_rfl) hc ?_
                  refine reg_run [] 3 [(0, [], Value.slice script.ptr script.len script.cap), (3, [], Value.pointer v16), (4, [], Value.pointer none), (5, [], Value.pointer (some ⟨b_, 0, none⟩)), (6, [], Value.slice v35.ptr v35.len v35.cap), (7, [], Value.pointer (some ⟨b_1, 0, none⟩)), (8, [], Value.int .i64 i), (9, [], Value.pointer (some ⟨b_2, 0, none⟩)), (36, [], Value.pointer v16), (38, [], Value.int .u64 v38)] (by kernel_rfl) (by kernel_rfl) ?_
                  refine reg_enter (op := (Go.Op.call (Go.Call.mk (Go.Callee.value (Go.Operand.func 13)) #[(Go.Operand.tmp 36), (Go.Operand.tmp 38)] #[24, 42]))) (ty := 0) (dst := some 39) 13 #[Value.pointer v16, Value.int .u64 v38] (by kernel_rfl) (fun ww => by kernel_rfl) (Calls.mono h ?_)
                  rintro _ w27 ⟨rfl, h⟩
                  refine ⟨_, rfl, ?_⟩
                  refine reg_end [(0, Value.slice script.ptr script.len script.cap), (3, Value.pointer v16), (4, Value.pointer none), (5, Value.pointer (some ⟨b_, 0, none⟩)), (6, Value.slice v35.ptr v35.len v35.cap), (7, Value.pointer (some ⟨b_1, 0, none⟩)), (8, Value.int .i64 i), (9, Value.pointer (some ⟨b_2, 0, none⟩))] (by kernel_rfl) (by kernel_rfl) ?_
                  change WpE _ _ c_towpathlaw02_CodecWrites_106 _ _ _
                  refine wpE_seq (x := c_towpathlaw02_CodecWrites_107) (y := c_towpathlaw02_CodecWrites_109) (by kernel_rfl) ?_
                  refine wpE_region (id := 15) (ops := r_towpathlaw02_CodecWrites_107) (by kernel_rfl) ?_
                  refine reg_run [.plain, .plain] 2 [(0, [], Value.slice script.ptr script.len script.cap), (3, [], Value.pointer v16), (4, [], Value.pointer none), (5, [], Value.pointer (some ⟨b_, 0, none⟩)), (6, [], Value.slice v35.ptr v35.len v35.cap), (7, [], Value.pointer (some ⟨b_1, 0, none⟩)), (8, [], Value.int .i64 i), (40, [], Value.pointer none), (41, [], Value.pointer (some ⟨b_2, 1, none⟩))] (by kernel_rfl) (by kernel_rfl) ?_
                  obtain ⟨v42, hc, h⟩ := h
                  refine reg_load1 (t := 42) (a := (Go.Operand.tmp 41)) (b := b_2) (o := 1) (ty := 42) (dst := some 42) (by kernel_rfl) (by kernel_rfl) (by kernel_rfl) hc ?_
                  refine reg_run [] 3 [(0, [], Value.slice script.ptr script.len script.cap), (3, [], Value.pointer v16), (4, [], Value.pointer none), (5, [], Value.pointer (some ⟨b_, 0, none⟩)), (6, [], Value.slice v35.ptr v35.len v35.cap), (7, [], Value.pointer (some ⟨b_1, 0, none⟩)), (8, [], Value.int .i64 i), (40, [], Value.pointer none), (42, [], Value.int .u64 v42)] (by kernel_rfl) (by kernel_rfl) ?_
                  refine reg_enter (op := (Go.Op.call (Go.Call.mk (Go.Callee.value (Go.Operand.func 13)) #[(Go.Operand.tmp 40), (Go.Operand.tmp 42)] #[24, 42]))) (ty := 0) (dst := some 43) 13 #[Value.pointer none, Value.int .u64 v42] (by kernel_rfl) (fun ww => by kernel_rfl) (Calls.mono h ?_)
                  rintro _ w28 ⟨rfl, h⟩
                  refine ⟨_, rfl, ?_⟩
                  refine reg_end [(0, Value.slice script.ptr script.len script.cap), (3, Value.pointer v16), (4, Value.pointer none), (5, Value.pointer (some ⟨b_, 0, none⟩)), (6, Value.slice v35.ptr v35.len v35.cap), (7, Value.pointer (some ⟨b_1, 0, none⟩)), (8, Value.int .i64 i)] (by kernel_rfl) (by kernel_rfl) ?_
                  change WpE _ _ c_towpathlaw02_CodecWrites_109 _ _ _
                  refine wpE_region (id := 16) (ops := r_towpathlaw02_CodecWrites_109) (by kernel_rfl) ?_
                  refine reg_run [.plain] 1 [(0, [], Value.slice script.ptr script.len script.cap), (3, [], Value.pointer v16), (4, [], Value.pointer none), (5, [], Value.pointer (some ⟨b_, 0, none⟩)), (6, [], Value.slice v35.ptr v35.len v35.cap), (7, [], Value.pointer (some ⟨b_1, 0, none⟩)), (8, [], Value.int .i64 i), (44, [], Value.pointer (some ⟨b_, 0, none⟩))] (by kernel_rfl) (by kernel_rfl) ?_
                  refine reg_enter (op := (Go.Op.call (Go.Call.mk (Go.Callee.value (Go.Operand.func 13)) #[(Go.Operand.tmp 44), (Go.Operand.const (Go.Value.int Go.IntKind.u64 1))] #[24, 42]))) (ty := 0) (dst := some 45) 13 #[Value.pointer (some ⟨b_, 0, none⟩), Value.int .u64 1] (by kernel_rfl) (fun ww => by kernel_rfl) (Calls.mono h ?_)
                  rintro _ w29 ⟨rfl, h⟩
                  refine ⟨_, rfl, ?_⟩
                  refine reg_end [(0, Value.slice script.ptr script.len script.cap), (3, Value.pointer v16), (4, Value.pointer none), (5, Value.pointer (some ⟨b_, 0, none⟩)), (6, Value.slice v35.ptr v35.len v35.cap), (7, Value.pointer (some ⟨b_1, 0, none⟩)), (8, Value.int .i64 i)] (by kernel_rfl) (by kernel_rfl) ?_
                  exact ⟨[(0, Value.slice script.ptr script.len script.cap), (3, Value.pointer v16), (4, Value.pointer none), (5, Value.pointer (some ⟨b_, 0, none⟩)), (6, Value.slice v35.ptr v35.len v35.cap), (7, Value.pointer (some ⟨b_1, 0, none⟩)), (8, Value.int .i64 i)], Sub.mk (by kernel_rfl), v35, rfl, h⟩
          · rintro _ w10 ⟨want2, rfl, h⟩
            unfold F_towpathlaw02_CodecWrites_k2 at h
            refine wpE_seq (x := c_towpathlaw02_CodecWrites_112) (y := c_towpathlaw02_CodecWrites_114) (by kernel_rfl) ?_
            refine wpE_region (id := 32) (ops := r_towpathlaw02_CodecWrites_112) (by kernel_rfl) ?_
            refine reg_run [.plain, .plain] 2 [(0, [], Value.slice script.ptr script.len script.cap), (3, [], Value.pointer v16), (4, [], Value.pointer none), (5, [], Value.pointer (some ⟨b_, 0, none⟩)), (6, [], Value.slice want2.ptr want2.len want2.cap), (7, [], Value.pointer (some ⟨b_1, 0, none⟩)), (8, [], Value.int .i64 i), (120, [], Value.bool (decide (i < 30)))] (by kernel_rfl) (by kernel_rfl) ?_
            refine reg_end [(0, Value.slice script.ptr script.len script.cap), (3, Value.pointer v16), (4, Value.pointer none), (5, Value.pointer (some ⟨b_, 0, none⟩)), (6, Value.slice want2.ptr want2.len want2.cap), (7, Value.pointer (some ⟨b_1, 0, none⟩)), (8, Value.int .i64 i), (120, Value.bool (decide (i < 30)))] (by kernel_rfl) (by kernel_rfl) ?_
            change WpE _ _ c_towpathlaw02_CodecWrites_114 _ _ _
            refine wpE_cond (o := (Operand.tmp 120)) (b := (decide (i < 30))) (x := c_towpathlaw02_CodecWrites_115) (y := c_towpathlaw02_CodecWrites_117) (by kernel_rfl) (by kernel_rfl) (fun hb => ?_) (fun hb => ?_)
            · replace h := h.1 hb
              refine wpE_region (id := 33) (ops := r_towpathlaw02_CodecWrites_115) (by kernel_rfl) ?_
              refine reg_run [.plain] 1 [(0, [], Value.slice script.ptr script.len script.cap), (3, [], Value.pointer v16), (4, [], Value.pointer none), (5, [], Value.pointer (some ⟨b_, 0, none⟩)), (6, [], Value.slice want2.ptr want2.len want2.cap), (7, [], Value.pointer (some ⟨b_1, 0, none⟩)), (8, [], Value.int .i64 i), (121, [], Value.pointer v16)] (by kernel_rfl) (by kernel_rfl) ?_
              refine reg_enter (op := (Go.Op.call (Go.Call.mk (Go.Callee.value (Go.Operand.func 15)) #[(Go.Operand.tmp 121)] #[24]))) (ty := 26) (dst := some 122) 15 #[Value.pointer v16] (by kernel_rfl) (fun ww => by kernel_rfl) (Calls.mono h ?_)
              rintro _ w11 ⟨v122, rfl, h⟩
              refine ⟨_, rfl, ?_⟩
              refine reg_run [] 2 [(0, [], Value.slice script.ptr script.len script.cap), (3, [], Value.pointer v16), (4, [], Value.pointer none), (5, [], Value.pointer (some ⟨b_, 0, none⟩)), (6, [], Value.slice want2.ptr want2.len want2.cap), (7, [], Value.pointer (some ⟨b_1, 0, none⟩)), (8, [], Value.int .i64 i), (122, [], Value.slice v122.ptr v122.len v122.cap)] (by kernel_rfl) (by kernel_rfl) ?_
              refine reg_enter (op := (Go.Op.call (Go.Call.mk (Go.Callee.value (Go.Operand.func 14)) #[(Go.Operand.tmp 7), (Go.Operand.tmp 122)] #[41, 26]))) (ty := 0) (dst := some 123) 14 #[Value.pointer (some ⟨b_1, 0, none⟩), Value.slice v122.ptr v122.len v122.cap] (by kernel_rfl) (fun ww => by kernel_rfl) (Calls.mono h ?_)
              rintro _ w12 ⟨rfl, h⟩
              refine ⟨_, rfl, ?_⟩
              refine reg_end [(0, Value.slice script.ptr script.len script.cap), (3, Value.pointer v16), (4, Value.pointer none), (5, Value.pointer (some ⟨b_, 0, none⟩)), (6, Value.slice want2.ptr want2.len want2.cap), (7, Value.pointer (some ⟨b_1, 0, none⟩)), (8, Value.int .i64 i)] (by kernel_rfl) (by kernel_rfl) ?_
              exact ⟨[(0, Value.slice script.ptr script.len script.cap), (3, Value.pointer v16), (4, Value.pointer none), (5, Value.pointer (some ⟨b_, 0, none⟩)), (6, Value.slice want2.ptr want2.len want2.cap), (7, Value.pointer (some ⟨b_1, 0, none⟩)), (8, Value.int .i64 i)], Sub.mk (by kernel_rfl), want2, rfl, h⟩
            · replace h := h.2 hb
              refine wpE_skip (by kernel_rfl) ?_
              exact ⟨[(0, Value.slice script.ptr script.len script.cap), (3, Value.pointer v16), (4, Value.pointer none), (5, Value.pointer (some ⟨b_, 0, none⟩)), (6, Value.slice want2.ptr want2.len want2.cap), (7, Value.pointer (some ⟨b_1, 0, none⟩)), (8, Value.int .i64 i)], Sub.mk (by kernel_rfl), want2, rfl, h⟩
        · rintro _ w7 ⟨want1, rfl, h⟩
          unfold F_towpathlaw02_CodecWrites_k1 at h
          refine wpE_region (id := 10) (ops := r_towpathlaw02_CodecWrites_118) (by kernel_rfl) ?_
          refine reg_run [.plain, .plain, .plain] 3 [(0, [], Value.slice script.ptr script.len script.cap), (3, [], Value.pointer v16), (4, [], Value.pointer none), (5, [], Value.pointer (some ⟨b_, 0, none⟩)), (6, [], Value.slice want1.ptr want1.len want1.cap), (7, [], Value.pointer (some ⟨b_1, 0, none⟩)), (8, [], Value.int .i64 (IntKind.i64.wrap (i + 1)))] (by kernel_rfl) (by kernel_rfl) ?_
          refine reg_end [(0, Value.slice script.ptr script.len script.cap), (3, Value.pointer v16), (4, Value.pointer none), (5, Value.pointer (some ⟨b_, 0, none⟩)), (6, Value.slice want1.ptr want1.len want1.cap), (7, Value.pointer (some ⟨b_1, 0, none⟩)), (8, Value.int .i64 (IntKind.i64.wrap (i + 1)))] (by kernel_rfl) (by kernel_rfl) ?_
          have hb_ := again__h _ _ _ h
          exact ⟨_, hb_.2, [(0, Value.slice script.ptr script.len script.cap), (3, Value.pointer v16), (4, Value.pointer none), (5, Value.pointer (some ⟨b_, 0, none⟩)), (6, Value.slice want1.ptr want1.len want1.cap), (7, Value.pointer (some ⟨b_1, 0, none⟩)), (8, Value.int .i64 (IntKind.i64.wrap (i + 1)))], Sub.mk (by kernel_rfl), want1, (IntKind.i64.wrap (i + 1)), rfl, hb_.1, rfl⟩
      · replace h := h.2 hb
        refine wpE_exit (id := 0) (by kernel_rfl) ?_
        change WpE _ _ c_towpathlaw02_CodecWrites_120 _ _ _
        refine wpE_seq (x := c_towpathlaw02_CodecWrites_121) (y := c_towpathlaw02_CodecWrites_123) (by kernel_rfl) ?_
        refine wpE_region (id := 34) (ops := r_towpathlaw02_CodecWrites_121) (by kernel_rfl) ?_
        refine reg_run [.plain] 1 [(3, [], Value.pointer v16), (4, [], Value.pointer none), (5, [], Value.pointer (some ⟨b_, 0, none⟩)), (6, [], Value.slice want.ptr want.len want.cap), (7, [], Value.pointer (some ⟨b_1, 0, none⟩)), (124, [], Value.pointer v16)] (by kernel_rfl) (by kernel_rfl) ?_
        refine reg_enter (op := (Go.Op.call (Go.Call.mk (Go.Callee.value (Go.Operand.func 15)) #[(Go.Operand.tmp 124)] #[24]))) (ty := 26) (dst := some 125) 15 #[Value.pointer v16] (by kernel_rfl) (fun ww => by kernel_rfl) (Calls.mono h ?_)
        rintro _ w30 ⟨v125, rfl, h⟩
        refine ⟨_, rfl, ?_⟩
        refine reg_run [.plain] 3 [(3, [], Value.pointer v16), (4, [], Value.pointer none), (5, [], Value.pointer (some ⟨b_, 0, none⟩)), (6, [], Value.slice want.ptr want.len want.cap), (7, [], Value.pointer (some ⟨b_1, 0, none⟩)), (125, [], Value.slice v125.ptr v125.len v125.cap), (126, [], Value.pointer v16)] (by kernel_rfl) (by kernel_rfl) ?_
        refine reg_enter (op := (Go.Op.call (Go.Call.mk (Go.Callee.value (Go.Operand.func 15)) #[(Go.Operand.tmp 126)] #[24]))) (ty := 26) (dst := some 127) 15 #[Value.pointer v16] (by kernel_rfl) (fun ww => by kernel_rfl) (Calls.mono h ?_)
        rintro _ w31 ⟨v127, rfl, h⟩
        refine ⟨_, rfl, ?_⟩
        refine reg_run [.plain, .plain] 6 [(3, [], Value.pointer v16), (4, [], Value.pointer none), (5, [], Value.pointer (some ⟨b_, 0, none⟩)), (6, [], Value.slice want.ptr want.len want.cap), (7, [], Value.pointer (some ⟨b_1, 0, none⟩)), (12, [], Value.slice v125.ptr v125.len v125.cap), (13, [], Value.slice v127.ptr v127.len v127.cap)] (by kernel_rfl) (by kernel_rfl) ?_
        refine reg_end [(3, Value.pointer v16), (4, Value.pointer none), (5, Value.pointer (some ⟨b_, 0, none⟩)), (6, Value.slice want.ptr want.len want.cap), (7, Value.pointer (some ⟨b_1, 0, none⟩)), (12, Value.slice v125.ptr v125.len v125.cap), (13, Value.slice v127.ptr v127.len v127.cap)] (by kernel_rfl) (by kernel_rfl) ?_
        change WpE _ _ c_towpathlaw02_CodecWrites_123 _ _ _
        refine wpE_seq (x := c_towpathlaw02_CodecWrites_124) (y := c_towpathlaw02_CodecWrites_133) (by kernel_rfl) ?_
        refine wpE_seq_cut (x := c_towpathlaw02_CodecWrites_125) (y := c_towpathlaw02_CodecWrites_127) (by kernel_rfl) (fun l w => ∃ (t147 : Bool), l = [(3, Value.pointer v16), (6, Value.slice want.ptr want.len want.cap), (7, Value.pointer (some ⟨b_1, 0, none⟩)), (12, Value.slice v125.ptr v125.len v125.cap), (13, Value.slice v127.ptr v127.len v127.cap), (147, Value.bool t147)] ∧ F_towpathlaw02_CodecWrites_k4 R v16 b_1 want v125 v127 t147 w) ?_ ?_
        · refine wpE_region (id := 35) (ops := r_towpathlaw02_CodecWrites_125) (by kernel_rfl) ?_
          refine reg_run [.plain, .plain] 2 [(3, [], Value.pointer v16), (4, [], Value.pointer none), (5, [], Value.pointer (some ⟨b_, 0, none⟩)), (6, [], Value.slice want.ptr want.len want.cap), (7, [], Value.pointer (some ⟨b_1, 0, none⟩)), (12, [], Value.slice v125.ptr v125.len v125.cap), (13, [], Value.slice v127.ptr v127.len v127.cap), (128, [], Value.slice v125.ptr v125.len v125.cap), (129, [], Value.slice want.ptr want.len want.cap)] (by kernel_rfl) (by kernel_rfl) ?_
          refine reg_enter (op := (Go.Op.call (Go.Call.mk (Go.Callee.value (Go.Operand.func 16)) #[(Go.Operand.tmp 128), (Go.Operand.tmp 129)] #[26, 26]))) (ty := 4) (dst := some 130) 16 #[Value.slice v125.ptr v125.len v125.cap, Value.slice want.ptr want.len want.cap] (by kernel_rfl) (fun ww => by kernel_rfl) (Calls.mono h ?_)
          rintro _ w38 ⟨v130, rfl, h⟩
          refine ⟨_, rfl, ?_⟩
          refine reg_run [.plain, .plain, .plain, .plain] 7 [(3, [], Value.pointer v16), (4, [], Value.pointer none), (5, [], Value.pointer (some ⟨b_, 0, none⟩)), (6, [], Value.slice want.ptr want.len want.cap), (7, [], Value.pointer (some ⟨b_1, 0, none⟩)), (12, [], Value.slice v125.ptr v125.len v125.cap), (13, [], Value.slice v127.ptr v127.len v127.cap), (132, [], Value.bool (!v130)), (133, [(132, false)], Value.slice v127.ptr v127.len v127.cap), (134, [(132, false)], Value.slice want.ptr want.len want.cap)] (by kernel_rfl) (by kernel_rfl) ?_
          refine reg_split 132 (!v130) (by kernel_rfl) (fun hb => ?_) (fun hb => ?_)
          · replace h := h.1 hb
            refine reg_run [] 7 [(3, [], Value.pointer v16), (4, [], Value.pointer none), (5, [], Value.pointer (some ⟨b_, 0, none⟩)), (6, [], Value.slice want.ptr want.len want.cap), (7, [], Value.pointer (some ⟨b_1, 0, none⟩)), (12, [], Value.slice v125.ptr v125.len v125.cap), (13, [], Value.slice v127.ptr v127.len v127.cap), (132, [], Value.bool true), (133, [], undef), (134, [], undef)] (by kernel_rfl) (by kernel_rfl) ?_
            refine reg_run [.skip, .skip, .plain, .plain, .skip, .skip, .skip, .skip, .skip, .skip, .skip, .skip, .plain] 20 [(3, [], Value.pointer v16), (6, [], Value.slice want.ptr want.len want.cap), (7, [], Value.pointer (some ⟨b_1, 0, none⟩)), (12, [], Value.slice v125.ptr v125.len v125.cap), (13, [], Value.slice v127.ptr v127.len v127.cap), (147, [], Value.bool true)] (by kernel_rfl) (by kernel_rfl) ?_
            refine reg_end [(3, Value.pointer v16), (6, Value.slice want.ptr want.len want.cap), (7, Value.pointer (some ⟨b_1, 0, none⟩)), (12, Value.slice v125.ptr v125.len v125.cap), (13, Value.slice v127.ptr v127.len v127.cap), (147, Value.bool true)] (by kernel_rfl) (by kernel_rfl) ?_
            exact ⟨[(3, Value.pointer v16), (6, Value.slice want.ptr want.len want.cap), (7, Value.pointer (some ⟨b_1, 0, none⟩)), (12, Value.slice v125.ptr v125.len v125.cap), (13, Value.slice v127.ptr v127.len v127.cap), (147, Value.bool true)], Sub.mk (by kernel_rfl), true, rfl, h⟩
          · replace h := h.2 hb
            refine reg_run [] 7 [(3, [], Value.pointer v16), (4, [], Value.pointer none), (5, [], Value.pointer (some ⟨b_, 0, none⟩)), (6, [], Value.slice want.ptr want.len want.cap), (7, [], Value.pointer (some ⟨b_1, 0, none⟩)), (12, [], Value.slice v125.ptr v125.len v125.cap), (13, [], Value.slice v127.ptr v127.len v127.cap), (132, [], Value.bool false), (133, [], Value.slice v127.ptr v127.len v127.cap), (134, [], Value.slice want.ptr want.len want.cap)] (by kernel_rfl) (by kernel_rfl) ?_
            refine reg_run [] 7 [(3, [], Value.pointer v16), (4, [], Value.pointer none), (5, [], Value.pointer (some ⟨b_, 0, none⟩)), (6, [], Value.slice want.ptr want.len want.cap), (7, [], Value.pointer (some ⟨b_1, 0, none⟩)), (12, [], Value.slice v125.ptr v125.len v125.cap), (13, [], Value.slice v127.ptr v127.len v127.cap), (132, [], Value.bool false), (133, [], Value.slice v127.ptr v127.len v127.cap), (134, [], Value.slice want.ptr want.len want.cap)] (by kernel_rfl) (by kernel_rfl) ?_
            refine reg_enter (op := (Go.Op.call (Go.Call.mk (Go.Callee.value (Go.Operand.func 16)) #[(Go.Operand.tmp 133), (Go.Operand.tmp 134)] #[26, 26]))) (ty := 4) (dst := some 135) 16 #[Value.slice v127.ptr v127.len v127.cap, Value.slice want.ptr want.len want.cap] (by kernel_rfl) (fun ww => by kernel_rfl) (Calls.mono h ?_)
            rintro _ w39 ⟨v135, rfl, h⟩
            refine ⟨_, rfl, ?_⟩
            refine reg_run [.sure, .plain, .plain, .plain] 12 [(3, [], Value.pointer v16), (5, [], Value.pointer (some ⟨b_, 0, none⟩)), (6, [], Value.slice want.ptr want.len want.cap), (7, [], Value.pointer (some ⟨b_1, 0, none⟩)), (12, [], Value.slice v125.ptr v125.len v125.cap), (13, [], Value.slice v127.ptr v127.len v127.cap), (138, [], Value.bool (!v135)), (139, [(138, false)], Value.pointer none)] (by kernel_rfl) (by kernel_rfl) ?_
            refine reg_split 138 (!v135) (by kernel_rfl) (fun hb => ?_) (fun hb => ?_)
            · replace h := h.1 hb
              refine reg_run [] 12 [(3, [], Value.pointer v16), (5, [], Value.pointer (some ⟨b_, 0, none⟩)), (6, [], Value.slice want.ptr want.len want.cap), (7, [], Value.pointer (some ⟨b_1, 0, none⟩)), (12, [], Value.slice v125.ptr v125.len v125.cap), (13, [], Value.slice v127.ptr v127.len v127.cap), (138, [], Value.bool true), (139, [], undef)] (by kernel_rfl) (by kernel_rfl) ?_
              refine reg_run [.skip, .skip, .skip, .skip, .skip, .skip, .skip, .plain] 20 [(3, [], Value.pointer v16), (6, [], Value.slice want.ptr want.len want.cap), (7, [], Value.pointer (some ⟨b_1, 0, none⟩)), (12, [], Value.slice v125.ptr v125.len v125.cap), (13, [], Value.slice v127.ptr v127.len v127.cap), (147, [], Value.bool true)] (by kernel_rfl) (by kernel_rfl) ?_
              refine reg_end [(3, Value.pointer v16), (6, Value.slice want.ptr want.len want.cap), (7, Value.pointer (some ⟨b_1, 0, none⟩)), (12, Value.slice v125.ptr v125.len v125.cap), (13, Value.slice v127.ptr v127.len v127.cap), (147, Value.bool true)] (by kernel_rfl) (by kernel_rfl) ?_
              exact ⟨[(3, Value.pointer v16), (6, Value.slice want.ptr want.len want.cap), (7, Value.pointer (some ⟨b_1, 0, none⟩)), (12, Value.slice v125.ptr v125.len v125.cap), (13, Value.slice v127.ptr v127.len v127.cap), (147, Value.bool true)], Sub.mk (by kernel_rfl), true, rfl, h⟩
            · replace h := h.2 hb
              refine reg_run [] 12 [(3, [], Value.pointer v16), (5, [], Value.pointer (some ⟨b_, 0, none⟩)), (6, [], Value.slice want.ptr want.len want.cap), (7, [], Value.pointer (some ⟨b_1, 0, none⟩)), (12, [], Value.slice v125.ptr v125.len v125.cap), (13, [], Value.slice v127.ptr v127.len v127.cap), (138, [], Value.bool false), (139, [], Value.pointer none)] (by kernel_rfl) (by kernel_rfl) ?_
              refine reg_run [] 12 [(3, [], Value.pointer v16), (5, [], Value.pointer (some ⟨b_, 0, none⟩)), (6, [], Value.slice want.ptr want.len want.cap), (7, [], Value.pointer (some ⟨b_1, 0, none⟩)), (12, [], Value.slice v125.ptr v125.len v125.cap), (13, [], Value.slice v127.ptr v127.len v127.cap), (138, [], Value.bool false), (139, [], Value.pointer none)] (by kernel_rfl) (by kernel_rfl) ?_
              refine reg_enter (op := (Go.Op.call (Go.Call.mk (Go.Callee.value (Go.Operand.func 15)) #[(Go.Operand.tmp 139)] #[24]))) (ty := 26) (dst := some 140) 15 #[Value.pointer none] (by kernel_rfl) (fun ww => by kernel_rfl) (Calls.mono h ?_)
              rintro _ w40 ⟨v140, rfl, h⟩
              refine ⟨_, rfl, ?_⟩
              refine reg_run [.sure, .sure] 15 [(3, [], Value.pointer v16), (6, [], Value.slice want.ptr want.len want.cap), (7, [], Value.pointer (some ⟨b_1, 0, none⟩)), (12, [], Value.slice v125.ptr v125.len v125.cap), (13, [], Value.slice v127.ptr v127.len v127.cap), (138, [], Value.bool false), (141, [], Value.int .i64 ((v140.len : Nat) : Int)), (142, [], Value.pointer (some ⟨b_, 0, none⟩))] (by kernel_rfl) (by kernel_rfl) ?_
              refine reg_enter (op := (Go.Op.call (Go.Call.mk (Go.Callee.value (Go.Operand.func 15)) #[(Go.Operand.tmp 142)] #[24]))) (ty := 26) (dst := some 143) 15 #[Value.pointer (some ⟨b_, 0, none⟩)] (by kernel_rfl) (fun ww => by kernel_rfl) (Calls.mono h ?_)
              rintro _ w41 ⟨v143, rfl, h⟩
              refine ⟨_, rfl, ?_⟩
              refine reg_run [.sure, .sure, .sure, .plain] 20 [(3, [], Value.pointer v16), (6, [], Value.slice want.ptr want.len want.cap), (7, [], Value.pointer (some ⟨b_1, 0, none⟩)), (12, [], Value.slice v125.ptr v125.len v125.cap), (13, [], Value.slice v127.ptr v127.len v127.cap), (147, [], Value.bool ((IntKind.i64.wrap (((v140.len : Nat) : Int) + ((v143.len : Nat) : Int))) != 0))] (by kernel_rfl) (by kernel_rfl) ?_
              refine reg_end [(3, Value.pointer v16), (6, Value.slice want.ptr want.len want.cap), (7, Value.pointer (some ⟨b_1, 0, none⟩)), (12, Value.slice v125.ptr v125.len v125.cap), (13, Value.slice v127.ptr v127.len v127.cap), (147, Value.bool ((IntKind.i64.wrap (((v140.len : Nat) : Int) + ((v143.len : Nat) : Int))) != 0))] (by kernel_rfl) (by kernel_rfl) ?_
              exact ⟨[(3, Value.pointer v16), (6, Value.slice want.ptr want.len want.cap), (7, Value.pointer (some ⟨b_1, 0, none⟩)), (12, Value.slice v125.ptr v125.len v125.cap), (13, Value.slice v127.ptr v127.len v127.cap), (147, Value.bool ((IntKind.i64.wrap (((v140.len : Nat) : Int) + ((v143.len : Nat) : Int))) != 0))], Sub.mk (by kernel_rfl), ((IntKind.i64.wrap (((v140.len : Nat) : Int) + ((v143.len : Nat) : Int))) != 0), rfl, h⟩
        · rintro _ w32 ⟨t147, rfl, h⟩
          unfold F_towpathlaw02_CodecWrites_k4 at h
          refine wpE_cond (o := (Operand.tmp 147)) (b := t147) (x := c_towpathlaw02_CodecWrites_128) (y := c_towpathlaw02_CodecWrites_132) (by kernel_rfl) (by kernel_rfl) (fun hb => ?_) (fun hb => ?_)
          · replace h := h.1 hb
            refine wpE_seq (x := c_towpathlaw02_CodecWrites_129) (y := c_towpathlaw02_CodecWrites_131) (by kernel_rfl) ?_
            refine wpE_region (id := 36) (ops := r_towpathlaw02_CodecWrites_129) (by kernel_rfl) ?_
            refine reg_run [.plain] 1 [(2, [], Value.bool false)] (by kernel_rfl) (by kernel_rfl) ?_
            refine reg_end [(2, Value.bool false)] (by kernel_rfl) (by kernel_rfl) ?_
            change WpE _ _ c_towpathlaw02_CodecWrites_131 _ _ _
            refine wpE_ret (by kernel_rfl) ?_
            repeat (first | refine seqQ_ret ?_ | refine blockQ_ret ?_ | refine loopQ_ret ?_ | refine cutQ_ret ?_)
            exact retS (rs := [(Go.ResultVar.tmp 2)]) (v := Value.bool false) (by kernel_rfl) (⟨by kernel_rfl, trivial⟩) ⟨false, rfl, h⟩
          · replace h := h.2 hb
            refine wpE_skip (by kernel_rfl) ?_
            change WpE _ _ c_towpathlaw02_CodecWrites_133 _ _ _
            refine wpE_seq (x := c_towpathlaw02_CodecWrites_134) (y := c_towpathlaw02_CodecWrites_136) (by kernel_rfl) ?_
            refine wpE_region (id := 37) (ops := r_towpathlaw02_CodecWrites_134) (by kernel_rfl) ?_
            refine reg_run [.plain] 1 [(3, [], Value.pointer v16), (6, [], Value.slice want.ptr want.len want.cap), (7, [], Value.pointer (some ⟨b_1, 0, none⟩)), (13, [], Value.slice v127.ptr v127.len v127.cap), (148, [], Value.slice v125.ptr v125.len v125.cap)] (by kernel_rfl) (by kernel_rfl) ?_
            refine reg_enter (op := (Go.Op.call (Go.Call.mk (Go.Callee.value (Go.Operand.func 14)) #[(Go.Operand.tmp 7), (Go.Operand.tmp 148)] #[41, 26]))) (ty := 0) (dst := some 149) 14 #[Value.pointer (some ⟨b_1, 0, none⟩), Value.slice v125.ptr v125.len v125.cap] (by kernel_rfl) (fun ww => by kernel_rfl) (Calls.mono h ?_)
            rintro _ w33 ⟨rfl, h⟩
            refine ⟨_, rfl, ?_⟩
            refine reg_end [(3, Value.pointer v16), (6, Value.slice want.ptr want.len want.cap), (7, Value.pointer (some ⟨b_1, 0, none⟩)), (13, Value.slice v127.ptr v127.len v127.cap)] (by kernel_rfl) (by kernel_rfl) ?_
            change WpE _ _ c_towpathlaw02_CodecWrites_136 _ _ _
            refine wpE_seq (x := c_towpathlaw02_CodecWrites_137) (y := c_towpathlaw02_CodecWrites_139) (by kernel_rfl) ?_
            refine wpE_region (id := 38) (ops := r_towpathlaw02_CodecWrites_137) (by kernel_rfl) ?_
            refine reg_run [.plain] 1 [(3, [], Value.pointer v16), (6, [], Value.slice want.ptr want.len want.cap), (7, [], Value.pointer (some ⟨b_1, 0, none⟩)), (150, [], Value.slice v127.ptr v127.len v127.cap)] (by kernel_rfl) (by kernel_rfl) ?_
            refine reg_enter (op := (Go.Op.call (Go.Call.mk (Go.Callee.value (Go.Operand.func 14)) #[(Go.Operand.tmp 7), (Go.Operand.tmp 150)] #[41, 26]))) (ty := 0) (dst := some 151) 14 #[Value.pointer (some ⟨b_1, 0, none⟩), Value.slice v127.ptr v127.len v127.cap] (by kernel_rfl) (fun ww => by kernel_rfl) (Calls.mono h ?_)
            rintro _ w34 ⟨rfl, h⟩
            refine ⟨_, rfl, ?_⟩
            refine reg_end [(3, Value.pointer v16), (6, Value.slice want.ptr want.len want.cap), (7, Value.pointer (some ⟨b_1, 0, none⟩))] (by kernel_rfl) (by kernel_rfl) ?_
            change WpE _ _ c_towpathlaw02_CodecWrites_139 _ _ _
            refine wpE_seq (x := c_towpathlaw02_CodecWrites_140) (y := c_towpathlaw02_CodecWrites_142) (by kernel_rfl) ?_
            refine wpE_region (id := 39) (ops := r_towpathlaw02_CodecWrites_140) (by kernel_rfl) ?_
            refine reg_run [] 0 [(3, [], Value.pointer v16), (6, [], Value.slice want.ptr want.len want.cap), (7, [], Value.pointer (some ⟨b_1, 0, none⟩))] (by kernel_rfl) (by kernel_rfl) ?_
            refine reg_enter (op := (Go.Op.call (Go.Call.mk (Go.Callee.value (Go.Operand.func 17)) #[(Go.Operand.tmp 7)] #[41]))) (ty := 4) (dst := some 152) 17 #[Value.pointer (some ⟨b_1, 0, none⟩)] (by kernel_rfl) (fun ww => by kernel_rfl) (Calls.mono h ?_)
            rintro _ w35 ⟨v152, rfl, h⟩
            refine ⟨_, rfl, ?_⟩
            refine reg_run [.plain, .plain] 3 [(6, [], Value.slice want.ptr want.len want.cap), (153, [], Value.bool v152), (154, [(153, true)], Value.pointer v16)] (by kernel_rfl) (by kernel_rfl) ?_
            refine reg_split 153 v152 (by kernel_rfl) (fun hb => ?_) (fun hb => ?_)
            · replace h := h.1 hb
              refine reg_run [] 3 [(6, [], Value.slice want.ptr want.len want.cap), (153, [], Value.bool true), (154, [], Value.pointer v16)] (by kernel_rfl) (by kernel_rfl) ?_
              refine reg_run [] 3 [(6, [], Value.slice want.ptr want.len want.cap), (153, [], Value.bool true), (154, [], Value.pointer v16)] (by kernel_rfl) (by kernel_rfl) ?_
              refine reg_enter (op := (Go.Op.call (Go.Call.mk (Go.Callee.value (Go.Operand.func 15)) #[(Go.Operand.tmp 154)] #[24]))) (ty := 26) (dst := some 155) 15 #[Value.pointer v16] (by kernel_rfl) (fun ww => by kernel_rfl) (Calls.mono h ?_)
              rintro _ w36 ⟨v155, rfl, h⟩
              refine ⟨_, rfl, ?_⟩
              refine reg_run [.sure] 5 [(153, [], Value.bool true), (155, [], Value.slice v155.ptr v155.len v155.cap), (156, [], Value.slice want.ptr want.len want.cap)] (by kernel_rfl) (by kernel_rfl) ?_
              refine reg_enter (op := (Go.Op.call (Go.Call.mk (Go.Callee.value (Go.Operand.func 16)) #[(Go.Operand.tmp 155), (Go.Operand.tmp 156)] #[26, 26]))) (ty := 4) (dst := some 157) 16 #[Value.slice v155.ptr v155.len v155.cap, Value.slice want.ptr want.len want.cap] (by kernel_rfl) (fun ww => by kernel_rfl) (Calls.mono h ?_)
              rintro _ w37 ⟨v157, rfl, h⟩
              refine ⟨_, rfl, ?_⟩
              refine reg_run [.plain, .plain] 8 [(2, [], Value.bool v157)] (by kernel_rfl) (by kernel_rfl) ?_
              refine reg_end [(2, Value.bool v157)] (by kernel_rfl) (by kernel_rfl) ?_
              change WpE _ _ c_towpathlaw02_CodecWrites_142 _ _ _
              refine wpE_ret (by kernel_rfl) ?_
              repeat (first | refine seqQ_ret ?_ | refine blockQ_ret ?_ | refine loopQ_ret ?_ | refine cutQ_ret ?_)
              exact retS (rs := [(Go.ResultVar.tmp 2)]) (v := Value.bool v157) (by kernel_rfl) (⟨by kernel_rfl, trivial⟩) ⟨v157, rfl, h⟩
            · replace h := h.2 hb
              refine reg_run [] 3 [(6, [], Value.slice want.ptr want.len want.cap), (153, [], Value.bool false), (154, [], undef)] (by kernel_rfl) (by kernel_rfl) ?_
              refine reg_run [.skip, .skip, .skip, .plain, .plain] 8 [(2, [], Value.bool false)] (by kernel_rfl) (by kernel_rfl) ?_
              refine reg_end [(2, Value.bool false)] (by kernel_rfl) (by kernel_rfl) ?_
              change WpE _ _ c_towpathlaw02_CodecWrites_142 _ _ _
              refine wpE_ret (by kernel_rfl) ?_
              repeat (first | refine seqQ_ret ?_ | refine blockQ_ret ?_ | refine loopQ_ret ?_ | refine cutQ_ret ?_)
              exact retS (rs := [(Go.ResultVar.tmp 2)]) (v := Value.bool false) (by kernel_rfl) (⟨by kernel_rfl, trivial⟩) ⟨false, rfl, h⟩
  · rintro e w' ⟨v, rfl, r0, rfl, h⟩; exact ⟨r0, rfl, h⟩
end Go.Proofs.YtckmganidgbpgaaDoor
