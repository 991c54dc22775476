/- WRITTEN BY PROGRAM (dec.py): for each Go function the clean formula F, the call's contract C, and the proof S that F gives C. -/
import Derived.Test.YtchcljkflklddaaRows
import Derived.Test.YtchcljkflklddaaGF
namespace Go.Proofs.Ytchcljkflklddaa
open Go
set_option linter.unusedVariables false

/-! ### towpath/towpathlaw10.RingOrders (function 5) -/
noncomputable def c_towpathlaw10_RingOrders_0 : Code := (Try.f5.body).getD Code.skip
noncomputable def c_towpathlaw10_RingOrders_1 : Code := Code.l c_towpathlaw10_RingOrders_0
noncomputable def r_towpathlaw10_RingOrders_1 : Array Oper := Code.ops c_towpathlaw10_RingOrders_1
noncomputable def c_towpathlaw10_RingOrders_3 : Code := Code.r c_towpathlaw10_RingOrders_0
noncomputable def c_towpathlaw10_RingOrders_4 : Code := Code.l c_towpathlaw10_RingOrders_3
noncomputable def c_towpathlaw10_RingOrders_5 : Code := Code.l c_towpathlaw10_RingOrders_4
noncomputable def r_towpathlaw10_RingOrders_5 : Array Oper := Code.ops c_towpathlaw10_RingOrders_5
noncomputable def c_towpathlaw10_RingOrders_7 : Code := Code.r c_towpathlaw10_RingOrders_4
noncomputable def c_towpathlaw10_RingOrders_8 : Code := Code.l c_towpathlaw10_RingOrders_7
noncomputable def c_towpathlaw10_RingOrders_9 : Code := Code.l c_towpathlaw10_RingOrders_8
noncomputable def r_towpathlaw10_RingOrders_9 : Array Oper := Code.ops c_towpathlaw10_RingOrders_9
noncomputable def c_towpathlaw10_RingOrders_11 : Code := Code.r c_towpathlaw10_RingOrders_8
noncomputable def c_towpathlaw10_RingOrders_12 : Code := Code.r c_towpathlaw10_RingOrders_7
noncomputable def c_towpathlaw10_RingOrders_13 : Code := Code.r c_towpathlaw10_RingOrders_3
noncomputable def c_towpathlaw10_RingOrders_14 : Code := Code.l c_towpathlaw10_RingOrders_13
noncomputable def r_towpathlaw10_RingOrders_14 : Array Oper := Code.ops c_towpathlaw10_RingOrders_14
noncomputable def c_towpathlaw10_RingOrders_16 : Code := Code.r c_towpathlaw10_RingOrders_13
noncomputable def c_towpathlaw10_RingOrders_17 : Code := Code.l c_towpathlaw10_RingOrders_16
noncomputable def r_towpathlaw10_RingOrders_17 : Array Oper := Code.ops c_towpathlaw10_RingOrders_17
noncomputable def c_towpathlaw10_RingOrders_19 : Code := Code.r c_towpathlaw10_RingOrders_16
noncomputable def c_towpathlaw10_RingOrders_20 : Code := Code.l c_towpathlaw10_RingOrders_19
noncomputable def c_towpathlaw10_RingOrders_21 : Code := Code.l c_towpathlaw10_RingOrders_20
noncomputable def r_towpathlaw10_RingOrders_21 : Array Oper := Code.ops c_towpathlaw10_RingOrders_21
noncomputable def c_towpathlaw10_RingOrders_23 : Code := Code.r c_towpathlaw10_RingOrders_20
noncomputable def c_towpathlaw10_RingOrders_24 : Code := Code.l c_towpathlaw10_RingOrders_23
noncomputable def c_towpathlaw10_RingOrders_25 : Code := Code.l c_towpathlaw10_RingOrders_24
noncomputable def r_towpathlaw10_RingOrders_25 : Array Oper := Code.ops c_towpathlaw10_RingOrders_25
noncomputable def c_towpathlaw10_RingOrders_27 : Code := Code.r c_towpathlaw10_RingOrders_24
noncomputable def c_towpathlaw10_RingOrders_28 : Code := Code.r c_towpathlaw10_RingOrders_23
noncomputable def c_towpathlaw10_RingOrders_29 : Code := Code.r c_towpathlaw10_RingOrders_19
noncomputable def c_towpathlaw10_RingOrders_30 : Code := Code.l c_towpathlaw10_RingOrders_29
noncomputable def r_towpathlaw10_RingOrders_30 : Array Oper := Code.ops c_towpathlaw10_RingOrders_30
noncomputable def c_towpathlaw10_RingOrders_32 : Code := Code.r c_towpathlaw10_RingOrders_29
noncomputable def c_towpathlaw10_RingOrders_33 : Code := Code.l c_towpathlaw10_RingOrders_32
noncomputable def c_towpathlaw10_RingOrders_34 : Code := Code.l c_towpathlaw10_RingOrders_33
noncomputable def r_towpathlaw10_RingOrders_34 : Array Oper := Code.ops c_towpathlaw10_RingOrders_34
noncomputable def c_towpathlaw10_RingOrders_36 : Code := Code.r c_towpathlaw10_RingOrders_33
noncomputable def c_towpathlaw10_RingOrders_37 : Code := Code.l c_towpathlaw10_RingOrders_36
noncomputable def c_towpathlaw10_RingOrders_38 : Code := Code.l c_towpathlaw10_RingOrders_37
noncomputable def c_towpathlaw10_RingOrders_39 : Code := Code.l c_towpathlaw10_RingOrders_38
noncomputable def c_towpathlaw10_RingOrders_40 : Code := Code.l c_towpathlaw10_RingOrders_39
noncomputable def r_towpathlaw10_RingOrders_40 : Array Oper := Code.ops c_towpathlaw10_RingOrders_40
noncomputable def c_towpathlaw10_RingOrders_42 : Code := Code.r c_towpathlaw10_RingOrders_39
noncomputable def c_towpathlaw10_RingOrders_43 : Code := Code.l c_towpathlaw10_RingOrders_42
noncomputable def c_towpathlaw10_RingOrders_44 : Code := Code.r c_towpathlaw10_RingOrders_42
noncomputable def c_towpathlaw10_RingOrders_45 : Code := Code.r c_towpathlaw10_RingOrders_38
noncomputable def c_towpathlaw10_RingOrders_46 : Code := Code.l c_towpathlaw10_RingOrders_45
noncomputable def c_towpathlaw10_RingOrders_47 : Code := Code.l c_towpathlaw10_RingOrders_46
noncomputable def c_towpathlaw10_RingOrders_48 : Code := Code.l c_towpathlaw10_RingOrders_47
noncomputable def c_towpathlaw10_RingOrders_49 : Code := Code.l c_towpathlaw10_RingOrders_48
noncomputable def r_towpathlaw10_RingOrders_49 : Array Oper := Code.ops c_towpathlaw10_RingOrders_49
noncomputable def c_towpathlaw10_RingOrders_51 : Code := Code.r c_towpathlaw10_RingOrders_48
noncomputable def c_towpathlaw10_RingOrders_52 : Code := Code.l c_towpathlaw10_RingOrders_51
noncomputable def c_towpathlaw10_RingOrders_53 : Code := Code.l c_towpathlaw10_RingOrders_52
noncomputable def c_towpathlaw10_RingOrders_54 : Code := Code.l c_towpathlaw10_RingOrders_53
noncomputable def c_towpathlaw10_RingOrders_55 : Code := Code.l c_towpathlaw10_RingOrders_54
noncomputable def r_towpathlaw10_RingOrders_55 : Array Oper := Code.ops c_towpathlaw10_RingOrders_55
noncomputable def c_towpathlaw10_RingOrders_57 : Code := Code.r c_towpathlaw10_RingOrders_54
noncomputable def c_towpathlaw10_RingOrders_58 : Code := Code.l c_towpathlaw10_RingOrders_57
noncomputable def c_towpathlaw10_RingOrders_59 : Code := Code.r c_towpathlaw10_RingOrders_57
noncomputable def c_towpathlaw10_RingOrders_60 : Code := Code.r c_towpathlaw10_RingOrders_53
noncomputable def c_towpathlaw10_RingOrders_61 : Code := Code.l c_towpathlaw10_RingOrders_60
noncomputable def c_towpathlaw10_RingOrders_62 : Code := Code.l c_towpathlaw10_RingOrders_61
noncomputable def c_towpathlaw10_RingOrders_63 : Code := Code.l c_towpathlaw10_RingOrders_62
noncomputable def r_towpathlaw10_RingOrders_63 : Array Oper := Code.ops c_towpathlaw10_RingOrders_63
noncomputable def c_towpathlaw10_RingOrders_65 : Code := Code.r c_towpathlaw10_RingOrders_62
noncomputable def c_towpathlaw10_RingOrders_66 : Code := Code.l c_towpathlaw10_RingOrders_65
noncomputable def c_towpathlaw10_RingOrders_67 : Code := Code.l c_towpathlaw10_RingOrders_66
noncomputable def r_towpathlaw10_RingOrders_67 : Array Oper := Code.ops c_towpathlaw10_RingOrders_67
noncomputable def c_towpathlaw10_RingOrders_69 : Code := Code.r c_towpathlaw10_RingOrders_66
noncomputable def c_towpathlaw10_RingOrders_70 : Code := Code.l c_towpathlaw10_RingOrders_69
noncomputable def c_towpathlaw10_RingOrders_71 : Code := Code.l c_towpathlaw10_RingOrders_70
noncomputable def r_towpathlaw10_RingOrders_71 : Array Oper := Code.ops c_towpathlaw10_RingOrders_71
noncomputable def c_towpathlaw10_RingOrders_73 : Code := Code.r c_towpathlaw10_RingOrders_70
noncomputable def c_towpathlaw10_RingOrders_74 : Code := Code.r c_towpathlaw10_RingOrders_69
noncomputable def c_towpathlaw10_RingOrders_75 : Code := Code.r c_towpathlaw10_RingOrders_65
noncomputable def c_towpathlaw10_RingOrders_76 : Code := Code.l c_towpathlaw10_RingOrders_75
noncomputable def r_towpathlaw10_RingOrders_76 : Array Oper := Code.ops c_towpathlaw10_RingOrders_76
noncomputable def c_towpathlaw10_RingOrders_78 : Code := Code.r c_towpathlaw10_RingOrders_75
noncomputable def c_towpathlaw10_RingOrders_79 : Code := Code.l c_towpathlaw10_RingOrders_78
noncomputable def r_towpathlaw10_RingOrders_79 : Array Oper := Code.ops c_towpathlaw10_RingOrders_79
noncomputable def c_towpathlaw10_RingOrders_81 : Code := Code.r c_towpathlaw10_RingOrders_78
noncomputable def c_towpathlaw10_RingOrders_82 : Code := Code.r c_towpathlaw10_RingOrders_60
noncomputable def r_towpathlaw10_RingOrders_82 : Array Oper := Code.ops c_towpathlaw10_RingOrders_82
noncomputable def c_towpathlaw10_RingOrders_84 : Code := Code.r c_towpathlaw10_RingOrders_47
noncomputable def c_towpathlaw10_RingOrders_85 : Code := Code.l c_towpathlaw10_RingOrders_84
noncomputable def c_towpathlaw10_RingOrders_86 : Code := Code.l c_towpathlaw10_RingOrders_85
noncomputable def r_towpathlaw10_RingOrders_86 : Array Oper := Code.ops c_towpathlaw10_RingOrders_86
noncomputable def c_towpathlaw10_RingOrders_88 : Code := Code.r c_towpathlaw10_RingOrders_85
noncomputable def c_towpathlaw10_RingOrders_89 : Code := Code.l c_towpathlaw10_RingOrders_88
noncomputable def c_towpathlaw10_RingOrders_90 : Code := Code.l c_towpathlaw10_RingOrders_89
noncomputable def c_towpathlaw10_RingOrders_91 : Code := Code.l c_towpathlaw10_RingOrders_90
noncomputable def c_towpathlaw10_RingOrders_92 : Code := Code.l c_towpathlaw10_RingOrders_91
noncomputable def r_towpathlaw10_RingOrders_92 : Array Oper := Code.ops c_towpathlaw10_RingOrders_92
noncomputable def c_towpathlaw10_RingOrders_94 : Code := Code.r c_towpathlaw10_RingOrders_91
noncomputable def c_towpathlaw10_RingOrders_95 : Code := Code.l c_towpathlaw10_RingOrders_94
noncomputable def c_towpathlaw10_RingOrders_96 : Code := Code.r c_towpathlaw10_RingOrders_94
noncomputable def c_towpathlaw10_RingOrders_97 : Code := Code.r c_towpathlaw10_RingOrders_90
noncomputable def c_towpathlaw10_RingOrders_98 : Code := Code.l c_towpathlaw10_RingOrders_97
noncomputable def c_towpathlaw10_RingOrders_99 : Code := Code.l c_towpathlaw10_RingOrders_98
noncomputable def c_towpathlaw10_RingOrders_100 : Code := Code.l c_towpathlaw10_RingOrders_99
noncomputable def r_towpathlaw10_RingOrders_100 : Array Oper := Code.ops c_towpathlaw10_RingOrders_100
noncomputable def c_towpathlaw10_RingOrders_102 : Code := Code.r c_towpathlaw10_RingOrders_99
noncomputable def c_towpathlaw10_RingOrders_103 : Code := Code.l c_towpathlaw10_RingOrders_102
noncomputable def c_towpathlaw10_RingOrders_104 : Code := Code.l c_towpathlaw10_RingOrders_103
noncomputable def r_towpathlaw10_RingOrders_104 : Array Oper := Code.ops c_towpathlaw10_RingOrders_104
noncomputable def c_towpathlaw10_RingOrders_106 : Code := Code.r c_towpathlaw10_RingOrders_103
noncomputable def c_towpathlaw10_RingOrders_107 : Code := Code.l c_towpathlaw10_RingOrders_106
noncomputable def c_towpathlaw10_RingOrders_108 : Code := Code.l c_towpathlaw10_RingOrders_107
noncomputable def r_towpathlaw10_RingOrders_108 : Array Oper := Code.ops c_towpathlaw10_RingOrders_108
noncomputable def c_towpathlaw10_RingOrders_110 : Code := Code.r c_towpathlaw10_RingOrders_107
noncomputable def c_towpathlaw10_RingOrders_111 : Code := Code.r c_towpathlaw10_RingOrders_106
noncomputable def c_towpathlaw10_RingOrders_112 : Code := Code.r c_towpathlaw10_RingOrders_102
noncomputable def c_towpathlaw10_RingOrders_113 : Code := Code.l c_towpathlaw10_RingOrders_112
noncomputable def r_towpathlaw10_RingOrders_113 : Array Oper := Code.ops c_towpathlaw10_RingOrders_113
noncomputable def c_towpathlaw10_RingOrders_115 : Code := Code.r c_towpathlaw10_RingOrders_112
noncomputable def c_towpathlaw10_RingOrders_116 : Code := Code.l c_towpathlaw10_RingOrders_115
noncomputable def r_towpathlaw10_RingOrders_116 : Array Oper := Code.ops c_towpathlaw10_RingOrders_116
noncomputable def c_towpathlaw10_RingOrders_118 : Code := Code.r c_towpathlaw10_RingOrders_115
noncomputable def c_towpathlaw10_RingOrders_119 : Code := Code.r c_towpathlaw10_RingOrders_97
noncomputable def r_towpathlaw10_RingOrders_119 : Array Oper := Code.ops c_towpathlaw10_RingOrders_119
noncomputable def c_towpathlaw10_RingOrders_121 : Code := Code.r c_towpathlaw10_RingOrders_84
noncomputable def c_towpathlaw10_RingOrders_122 : Code := Code.l c_towpathlaw10_RingOrders_121
noncomputable def r_towpathlaw10_RingOrders_122 : Array Oper := Code.ops c_towpathlaw10_RingOrders_122
noncomputable def c_towpathlaw10_RingOrders_124 : Code := Code.r c_towpathlaw10_RingOrders_121
noncomputable def c_towpathlaw10_RingOrders_125 : Code := Code.l c_towpathlaw10_RingOrders_124
noncomputable def c_towpathlaw10_RingOrders_126 : Code := Code.l c_towpathlaw10_RingOrders_125
noncomputable def r_towpathlaw10_RingOrders_126 : Array Oper := Code.ops c_towpathlaw10_RingOrders_126
noncomputable def c_towpathlaw10_RingOrders_128 : Code := Code.r c_towpathlaw10_RingOrders_125
noncomputable def c_towpathlaw10_RingOrders_129 : Code := Code.r c_towpathlaw10_RingOrders_124
noncomputable def c_towpathlaw10_RingOrders_130 : Code := Code.r c_towpathlaw10_RingOrders_45
noncomputable def r_towpathlaw10_RingOrders_130 : Array Oper := Code.ops c_towpathlaw10_RingOrders_130
noncomputable def c_towpathlaw10_RingOrders_132 : Code := Code.r c_towpathlaw10_RingOrders_32
noncomputable def c_towpathlaw10_RingOrders_133 : Code := Code.l c_towpathlaw10_RingOrders_132
noncomputable def r_towpathlaw10_RingOrders_133 : Array Oper := Code.ops c_towpathlaw10_RingOrders_133
noncomputable def c_towpathlaw10_RingOrders_135 : Code := Code.r c_towpathlaw10_RingOrders_132
noncomputable def c_towpathlaw10_RingOrders_136 : Code := Code.l c_towpathlaw10_RingOrders_135
noncomputable def c_towpathlaw10_RingOrders_137 : Code := Code.l c_towpathlaw10_RingOrders_136
noncomputable def c_towpathlaw10_RingOrders_138 : Code := Code.l c_towpathlaw10_RingOrders_137
noncomputable def c_towpathlaw10_RingOrders_139 : Code := Code.l c_towpathlaw10_RingOrders_138
noncomputable def c_towpathlaw10_RingOrders_140 : Code := Code.l c_towpathlaw10_RingOrders_139
noncomputable def r_towpathlaw10_RingOrders_140 : Array Oper := Code.ops c_towpathlaw10_RingOrders_140
noncomputable def c_towpathlaw10_RingOrders_142 : Code := Code.r c_towpathlaw10_RingOrders_139
noncomputable def c_towpathlaw10_RingOrders_143 : Code := Code.l c_towpathlaw10_RingOrders_142
noncomputable def c_towpathlaw10_RingOrders_144 : Code := Code.r c_towpathlaw10_RingOrders_142
noncomputable def c_towpathlaw10_RingOrders_145 : Code := Code.r c_towpathlaw10_RingOrders_138
noncomputable def c_towpathlaw10_RingOrders_146 : Code := Code.l c_towpathlaw10_RingOrders_145
noncomputable def c_towpathlaw10_RingOrders_147 : Code := Code.l c_towpathlaw10_RingOrders_146
noncomputable def r_towpathlaw10_RingOrders_147 : Array Oper := Code.ops c_towpathlaw10_RingOrders_147
noncomputable def c_towpathlaw10_RingOrders_149 : Code := Code.r c_towpathlaw10_RingOrders_146
noncomputable def c_towpathlaw10_RingOrders_150 : Code := Code.l c_towpathlaw10_RingOrders_149
noncomputable def c_towpathlaw10_RingOrders_151 : Code := Code.l c_towpathlaw10_RingOrders_150
noncomputable def r_towpathlaw10_RingOrders_151 : Array Oper := Code.ops c_towpathlaw10_RingOrders_151
noncomputable def c_towpathlaw10_RingOrders_153 : Code := Code.r c_towpathlaw10_RingOrders_150
noncomputable def c_towpathlaw10_RingOrders_154 : Code := Code.l c_towpathlaw10_RingOrders_153
noncomputable def c_towpathlaw10_RingOrders_155 : Code := Code.l c_towpathlaw10_RingOrders_154
noncomputable def r_towpathlaw10_RingOrders_155 : Array Oper := Code.ops c_towpathlaw10_RingOrders_155
noncomputable def c_towpathlaw10_RingOrders_157 : Code := Code.r c_towpathlaw10_RingOrders_154
noncomputable def c_towpathlaw10_RingOrders_158 : Code := Code.r c_towpathlaw10_RingOrders_153
noncomputable def c_towpathlaw10_RingOrders_159 : Code := Code.r c_towpathlaw10_RingOrders_149
noncomputable def r_towpathlaw10_RingOrders_159 : Array Oper := Code.ops c_towpathlaw10_RingOrders_159
noncomputable def c_towpathlaw10_RingOrders_161 : Code := Code.r c_towpathlaw10_RingOrders_135
noncomputable def c_towpathlaw10_RingOrders_162 : Code := Code.l c_towpathlaw10_RingOrders_161
noncomputable def r_towpathlaw10_RingOrders_162 : Array Oper := Code.ops c_towpathlaw10_RingOrders_162
noncomputable def c_towpathlaw10_RingOrders_164 : Code := Code.r c_towpathlaw10_RingOrders_161
noncomputable def c_towpathlaw10_RingOrders_165 : Code := Code.l c_towpathlaw10_RingOrders_164
noncomputable def r_towpathlaw10_RingOrders_165 : Array Oper := Code.ops c_towpathlaw10_RingOrders_165
noncomputable def c_towpathlaw10_RingOrders_167 : Code := Code.r c_towpathlaw10_RingOrders_164

set_option maxRecDepth 100000 in
set_option maxHeartbeats 4000000 in
theorem S_towpathlaw10_RingOrders {capacity : Int} {turns : Slc} {w : World} {R : Bool → World → Prop} (h : F_towpathlaw10_RingOrders capacity turns R w) : C_towpathlaw10_RingOrders capacity turns w R := by
  unfold F_towpathlaw10_RingOrders at h
  unfold C_towpathlaw10_RingOrders
  refine Calls.mono (calls_of_wpE (args := [Value.int .u8 capacity, Value.slice turns.ptr turns.len turns.cap]) (R := fun v w' => ∃ (r0 : Bool), v = Value.bool r0 ∧ R r0 w') Try.func5 (c := c_towpathlaw10_RingOrders_0) (by kernel_rfl) 149 (by kernel_rfl) (by kernel_rfl) [(0, Value.int .u8 capacity), (1, Value.slice turns.ptr turns.len turns.cap)] (by kernel_rfl) ?_) ?_
  · refine wpE_seq (x := c_towpathlaw10_RingOrders_1) (y := c_towpathlaw10_RingOrders_3) (by kernel_rfl) ?_
    refine wpE_region (id := 0) (ops := r_towpathlaw10_RingOrders_1) (by kernel_rfl) ?_
    refine reg_run [.plain] 1 [(0, [], Value.int .u8 capacity), (1, [], Value.slice turns.ptr turns.len turns.cap)] (by kernel_rfl) (by kernel_rfl) ?_
    refine reg_end [(0, Value.int .u8 capacity), (1, Value.slice turns.ptr turns.len turns.cap)] (by kernel_rfl) (by kernel_rfl) ?_
    change WpE _ _ c_towpathlaw10_RingOrders_3 _ _ _
    refine wpE_seq (x := c_towpathlaw10_RingOrders_4) (y := c_towpathlaw10_RingOrders_13) (by kernel_rfl) ?_
    refine wpE_seq (x := c_towpathlaw10_RingOrders_5) (y := c_towpathlaw10_RingOrders_7) (by kernel_rfl) ?_
    refine wpE_region (id := 1) (ops := r_towpathlaw10_RingOrders_5) (by kernel_rfl) ?_
    refine reg_run [] 0 [(0, [], Value.int .u8 capacity), (1, [], Value.slice turns.ptr turns.len turns.cap)] (by kernel_rfl) (by kernel_rfl) ?_
    refine reg_enter (op := (Go.Op.call (Go.Call.mk (Go.Callee.value (Go.Operand.func 21)) #[] #[]))) (ty := 4) (dst := some 20) 21 #[] (by kernel_rfl) (fun ww => by kernel_rfl) (Calls.mono h ?_)
    rintro _ w1 ⟨v20, rfl, h⟩
    refine ⟨_, rfl, ?_⟩
    refine reg_run [.plain, .plain, .plain, .plain, .plain, .pick] 7 [(0, [], Value.int .u8 capacity), (1, [], Value.slice turns.ptr turns.len turns.cap), (26, [], Value.bool ((!v20) || (decide (((turns.len : Nat) : Int) > 3000))))] (by kernel_rfl) (by kernel_rfl) ?_
    refine reg_end [(0, Value.int .u8 capacity), (1, Value.slice turns.ptr turns.len turns.cap), (26, Value.bool ((!v20) || (decide (((turns.len : Nat) : Int) > 3000))))] (by kernel_rfl) (by kernel_rfl) ?_
    change WpE _ _ c_towpathlaw10_RingOrders_7 _ _ _
    refine wpE_cond (o := (Operand.tmp 26)) (b := ((!v20) || (decide (((turns.len : Nat) : Int) > 3000)))) (x := c_towpathlaw10_RingOrders_8) (y := c_towpathlaw10_RingOrders_12) (by kernel_rfl) (by kernel_rfl) (fun hb => ?_) (fun hb => ?_)
    · replace h := h.1 hb
      refine wpE_seq (x := c_towpathlaw10_RingOrders_9) (y := c_towpathlaw10_RingOrders_11) (by kernel_rfl) ?_
      refine wpE_region (id := 2) (ops := r_towpathlaw10_RingOrders_9) (by kernel_rfl) ?_
      refine reg_run [] 0 [] (by kernel_rfl) (by kernel_rfl) ?_
      refine reg_enter (op := (Go.Op.call (Go.Call.mk (Go.Callee.value (Go.Operand.func 21)) #[] #[]))) (ty := 4) (dst := some 27) 21 #[] (by kernel_rfl) (fun ww => by kernel_rfl) (Calls.mono h ?_)
      rintro _ w2 ⟨v27, rfl, h⟩
      refine ⟨_, rfl, ?_⟩
      refine reg_run [.plain] 2 [(4, [], Value.bool v27)] (by kernel_rfl) (by kernel_rfl) ?_
      refine reg_end [(4, Value.bool v27)] (by kernel_rfl) (by kernel_rfl) ?_
      change WpE _ _ c_towpathlaw10_RingOrders_11 _ _ _
      refine wpE_ret (by kernel_rfl) ?_
      repeat (first | refine seqQ_ret ?_ | refine blockQ_ret ?_ | refine loopQ_ret ?_ | refine cutQ_ret ?_)
      exact retS (rs := [(Go.ResultVar.tmp 4)]) (v := Value.bool v27) (by kernel_rfl) (⟨by kernel_rfl, trivial⟩) ⟨v27, rfl, h⟩
    · replace h := h.2 hb
      refine wpE_skip (by kernel_rfl) ?_
      change WpE _ _ c_towpathlaw10_RingOrders_13 _ _ _
      refine wpE_seq (x := c_towpathlaw10_RingOrders_14) (y := c_towpathlaw10_RingOrders_16) (by kernel_rfl) ?_
      refine wpE_region (id := 3) (ops := r_towpathlaw10_RingOrders_14) (by kernel_rfl) ?_
      refine reg_run [.plain, .plain, .plain, .plain, .plain] 5 [(1, [], Value.slice turns.ptr turns.len turns.cap), (5, [], Value.int .i64 (IntKind.i64.wrap (1 + (IntKind.i64.wrap (Int.tmod capacity 40)))))] (by kernel_rfl) (by kernel_rfl) ?_
      refine reg_end [(1, Value.slice turns.ptr turns.len turns.cap), (5, Value.int .i64 (IntKind.i64.wrap (1 + (IntKind.i64.wrap (Int.tmod capacity 40)))))] (by kernel_rfl) (by kernel_rfl) ?_
      change WpE _ _ c_towpathlaw10_RingOrders_16 _ _ _
      refine wpE_seq (x := c_towpathlaw10_RingOrders_17) (y := c_towpathlaw10_RingOrders_19) (by kernel_rfl) ?_
      refine wpE_region (id := 4) (ops := r_towpathlaw10_RingOrders_17) (by kernel_rfl) ?_
      refine reg_run [.plain] 1 [(1, [], Value.slice turns.ptr turns.len turns.cap), (5, [], Value.int .i64 (IntKind.i64.wrap (1 + (IntKind.i64.wrap (Int.tmod capacity 40))))), (33, [], Value.int .i64 (IntKind.i64.wrap (1 + (IntKind.i64.wrap (Int.tmod capacity 40)))))] (by kernel_rfl) (by kernel_rfl) ?_
      refine reg_enter (op := (Go.Op.call (Go.Call.mk (Go.Callee.value (Go.Operand.func 22)) #[(Go.Operand.tmp 33)] #[3]))) (ty := 37) (dst := some 34) 22 #[Value.int .i64 (IntKind.i64.wrap (1 + (IntKind.i64.wrap (Int.tmod capacity 40))))] (by kernel_rfl) (fun ww => by kernel_rfl) (Calls.mono h ?_)
      rintro _ w3 ⟨r, e, rfl, h⟩
      refine ⟨_, rfl, ?_⟩
      refine reg_run [.plain, .plain, .plain, .plain, .plain] 7 [(1, [], Value.slice turns.ptr turns.len turns.cap), (5, [], Value.int .i64 (IntKind.i64.wrap (1 + (IntKind.i64.wrap (Int.tmod capacity 40))))), (6, [], Value.pointer r), (7, [], Value.int .i64 e)] (by kernel_rfl) (by kernel_rfl) ?_
      refine reg_end [(1, Value.slice turns.ptr turns.len turns.cap), (5, Value.int .i64 (IntKind.i64.wrap (1 + (IntKind.i64.wrap (Int.tmod capacity 40))))), (6, Value.pointer r), (7, Value.int .i64 e)] (by kernel_rfl) (by kernel_rfl) ?_
      change WpE _ _ c_towpathlaw10_RingOrders_19 _ _ _
      refine wpE_seq (x := c_towpathlaw10_RingOrders_20) (y := c_towpathlaw10_RingOrders_29) (by kernel_rfl) ?_
      refine wpE_seq (x := c_towpathlaw10_RingOrders_21) (y := c_towpathlaw10_RingOrders_23) (by kernel_rfl) ?_
      refine wpE_region (id := 5) (ops := r_towpathlaw10_RingOrders_21) (by kernel_rfl) ?_
      refine reg_run [.plain, .plain] 2 [(1, [], Value.slice turns.ptr turns.len turns.cap), (5, [], Value.int .i64 (IntKind.i64.wrap (1 + (IntKind.i64.wrap (Int.tmod capacity 40))))), (6, [], Value.pointer r), (38, [], Value.bool (e != 0))] (by kernel_rfl) (by kernel_rfl) ?_
      refine reg_end [(1, Value.slice turns.ptr turns.len turns.cap), (5, Value.int .i64 (IntKind.i64.wrap (1 + (IntKind.i64.wrap (Int.tmod capacity 40))))), (6, Value.pointer r), (38, Value.bool (e != 0))] (by kernel_rfl) (by kernel_rfl) ?_
      change WpE _ _ c_towpathlaw10_RingOrders_23 _ _ _
      refine wpE_cond (o := (Operand.tmp 38)) (b := (e != 0)) (x := c_towpathlaw10_RingOrders_24) (y := c_towpathlaw10_RingOrders_28) (by kernel_rfl) (by kernel_rfl) (fun hb => ?_) (fun hb => ?_)
      · replace h := h.1 hb
        refine wpE_seq (x := c_towpathlaw10_RingOrders_25) (y := c_towpathlaw10_RingOrders_27) (by kernel_rfl) ?_
        refine wpE_region (id := 6) (ops := r_towpathlaw10_RingOrders_25) (by kernel_rfl) ?_
        refine reg_run [.plain] 1 [(4, [], Value.bool false)] (by kernel_rfl) (by kernel_rfl) ?_
        refine reg_end [(4, Value.bool false)] (by kernel_rfl) (by kernel_rfl) ?_
        change WpE _ _ c_towpathlaw10_RingOrders_27 _ _ _
        refine wpE_ret (by kernel_rfl) ?_
        repeat (first | refine seqQ_ret ?_ | refine blockQ_ret ?_ | refine loopQ_ret ?_ | refine cutQ_ret ?_)
        exact retS (rs := [(Go.ResultVar.tmp 4)]) (v := Value.bool false) (by kernel_rfl) (⟨by kernel_rfl, trivial⟩) ⟨false, rfl, h⟩
      · replace h := h.2 hb
        refine wpE_skip (by kernel_rfl) ?_
        change WpE _ _ c_towpathlaw10_RingOrders_29 _ _ _
        refine wpE_seq (x := c_towpathlaw10_RingOrders_30) (y := c_towpathlaw10_RingOrders_32) (by kernel_rfl) ?_
        refine wpE_region (id := 7) (ops := r_towpathlaw10_RingOrders_30) (by kernel_rfl) ?_
        refine reg_run [.plain, .plain] 2 [(1, [], Value.slice turns.ptr turns.len turns.cap), (5, [], Value.int .i64 (IntKind.i64.wrap (1 + (IntKind.i64.wrap (Int.tmod capacity 40))))), (6, [], Value.pointer r), (8, [], Value.int .i64 0), (9, [], Value.int .i64 0)] (by kernel_rfl) (by kernel_rfl) ?_
        refine reg_end [(1, Value.slice turns.ptr turns.len turns.cap), (5, Value.int .i64 (IntKind.i64.wrap (1 + (IntKind.i64.wrap (Int.tmod capacity 40))))), (6, Value.pointer r), (8, Value.int .i64 0), (9, Value.int .i64 0)] (by kernel_rfl) (by kernel_rfl) ?_
        change WpE _ _ c_towpathlaw10_RingOrders_32 _ _ _
        refine wpE_seq (x := c_towpathlaw10_RingOrders_33) (y := c_towpathlaw10_RingOrders_132) (by kernel_rfl) ?_
        refine wpE_seq (x := c_towpathlaw10_RingOrders_34) (y := c_towpathlaw10_RingOrders_36) (by kernel_rfl) ?_
        refine wpE_region (id := 8) (ops := r_towpathlaw10_RingOrders_34) (by kernel_rfl) ?_
        refine reg_run [.plain] 1 [(1, [], Value.slice turns.ptr turns.len turns.cap), (5, [], Value.int .i64 (IntKind.i64.wrap (1 + (IntKind.i64.wrap (Int.tmod capacity 40))))), (6, [], Value.pointer r), (8, [], Value.int .i64 0), (9, [], Value.int .i64 0), (10, [], Value.int .i64 0)] (by kernel_rfl) (by kernel_rfl) ?_
        refine reg_end [(1, Value.slice turns.ptr turns.len turns.cap), (5, Value.int .i64 (IntKind.i64.wrap (1 + (IntKind.i64.wrap (Int.tmod capacity 40))))), (6, Value.pointer r), (8, Value.int .i64 0), (9, Value.int .i64 0), (10, Value.int .i64 0)] (by kernel_rfl) (by kernel_rfl) ?_
        change WpE _ _ c_towpathlaw10_RingOrders_36 _ _ _
        refine wpE_block (id := 0) (x := c_towpathlaw10_RingOrders_37) (by kernel_rfl) ?_
        obtain ⟨I, μ, h0, hr⟩ := h
        refine wpE_loop (x := c_towpathlaw10_RingOrders_38) (by kernel_rfl) (fun m l w => ∃ (put : Int) (took : Int) (i : Int), l = [(1, Value.slice turns.ptr turns.len turns.cap), (5, Value.int .i64 (IntKind.i64.wrap (1 + (IntKind.i64.wrap (Int.tmod capacity 40))))), (6, Value.pointer r), (8, Value.int .i64 put), (9, Value.int .i64 took), (10, Value.int .i64 i)] ∧ I put took i w ∧ μ put took i w = m) (l' := [(1, Value.slice turns.ptr turns.len turns.cap), (5, Value.int .i64 (IntKind.i64.wrap (1 + (IntKind.i64.wrap (Int.tmod capacity 40))))), (6, Value.pointer r), (8, Value.int .i64 0), (9, Value.int .i64 0), (10, Value.int .i64 0)]) (Sub.mk (by kernel_rfl)) ⟨0, 0, 0, rfl, h0, rfl⟩ ?_
        rintro _ _ w4 ⟨put, took, i, rfl, hI, rfl⟩
        obtain ⟨again_, again__h, h⟩ : ∃ again_ : Int → Int → Int → World → Prop, (∀ put' took' i' w', again_ put' took' i' w' → I put' took' i' w' ∧ μ put' took' i' w' < μ put took i w4) ∧ F_towpathlaw10_RingOrders_L0 capacity turns R r again_ put took i w4 := ⟨_, fun _ _ _ _ h => h, hr put took i w4 hI⟩
        clear h0 hI
        unfold F_towpathlaw10_RingOrders_L0 at h
        refine wpE_seq (x := c_towpathlaw10_RingOrders_39) (y := c_towpathlaw10_RingOrders_45) (by kernel_rfl) ?_
        refine wpE_seq (x := c_towpathlaw10_RingOrders_40) (y := c_towpathlaw10_RingOrders_42) (by kernel_rfl) ?_
        refine wpE_region (id := 9) (ops := r_towpathlaw10_RingOrders_40) (by kernel_rfl) ?_
        refine reg_run [.plain, .plain, .plain, .plain] 4 [(1, [], Value.slice turns.ptr turns.len turns.cap), (5, [], Value.int .i64 (IntKind.i64.wrap (1 + (IntKind.i64.wrap (Int.tmod capacity 40))))), (6, [], Value.pointer r), (8, [], Value.int .i64 put), (9, [], Value.int .i64 took), (10, [], Value.int .i64 i), (42, [], Value.bool (decide (i < ((turns.len : Nat) : Int))))] (by kernel_rfl) (by kernel_rfl) ?_
        refine reg_end [(1, Value.slice turns.ptr turns.len turns.cap), (5, Value.int .i64 (IntKind.i64.wrap (1 + (IntKind.i64.wrap (Int.tmod capacity 40))))), (6, Value.pointer r), (8, Value.int .i64 put), (9, Value.int .i64 took), (10, Value.int .i64 i), (42, Value.bool (decide (i < ((turns.len : Nat) : Int))))] (by kernel_rfl) (by kernel_rfl) ?_
        change WpE _ _ c_towpathlaw10_RingOrders_42 _ _ _
        refine wpE_cond (o := (Operand.tmp 42)) (b := (decide (i < ((turns.len : Nat) : Int)))) (x := c_towpathlaw10_RingOrders_43) (y := c_towpathlaw10_RingOrders_44) (by kernel_rfl) (by kernel_rfl) (fun hb => ?_) (fun hb => ?_)
        · replace h := h.1 hb
          refine wpE_skip (by kernel_rfl) ?_
          change WpE _ _ c_towpathlaw10_RingOrders_45 _ _ _
          refine wpE_seq (x := c_towpathlaw10_RingOrders_46) (y := c_towpathlaw10_RingOrders_130) (by kernel_rfl) ?_
          refine wpE_block (id := 1) (x := c_towpathlaw10_RingOrders_47) (by kernel_rfl) ?_
          refine wpE_seq (x := c_towpathlaw10_RingOrders_48) (y := c_towpathlaw10_RingOrders_84) (by kernel_rfl) ?_
          refine wpE_seq (x := c_towpathlaw10_RingOrders_49) (y := c_towpathlaw10_RingOrders_51) (by kernel_rfl) ?_
          refine wpE_region (id := 11) (ops := r_towpathlaw10_RingOrders_49) (by kernel_rfl) ?_
          refine reg_run [.plain] 1 [(1, [], Value.slice turns.ptr turns.len turns.cap), (5, [], Value.int .i64 (IntKind.i64.wrap (1 + (IntKind.i64.wrap (Int.tmod capacity 40))))), (6, [], Value.pointer r), (8, [], Value.int .i64 put), (9, [], Value.int .i64 took), (10, [], Value.int .i64 i), (11, [], Value.int .i64 0)] (by kernel_rfl) (by kernel_rfl) ?_
          refine reg_end [(1, Value.slice turns.ptr turns.len turns.cap), (5, Value.int .i64 (IntKind.i64.wrap (1 + (IntKind.i64.wrap (Int.tmod capacity 40))))), (6, Value.pointer r), (8, Value.int .i64 put), (9, Value.int .i64 took), (10, Value.int .i64 i), (11, Value.int .i64 0)] (by kernel_rfl) (by kernel_rfl) ?_
          change WpE _ _ c_towpathlaw10_RingOrders_51 _ _ _
          refine wpE_block (id := 2) (x := c_towpathlaw10_RingOrders_52) (by kernel_rfl) ?_
          obtain ⟨I, μ, h0, hr⟩ := h
          refine wpE_loop (x := c_towpathlaw10_RingOrders_53) (by kernel_rfl) (fun m l w => ∃ (put1 : Int) (k : Int), l = [(1, Value.slice turns.ptr turns.len turns.cap), (5, Value.int .i64 (IntKind.i64.wrap (1 + (IntKind.i64.wrap (Int.tmod capacity 40))))), (6, Value.pointer r), (8, Value.int .i64 put1), (9, Value.int .i64 took), (10, Value.int .i64 i), (11, Value.int .i64 k)] ∧ I put1 k w ∧ μ put1 k w = m) (l' := [(1, Value.slice turns.ptr turns.len turns.cap), (5, Value.int .i64 (IntKind.i64.wrap (1 + (IntKind.i64.wrap (Int.tmod capacity 40))))), (6, Value.pointer r), (8, Value.int .i64 put), (9, Value.int .i64 took), (10, Value.int .i64 i), (11, Value.int .i64 0)]) (Sub.mk (by kernel_rfl)) ⟨put, 0, rfl, h0, rfl⟩ ?_
          rintro _ _ w5 ⟨put1, k, rfl, hI, rfl⟩
          obtain ⟨again_1, again_1_h, h⟩ : ∃ again_1 : Int → Int → World → Prop, (∀ put1' k' w', again_1 put1' k' w' → I put1' k' w' ∧ μ put1' k' w' < μ put1 k w5) ∧ F_towpathlaw10_RingOrders_L1 capacity turns R r took i again_ again_1 put1 k w5 := ⟨_, fun _ _ _ h => h, hr put1 k w5 hI⟩
          clear h0 hI
          unfold F_towpathlaw10_RingOrders_L1 at h
          refine wpE_seq (x := c_towpathlaw10_RingOrders_54) (y := c_towpathlaw10_RingOrders_60) (by kernel_rfl) ?_
          refine wpE_seq (x := c_towpathlaw10_RingOrders_55) (y := c_towpathlaw10_RingOrders_57) (by kernel_rfl) ?_
          refine wpE_region (id := 12) (ops := r_towpathlaw10_RingOrders_55) (by kernel_rfl) ?_
          refine reg_run [.plain, .plain, .plain] 3 [(1, [], Value.slice turns.ptr turns.len turns.cap), (5, [], Value.int .i64 (IntKind.i64.wrap (1 + (IntKind.i64.wrap (Int.tmod capacity 40))))), (6, [], Value.pointer r), (8, [], Value.int .i64 put1), (9, [], Value.int .i64 took), (10, [], Value.int .i64 i), (11, [], Value.int .i64 k), (45, [], Value.int .i64 k), (46, [], Value.slice turns.ptr turns.len turns.cap), (47, [], Value.int .i64 i)] (by kernel_rfl) (by kernel_rfl) ?_
          obtain ⟨hp_55, h⟩ := h
          refine reg_conv [(1, [], Value.slice turns.ptr turns.len turns.cap), (5, [], Value.int .i64 (IntKind.i64.wrap (1 + (IntKind.i64.wrap (Int.tmod capacity 40))))), (6, [], Value.pointer r), (8, [], Value.int .i64 put1), (9, [], Value.int .i64 took), (10, [], Value.int .i64 i), (11, [], Value.int .i64 k), (45, [], Value.int .i64 k), (46, [], Value.slice (some ⟨(pblk turns.ptr), (poff turns.ptr), none⟩) turns.len turns.cap), (47, [], Value.int .i64 i)] (congrArg (fun pp => ([(1, [], Value.slice turns.ptr turns.len turns.cap), (5, [], Value.int .i64 (IntKind.i64.wrap (1 + (IntKind.i64.wrap (Int.tmod capacity 40))))), (6, [], Value.pointer r), (8, [], Value.int .i64 put1), (9, [], Value.int .i64 took), (10, [], Value.int .i64 i), (11, [], Value.int .i64 k), (45, [], Value.int .i64 k), (46, [], Value.slice pp turns.len turns.cap), (47, [], Value.int .i64 i)] : GEnv)) hp_55) ?_
          obtain ⟨h0, h1, h⟩ := h
          refine reg_indexS1 (t := 34) (e := 5) (x := (Go.Operand.tmp 46)) (ix := (Go.Operand.tmp 47)) (b := (pblk turns.ptr)) (o := (poff turns.ptr)) (l := turns.len) (c := turns.cap) (k := .i64) (j := i) (ty := 0) (dst := some 48) (by kernel_rfl) (by kernel_rfl) (by kernel_rfl) (by kernel_rfl) (by kernel_rfl) h0 h1 ?_
          refine reg_run [] 4 [(1, [], Value.slice turns.ptr turns.len turns.cap), (5, [], Value.int .i64 (IntKind.i64.wrap (1 + (IntKind.i64.wrap (Int.tmod capacity 40))))), (6, [], Value.pointer r), (8, [], Value.int .i64 put1), (9, [], Value.int .i64 took), (10, [], Value.int .i64 i), (11, [], Value.int .i64 k), (45, [], Value.int .i64 k), (48, [], Value.pointer (some ⟨(pblk turns.ptr), (poff turns.ptr) + i.toNat, none⟩))] (by kernel_rfl) (by kernel_rfl) ?_
          obtain ⟨v49, hc, h⟩ := h
          refine reg_load1 (t := 5) (a := (Go.Operand.tmp 48)) (b := (pblk turns.ptr)) (o := ((poff turns.ptr) + i.toNat)) (ty := 5) (dst := some 49) (by kernel_rfl) (by kernel_rfl) (by kernel_rfl) hc ?_
          refine reg_run [.plain, .plain, .plain] 8 [(1, [], Value.slice turns.ptr turns.len turns.cap), (5, [], Value.int .i64 (IntKind.i64.wrap (1 + (IntKind.i64.wrap (Int.tmod capacity 40))))), (6, [], Value.pointer r), (8, [], Value.int .i64 put1), (9, [], Value.int .i64 took), (10, [], Value.int .i64 i), (11, [], Value.int .i64 k), (52, [], Value.bool (decide (k < (IntKind.i64.wrap (Int.tmod v49 50)))))] (by kernel_rfl) (by kernel_rfl) ?_
          refine reg_end [(1, Value.slice turns.ptr turns.len turns.cap), (5, Value.int .i64 (IntKind.i64.wrap (1 + (IntKind.i64.wrap (Int.tmod capacity 40))))), (6, Value.pointer r), (8, Value.int .i64 put1), (9, Value.int .i64 took), (10, Value.int .i64 i), (11, Value.int .i64 k), (52, Value.bool (decide (k < (IntKind.i64.wrap (Int.tmod v49 50)))))] (by kernel_rfl) (by kernel_rfl) ?_
          change WpE _ _ c_towpathlaw10_RingOrders_57 _ _ _
          refine wpE_cond (o := (Operand.tmp 52)) (b := (decide (k < (IntKind.i64.wrap (Int.tmod v49 50))))) (x := c_towpathlaw10_RingOrders_58) (y := c_towpathlaw10_RingOrders_59) (by kernel_rfl) (by kernel_rfl) (fun hb => ?_) (fun hb => ?_)
          · replace h := h.1 hb
            refine wpE_skip (by kernel_rfl) ?_
            change WpE _ _ c_towpathlaw10_RingOrders_60 _ _ _
            refine wpE_seq_cut (x := c_towpathlaw10_RingOrders_61) (y := c_towpathlaw10_RingOrders_82) (by kernel_rfl) (fun l w => ∃ (put2 : Int), l = [(1, Value.slice turns.ptr turns.len turns.cap), (5, Value.int .i64 (IntKind.i64.wrap (1 + (IntKind.i64.wrap (Int.tmod capacity 40))))), (6, Value.pointer r), (8, Value.int .i64 put2), (9, Value.int .i64 took), (10, Value.int .i64 i), (11, Value.int .i64 k)] ∧ F_towpathlaw10_RingOrders_k2 k again_1 put2 w) ?_ ?_
            · refine wpE_block (id := 3) (x := c_towpathlaw10_RingOrders_62) (by kernel_rfl) ?_
              refine wpE_seq (x := c_towpathlaw10_RingOrders_63) (y := c_towpathlaw10_RingOrders_65) (by kernel_rfl) ?_
              refine wpE_region (id := 14) (ops := r_towpathlaw10_RingOrders_63) (by kernel_rfl) ?_
              refine reg_run [.plain, .plain] 2 [(1, [], Value.slice turns.ptr turns.len turns.cap), (5, [], Value.int .i64 (IntKind.i64.wrap (1 + (IntKind.i64.wrap (Int.tmod capacity 40))))), (6, [], Value.pointer r), (8, [], Value.int .i64 put1), (9, [], Value.int .i64 took), (10, [], Value.int .i64 i), (11, [], Value.int .i64 k), (55, [], Value.pointer r), (56, [], Value.int .i64 put1)] (by kernel_rfl) (by kernel_rfl) ?_
              refine reg_enter (op := (Go.Op.call (Go.Call.mk (Go.Callee.value (Go.Operand.func 23)) #[(Go.Operand.tmp 55), (Go.Operand.tmp 56)] #[36, 3]))) (ty := 4) (dst := some 57) 23 #[Value.pointer r, Value.int .i64 put1] (by kernel_rfl) (fun ww => by kernel_rfl) (Calls.mono h ?_)
              rintro _ w7 ⟨v57, rfl, h⟩
              refine ⟨_, rfl, ?_⟩
              refine reg_run [.plain] 4 [(1, [], Value.slice turns.ptr turns.len turns.cap), (5, [], Value.int .i64 (IntKind.i64.wrap (1 + (IntKind.i64.wrap (Int.tmod capacity 40))))), (6, [], Value.pointer r), (8, [], Value.int .i64 put1), (9, [], Value.int .i64 took), (10, [], Value.int .i64 i), (11, [], Value.int .i64 k), (12, [], Value.bool v57)] (by kernel_rfl) (by kernel_rfl) ?_
              refine reg_end [(1, Value.slice turns.ptr turns.len turns.cap), (5, Value.int .i64 (IntKind.i64.wrap (1 + (IntKind.i64.wrap (Int.tmod capacity 40))))), (6, Value.pointer r), (8, Value.int .i64 put1), (9, Value.int .i64 took), (10, Value.int .i64 i), (11, Value.int .i64 k), (12, Value.bool v57)] (by kernel_rfl) (by kernel_rfl) ?_
              change WpE _ _ c_towpathlaw10_RingOrders_65 _ _ _
              refine wpE_seq (x := c_towpathlaw10_RingOrders_66) (y := c_towpathlaw10_RingOrders_75) (by kernel_rfl) ?_
              refine wpE_seq (x := c_towpathlaw10_RingOrders_67) (y := c_towpathlaw10_RingOrders_69) (by kernel_rfl) ?_
              refine wpE_region (id := 15) (ops := r_towpathlaw10_RingOrders_67) (by kernel_rfl) ?_
              refine reg_run [.plain, .plain, .plain, .plain, .plain, .plain, .plain] 7 [(1, [], Value.slice turns.ptr turns.len turns.cap), (5, [], Value.int .i64 (IntKind.i64.wrap (1 + (IntKind.i64.wrap (Int.tmod capacity 40))))), (6, [], Value.pointer r), (8, [], Value.int .i64 put1), (9, [], Value.int .i64 took), (10, [], Value.int .i64 i), (11, [], Value.int .i64 k), (12, [], Value.bool v57), (64, [], Value.bool (!(v57 == (decide ((IntKind.i64.wrap (put1 - took)) < (IntKind.i64.wrap (1 + (IntKind.i64.wrap (Int.tmod capacity 40)))))))))] (by kernel_rfl) (by kernel_rfl) ?_
              refine reg_end [(1, Value.slice turns.ptr turns.len turns.cap), (5, Value.int .i64 (IntKind.i64.wrap (1 + (IntKind.i64.wrap (Int.tmod capacity 40))))), (6, Value.pointer r), (8, Value.int .i64 put1), (9, Value.int .i64 took), (10, Value.int .i64 i), (11, Value.int .i64 k), (12, Value.bool v57), (64, Value.bool (!(v57 == (decide ((IntKind.i64.wrap (put1 - took)) < (IntKind.i64.wrap (1 + (IntKind.i64.wrap (Int.tmod capacity 40)))))))))] (by kernel_rfl) (by kernel_rfl) ?_
              change WpE _ _ c_towpathlaw10_RingOrders_69 _ _ _
              refine wpE_cond (o := (Operand.tmp 64)) (b := (!(v57 == (decide ((IntKind.i64.wrap (put1 - took)) < (IntKind.i64.wrap (1 + (IntKind.i64.wrap (Int.tmod capacity 40))))))))) (x := c_towpathlaw10_RingOrders_70) (y := c_towpathlaw10_RingOrders_74) (by kernel_rfl) (by kernel_rfl) (fun hb => ?_) (fun hb => ?_)
              · replace h := h.1 hb
                refine wpE_seq (x := c_towpathlaw10_RingOrders_71) (y := c_towpathlaw10_RingOrders_73) (by kernel_rfl) ?_
                refine wpE_region (id := 16) (ops := r_towpathlaw10_RingOrders_71) (by kernel_rfl) ?_
                refine reg_run [.plain] 1 [(4, [], Value.bool false)] (by kernel_rfl) (by kernel_rfl) ?_
                refine reg_end [(4, Value.bool false)] (by kernel_rfl) (by kernel_rfl) ?_
                change WpE _ _ c_towpathlaw10_RingOrders_73 _ _ _
                refine wpE_ret (by kernel_rfl) ?_
                repeat (first | refine seqQ_ret ?_ | refine blockQ_ret ?_ | refine loopQ_ret ?_ | refine cutQ_ret ?_)
                exact retS (rs := [(Go.ResultVar.tmp 4)]) (v := Value.bool false) (by kernel_rfl) (⟨by kernel_rfl, trivial⟩) ⟨false, rfl, h⟩
              · replace h := h.2 hb
                refine wpE_skip (by kernel_rfl) ?_
                change WpE _ _ c_towpathlaw10_RingOrders_75 _ _ _
                refine wpE_seq (x := c_towpathlaw10_RingOrders_76) (y := c_towpathlaw10_RingOrders_78) (by kernel_rfl) ?_
                refine wpE_region (id := 17) (ops := r_towpathlaw10_RingOrders_76) (by kernel_rfl) ?_
                refine reg_run [.plain] 1 [(1, [], Value.slice turns.ptr turns.len turns.cap), (5, [], Value.int .i64 (IntKind.i64.wrap (1 + (IntKind.i64.wrap (Int.tmod capacity 40))))), (6, [], Value.pointer r), (8, [], Value.int .i64 put1), (9, [], Value.int .i64 took), (10, [], Value.int .i64 i), (11, [], Value.int .i64 k), (65, [], Value.bool v57)] (by kernel_rfl) (by kernel_rfl) ?_
                refine reg_end [(1, Value.slice turns.ptr turns.len turns.cap), (5, Value.int .i64 (IntKind.i64.wrap (1 + (IntKind.i64.wrap (Int.tmod capacity 40))))), (6, Value.pointer r), (8, Value.int .i64 put1), (9, Value.int .i64 took), (10, Value.int .i64 i), (11, Value.int .i64 k), (65, Value.bool v57)] (by kernel_rfl) (by kernel_rfl) ?_
                change WpE _ _ c_towpathlaw10_RingOrders_78 _ _ _
                refine wpE_cond (o := (Operand.tmp 65)) (b := v57) (x := c_towpathlaw10_RingOrders_79) (y := c_towpathlaw10_RingOrders_81) (by kernel_rfl) (by kernel_rfl) (fun hb => ?_) (fun hb => ?_)
                · replace h := h.1 hb
                  refine wpE_region (id := 18) (ops := r_towpathlaw10_RingOrders_79) (by kernel_rfl) ?_
                  refine reg_run [.plain, .plain, .plain] 3 [(1, [], Value.slice turns.ptr turns.len turns.cap), (5, [], Value.int .i64 (IntKind.i64.wrap (1 + (IntKind.i64.wrap (Int.tmod capacity 40))))), (6, [], Value.pointer r), (8, [], Value.int .i64 (IntKind.i64.wrap (put1 + 1))), (9, [], Value.int .i64 took), (10, [], Value.int .i64 i), (11, [], Value.int .i64 k)] (by kernel_rfl) (by kernel_rfl) ?_
                  refine reg_end [(1, Value.slice turns.ptr turns.len turns.cap), (5, Value.int .i64 (IntKind.i64.wrap (1 + (IntKind.i64.wrap (Int.tmod capacity 40))))), (6, Value.pointer r), (8, Value.int .i64 (IntKind.i64.wrap (put1 + 1))), (9, Value.int .i64 took), (10, Value.int .i64 i), (11, Value.int .i64 k)] (by kernel_rfl) (by kernel_rfl) ?_
                  exact ⟨[(1, Value.slice turns.ptr turns.len turns.cap), (5, Value.int .i64 (IntKind.i64.wrap (1 + (IntKind.i64.wrap (Int.tmod capacity 40))))), (6, Value.pointer r), (8, Value.int .i64 (IntKind.i64.wrap (put1 + 1))), (9, Value.int .i64 took), (10, Value.int .i64 i), (11, Value.int .i64 k)], Sub.mk (by kernel_rfl), (IntKind.i64.wrap (put1 + 1)), rfl, h⟩
                · replace h := h.2 hb
                  refine wpE_skip (by kernel_rfl) ?_
                  exact ⟨[(1, Value.slice turns.ptr turns.len turns.cap), (5, Value.int .i64 (IntKind.i64.wrap (1 + (IntKind.i64.wrap (Int.tmod capacity 40))))), (6, Value.pointer r), (8, Value.int .i64 put1), (9, Value.int .i64 took), (10, Value.int .i64 i), (11, Value.int .i64 k)], Sub.mk (by kernel_rfl), put1, rfl, h⟩
            · rintro _ w6 ⟨put2, rfl, h⟩
              unfold F_towpathlaw10_RingOrders_k2 at h
              refine wpE_region (id := 13) (ops := r_towpathlaw10_RingOrders_82) (by kernel_rfl) ?_
              refine reg_run [.plain, .plain, .plain] 3 [(1, [], Value.slice turns.ptr turns.len turns.cap), (5, [], Value.int .i64 (IntKind.i64.wrap (1 + (IntKind.i64.wrap (Int.tmod capacity 40))))), (6, [], Value.pointer r), (8, [], Value.int .i64 put2), (9, [], Value.int .i64 took), (10, [], Value.int .i64 i), (11, [], Value.int .i64 (IntKind.i64.wrap (k + 1)))] (by kernel_rfl) (by kernel_rfl) ?_
              refine reg_end [(1, Value.slice turns.ptr turns.len turns.cap), (5, Value.int .i64 (IntKind.i64.wrap (1 + (IntKind.i64.wrap (Int.tmod capacity 40))))), (6, Value.pointer r), (8, Value.int .i64 put2), (9, Value.int .i64 took), (10, Value.int .i64 i), (11, Value.int .i64 (IntKind.i64.wrap (k + 1)))] (by kernel_rfl) (by kernel_rfl) ?_
              have hb_ := again_1_h _ _ _ h
              exact ⟨_, hb_.2, [(1, Value.slice turns.ptr turns.len turns.cap), (5, Value.int .i64 (IntKind.i64.wrap (1 + (IntKind.i64.wrap (Int.tmod capacity 40))))), (6, Value.pointer r), (8, Value.int .i64 put2), (9, Value.int .i64 took), (10, Value.int .i64 i), (11, Value.int .i64 (IntKind.i64.wrap (k + 1)))], Sub.mk (by kernel_rfl), put2, (IntKind.i64.wrap (k + 1)), rfl, hb_.1, rfl⟩
          · replace h := h.2 hb
            refine wpE_exit (id := 2) (by kernel_rfl) ?_
            change WpE _ _ c_towpathlaw10_RingOrders_84 _ _ _
            refine wpE_seq (x := c_towpathlaw10_RingOrders_85) (y := c_towpathlaw10_RingOrders_121) (by kernel_rfl) ?_
            refine wpE_seq (x := c_towpathlaw10_RingOrders_86) (y := c_towpathlaw10_RingOrders_88) (by kernel_rfl) ?_
            refine wpE_region (id := 19) (ops := r_towpathlaw10_RingOrders_86) (by kernel_rfl) ?_
            refine reg_run [.plain] 1 [(1, [], Value.slice turns.ptr turns.len turns.cap), (5, [], Value.int .i64 (IntKind.i64.wrap (1 + (IntKind.i64.wrap (Int.tmod capacity 40))))), (6, [], Value.pointer r), (8, [], Value.int .i64 put1), (9, [], Value.int .i64 took), (10, [], Value.int .i64 i), (13, [], Value.int .i64 0)] (by kernel_rfl) (by kernel_rfl) ?_
            refine reg_end [(1, Value.slice turns.ptr turns.len turns.cap), (5, Value.int .i64 (IntKind.i64.wrap (1 + (IntKind.i64.wrap (Int.tmod capacity 40))))), (6, Value.pointer r), (8, Value.int .i64 put1), (9, Value.int .i64 took), (10, Value.int .i64 i), (13, Value.int .i64 0)] (by kernel_rfl) (by kernel_rfl) ?_
            change WpE _ _ c_towpathlaw10_RingOrders_88 _ _ _
            refine wpE_block (id := 4) (x := c_towpathlaw10_RingOrders_89) (by kernel_rfl) ?_
            obtain ⟨I, μ, h0, hr⟩ := h
            refine wpE_loop (x := c_towpathlaw10_RingOrders_90) (by kernel_rfl) (fun m l w => ∃ (took1 : Int) (k1 : Int), l = [(1, Value.slice turns.ptr turns.len turns.cap), (5, Value.int .i64 (IntKind.i64.wrap (1 + (IntKind.i64.wrap (Int.tmod capacity 40))))), (6, Value.pointer r), (8, Value.int .i64 put1), (9, Value.int .i64 took1), (10, Value.int .i64 i), (13, Value.int .i64 k1)] ∧ I took1 k1 w ∧ μ took1 k1 w = m) (l' := [(1, Value.slice turns.ptr turns.len turns.cap), (5, Value.int .i64 (IntKind.i64.wrap (1 + (IntKind.i64.wrap (Int.tmod capacity 40))))), (6, Value.pointer r), (8, Value.int .i64 put1), (9, Value.int .i64 took), (10, Value.int .i64 i), (13, Value.int .i64 0)]) (Sub.mk (by kernel_rfl)) ⟨took, 0, rfl, h0, rfl⟩ ?_
            rintro _ _ w8 ⟨took1, k1, rfl, hI, rfl⟩
            obtain ⟨again_2, again_2_h, h⟩ : ∃ again_2 : Int → Int → World → Prop, (∀ took1' k1' w', again_2 took1' k1' w' → I took1' k1' w' ∧ μ took1' k1' w' < μ took1 k1 w8) ∧ F_towpathlaw10_RingOrders_L3 capacity turns R r i again_ put1 again_2 took1 k1 w8 := ⟨_, fun _ _ _ h => h, hr took1 k1 w8 hI⟩
            clear h0 hI
            unfold F_towpathlaw10_RingOrders_L3 at h
            refine wpE_seq (x := c_towpathlaw10_RingOrders_91) (y := c_towpathlaw10_RingOrders_97) (by kernel_rfl) ?_
            refine wpE_seq (x := c_towpathlaw10_RingOrders_92) (y := c_towpathlaw10_RingOrders_94) (by kernel_rfl) ?_
            refine wpE_region (id := 20) (ops := r_towpathlaw10_RingOrders_92) (by kernel_rfl) ?_
            refine reg_run [.plain, .plain, .plain] 3 [(1, [], Value.slice turns.ptr turns.len turns.cap), (5, [], Value.int .i64 (IntKind.i64.wrap (1 + (IntKind.i64.wrap (Int.tmod capacity 40))))), (6, [], Value.pointer r), (8, [], Value.int .i64 put1), (9, [], Value.int .i64 took1), (10, [], Value.int .i64 i), (13, [], Value.int .i64 k1), (68, [], Value.int .i64 k1), (69, [], Value.slice turns.ptr turns.len turns.cap), (70, [], Value.int .i64 i)] (by kernel_rfl) (by kernel_rfl) ?_
            obtain ⟨hp_63, h⟩ := h
            refine reg_conv [(1, [], Value.slice turns.ptr turns.len turns.cap), (5, [], Value.int .i64 (IntKind.i64.wrap (1 + (IntKind.i64.wrap (Int.tmod capacity 40))))), (6, [], Value.pointer r), (8, [], Value.int .i64 put1), (9, [], Value.int .i64 took1), (10, [], Value.int .i64 i), (13, [], Value.int .i64 k1), (68, [], Value.int .i64 k1), (69, [], Value.slice (some ⟨(pblk turns.ptr), (poff turns.ptr), none⟩) turns.len turns.cap), (70, [], Value.int .i64 i)] (congrArg (fun pp => ([(1, [], Value.slice turns.ptr turns.len turns.cap), (5, [], Value.int .i64 (IntKind.i64.wrap (1 + (IntKind.i64.wrap (Int.tmod capacity 40))))), (6, [], Value.pointer r), (8, [], Value.int .i64 put1), (9, [], Value.int .i64 took1), (10, [], Value.int .i64 i), (13, [], Value.int .i64 k1), (68, [], Value.int .i64 k1), (69, [], Value.slice pp turns.len turns.cap), (70, [], Value.int .i64 i)] : GEnv)) hp_63) ?_
            obtain ⟨h0, h1, h⟩ := h
            refine reg_indexS1 (t := 34) (e := 5) (x := (Go.Operand.tmp 69)) (ix := (Go.Operand.tmp 70)) (b := (pblk turns.ptr)) (o := (poff turns.ptr)) (l := turns.len) (c := turns.cap) (k := .i64) (j := i) (ty := 0) (dst := some 71) (by kernel_rfl) (by kernel_rfl) (by kernel_rfl) (by kernel_rfl) (by kernel_rfl) h0 h1 ?_
            refine reg_run [] 4 [(1, [], Value.slice turns.ptr turns.len turns.cap), (5, [], Value.int .i64 (IntKind.i64.wrap (1 + (IntKind.i64.wrap (Int.tmod capacity 40))))), (6, [], Value.pointer r), (8, [], Value.int .i64 put1), (9, [], Value.int .i64 took1), (10, [], Value.int .i64 i), (13, [], Value.int .i64 k1), (68, [], Value.int .i64 k1), (71, [], Value.pointer (some ⟨(pblk turns.ptr), (poff turns.ptr) + i.toNat, none⟩))] (by kernel_rfl) (by kernel_rfl) ?_
            obtain ⟨v72, hc, h⟩ := h
            refine reg_load1 (t := 5) (a := (Go.Operand.tmp 71)) (b := (pblk turns.ptr)) (o := ((poff turns.ptr) + i.toNat)) (ty := 5) (dst := some 72) (by kernel_rfl) (by kernel_rfl) (by kernel_rfl) hc ?_
            refine reg_run [.plain, .plain, .plain] 8 [(1, [], Value.slice turns.ptr turns.len turns.cap), (5, [], Value.int .i64 (IntKind.i64.wrap (1 + (IntKind.i64.wrap (Int.tmod capacity 40))))), (6, [], Value.pointer r), (8, [], Value.int .i64 put1), (9, [], Value.int .i64 took1), (10, [], Value.int .i64 i), (13, [], Value.int .i64 k1), (75, [], Value.bool (decide (k1 < (IntKind.i64.wrap (IntKind.u8.wrap (Int.tdiv v72 5))))))] (by kernel_rfl) (by kernel_rfl) ?_
            refine reg_end [(1, Value.slice turns.ptr turns.len turns.cap), (5, Value.int .i64 (IntKind.i64.wrap (1 + (IntKind.i64.wrap (Int.tmod capacity 40))))), (6, Value.pointer r), (8, Value.int .i64 put1), (9, Value.int .i64 took1), (10, Value.int .i64 i), (13, Value.int .i64 k1), (75, Value.bool (decide (k1 < (IntKind.i64.wrap (IntKind.u8.wrap (Int.tdiv v72 5))))))] (by kernel_rfl) (by kernel_rfl) ?_
            change WpE _ _ c_towpathlaw10_RingOrders_94 _ _ _
            refine wpE_cond (o := (Operand.tmp 75)) (b := (decide (k1 < (IntKind.i64.wrap (IntKind.u8.wrap (Int.tdiv v72 5)))))) (x := c_towpathlaw10_RingOrders_95) (y := c_towpathlaw10_RingOrders_96) (by kernel_rfl) (by kernel_rfl) (fun hb => ?_) (fun hb => ?_)
            · replace h := h.1 hb
              refine wpE_skip (by kernel_rfl) ?_
              change WpE _ _ c_towpathlaw10_RingOrders_97 _ _ _
              refine wpE_seq_cut (x := c_towpathlaw10_RingOrders_98) (y := c_towpathlaw10_RingOrders_119) (by kernel_rfl) (fun l w => ∃ (took2 : Int), l = [(1, Value.slice turns.ptr turns.len turns.cap), (5, Value.int .i64 (IntKind.i64.wrap (1 + (IntKind.i64.wrap (Int.tmod capacity 40))))), (6, Value.pointer r), (8, Value.int .i64 put1), (9, Value.int .i64 took2), (10, Value.int .i64 i), (13, Value.int .i64 k1)] ∧ F_towpathlaw10_RingOrders_k4 k1 again_2 took2 w) ?_ ?_
              · refine wpE_block (id := 5) (x := c_towpathlaw10_RingOrders_99) (by kernel_rfl) ?_
                refine wpE_seq (x := c_towpathlaw10_RingOrders_100) (y := c_towpathlaw10_RingOrders_102) (by kernel_rfl) ?_
                refine wpE_region (id := 22) (ops := r_towpathlaw10_RingOrders_100) (by kernel_rfl) ?_
                refine reg_run [.plain] 1 [(1, [], Value.slice turns.ptr turns.len turns.cap), (5, [], Value.int .i64 (IntKind.i64.wrap (1 + (IntKind.i64.wrap (Int.tmod capacity 40))))), (6, [], Value.pointer r), (8, [], Value.int .i64 put1), (9, [], Value.int .i64 took1), (10, [], Value.int .i64 i), (13, [], Value.int .i64 k1), (79, [], Value.pointer r)] (by kernel_rfl) (by kernel_rfl) ?_
                refine reg_enter (op := (Go.Op.call (Go.Call.mk (Go.Callee.value (Go.Operand.func 24)) #[(Go.Operand.tmp 79)] #[36]))) (ty := 40) (dst := some 80) 24 #[Value.pointer r] (by kernel_rfl) (fun ww => by kernel_rfl) (Calls.mono h ?_)
                rintro _ w10 ⟨x, ok, rfl, h⟩
                refine ⟨_, rfl, ?_⟩
                refine reg_run [.plain, .plain, .plain, .plain, .plain] 7 [(1, [], Value.slice turns.ptr turns.len turns.cap), (5, [], Value.int .i64 (IntKind.i64.wrap (1 + (IntKind.i64.wrap (Int.tmod capacity 40))))), (6, [], Value.pointer r), (8, [], Value.int .i64 put1), (9, [], Value.int .i64 took1), (10, [], Value.int .i64 i), (13, [], Value.int .i64 k1), (14, [], Value.int .i64 x), (15, [], Value.bool ok)] (by kernel_rfl) (by kernel_rfl) ?_
                refine reg_end [(1, Value.slice turns.ptr turns.len turns.cap), (5, Value.int .i64 (IntKind.i64.wrap (1 + (IntKind.i64.wrap (Int.tmod capacity 40))))), (6, Value.pointer r), (8, Value.int .i64 put1), (9, Value.int .i64 took1), (10, Value.int .i64 i), (13, Value.int .i64 k1), (14, Value.int .i64 x), (15, Value.bool ok)] (by kernel_rfl) (by kernel_rfl) ?_
                change WpE _ _ c_towpathlaw10_RingOrders_102 _ _ _
                refine wpE_seq (x := c_towpathlaw10_RingOrders_103) (y := c_towpathlaw10_RingOrders_112) (by kernel_rfl) ?_
                refine wpE_seq (x := c_towpathlaw10_RingOrders_104) (y := c_towpathlaw10_RingOrders_106) (by kernel_rfl) ?_
                refine wpE_region (id := 23) (ops := r_towpathlaw10_RingOrders_104) (by kernel_rfl) ?_
                refine reg_run [.plain, .plain, .plain, .plain, .plain, .plain, .plain, .plain, .plain, .plain, .plain, .pick, .pick] 13 [(1, [], Value.slice turns.ptr turns.len turns.cap), (5, [], Value.int .i64 (IntKind.i64.wrap (1 + (IntKind.i64.wrap (Int.tmod capacity 40))))), (6, [], Value.pointer r), (8, [], Value.int .i64 put1), (9, [], Value.int .i64 took1), (10, [], Value.int .i64 i), (13, [], Value.int .i64 k1), (15, [], Value.bool ok), (95, [], Value.bool ((!(ok == (decide (took1 < put1)))) || (ok && (x != took1))))] (by kernel_rfl) (by kernel_rfl) ?_
                refine reg_end [(1, Value.slice turns.ptr turns.len turns.cap), (5, Value.int .i64 (IntKind.i64.wrap (1 + (IntKind.i64.wrap (Int.tmod capacity 40))))), (6, Value.pointer r), (8, Value.int .i64 put1), (9, Value.int .i64 took1), (10, Value.int .i64 i), (13, Value.int .i64 k1), (15, Value.bool ok), (95, Value.bool ((!(ok == (decide (took1 < put1)))) || (ok && (x != took1))))] (by kernel_rfl) (by kernel_rfl) ?_
                change WpE _ _ c_towpathlaw10_RingOrders_106 _ _ _
                refine wpE_cond (o := (Operand.tmp 95)) (b := ((!(ok == (decide (took1 < put1)))) || (ok && (x != took1)))) (x := c_towpathlaw10_RingOrders_107) (y := c_towpathlaw10_RingOrders_111) (by kernel_rfl) (by kernel_rfl) (fun hb => ?_) (fun hb => ?_)
                · replace h := h.1 hb
                  refine wpE_seq (x := c_towpathlaw10_RingOrders_108) (y := c_towpathlaw10_RingOrders_110) (by kernel_rfl) ?_
                  refine wpE_region (id := 24) (ops := r_towpathlaw10_RingOrders_108) (by kernel_rfl) ?_
                  refine reg_run [.plain] 1 [(4, [], Value.bool false)] (by kernel_rfl) (by kernel_rfl) ?_
                  refine reg_end [(4, Value.bool false)] (by kernel_rfl) (by kernel_rfl) ?_
                  change WpE _ _ c_towpathlaw10_RingOrders_110 _ _ _
                  refine wpE_ret (by kernel_rfl) ?_
                  repeat (first | refine seqQ_ret ?_ | refine blockQ_ret ?_ | refine loopQ_ret ?_ | refine cutQ_ret ?_)
                  exact retS (rs := [(Go.ResultVar.tmp 4)]) (v := Value.bool false) (by kernel_rfl) (⟨by kernel_rfl, trivial⟩) ⟨false, rfl, h⟩
                · replace h := h.2 hb
                  refine wpE_skip (by kernel_rfl) ?_
                  change WpE _ _ c_towpathlaw10_RingOrders_112 _ _ _
                  refine wpE_seq (x := c_towpathlaw10_RingOrders_113) (y := c_towpathlaw10_RingOrders_115) (by kernel_rfl) ?_
                  refine wpE_region (id := 25) (ops := r_towpathlaw10_RingOrders_113) (by kernel_rfl) ?_
                  refine reg_run [.plain] 1 [(1, [], Value.slice turns.ptr turns.len turns.cap), (5, [], Value.int .i64 (IntKind.i64.wrap (1 + (IntKind.i64.wrap (Int.tmod capacity 40))))), (6, [], Value.pointer r), (8, [], Value.int .i64 put1), (9, [], Value.int .i64 took1), (10, [], Value.int .i64 i), (13, [], Value.int .i64 k1), (96, [], Value.bool ok)] (by kernel_rfl) (by kernel_rfl) ?_
                  refine reg_end [(1, Value.slice turns.ptr turns.len turns.cap), (5, Value.int .i64 (IntKind.i64.wrap (1 + (IntKind.i64.wrap (Int.tmod capacity 40))))), (6, Value.pointer r), (8, Value.int .i64 put1), (9, Value.int .i64 took1), (10, Value.int .i64 i), (13, Value.int .i64 k1), (96, Value.bool ok)] (by kernel_rfl) (by kernel_rfl) ?_
                  change WpE _ _ c_towpathlaw10_RingOrders_115 _ _ _
                  refine wpE_cond (o := (Operand.tmp 96)) (b := ok) (x := c_towpathlaw10_RingOrders_116) (y := c_towpathlaw10_RingOrders_118) (by kernel_rfl) (by kernel_rfl) (fun hb => ?_) (fun hb => ?_)
                  · replace h := h.1 hb
                    refine wpE_region (id := 26) (ops := r_towpathlaw10_RingOrders_116) (by kernel_rfl) ?_
                    refine reg_run [.plain, .plain, .plain] 3 [(1, [], Value.slice turns.ptr turns.len turns.cap), (5, [], Value.int .i64 (IntKind.i64.wrap (1 + (IntKind.i64.wrap (Int.tmod capacity 40))))), (6, [], Value.pointer r), (8, [], Value.int .i64 put1), (9, [], Value.int .i64 (IntKind.i64.wrap (took1 + 1))), (10, [], Value.int .i64 i), (13, [], Value.int .i64 k1)] (by kernel_rfl) (by kernel_rfl) ?_
                    refine reg_end [(1, Value.slice turns.ptr turns.len turns.cap), (5, Value.int .i64 (IntKind.i64.wrap (1 + (IntKind.i64.wrap (Int.tmod capacity 40))))), (6, Value.pointer r), (8, Value.int .i64 put1), (9, Value.int .i64 (IntKind.i64.wrap (took1 + 1))), (10, Value.int .i64 i), (13, Value.int .i64 k1)] (by kernel_rfl) (by kernel_rfl) ?_
                    exact ⟨[(1, Value.slice turns.ptr turns.len turns.cap), (5, Value.int .i64 (IntKind.i64.wrap (1 + (IntKind.i64.wrap (Int.tmod capacity 40))))), (6, Value.pointer r), (8, Value.int .i64 put1), (9, Value.int .i64 (IntKind.i64.wrap (took1 + 1))), (10, Value.int .i64 i), (13, Value.int .i64 k1)], Sub.mk (by kernel_rfl), (IntKind.i64.wrap (took1 + 1)), rfl, h⟩
                  · replace h := h.2 hb
                    refine wpE_skip (by kernel_rfl) ?_
                    exact ⟨[(1, Value.slice turns.ptr turns.len turns.cap), (5, Value.int .i64 (IntKind.i64.wrap (1 + (IntKind.i64.wrap (Int.tmod capacity 40))))), (6, Value.pointer r), (8, Value.int .i64 put1), (9, Value.int .i64 took1), (10, Value.int .i64 i), (13, Value.int .i64 k1)], Sub.mk (by kernel_rfl), took1, rfl, h⟩
              · rintro _ w9 ⟨took2, rfl, h⟩
                unfold F_towpathlaw10_RingOrders_k4 at h
                refine wpE_region (id := 21) (ops := r_towpathlaw10_RingOrders_119) (by kernel_rfl) ?_
                refine reg_run [.plain, .plain, .plain] 3 [(1, [], Value.slice turns.ptr turns.len turns.cap), (5, [], Value.int .i64 (IntKind.i64.wrap (1 + (IntKind.i64.wrap (Int.tmod capacity 40))))), (6, [], Value.pointer r), (8, [], Value.int .i64 put1), (9, [], Value.int .i64 took2), (10, [], Value.int .i64 i), (13, [], Value.int .i64 (IntKind.i64.wrap (k1 + 1)))] (by kernel_rfl) (by kernel_rfl) ?_
                refine reg_end [(1, Value.slice turns.ptr turns.len turns.cap), (5, Value.int .i64 (IntKind.i64.wrap (1 + (IntKind.i64.wrap (Int.tmod capacity 40))))), (6, Value.pointer r), (8, Value.int .i64 put1), (9, Value.int .i64 took2), (10, Value.int .i64 i), (13, Value.int .i64 (IntKind.i64.wrap (k1 + 1)))] (by kernel_rfl) (by kernel_rfl) ?_
                have hb_ := again_2_h _ _ _ h
                exact ⟨_, hb_.2, [(1, Value.slice turns.ptr turns.len turns.cap), (5, Value.int .i64 (IntKind.i64.wrap (1 + (IntKind.i64.wrap (Int.tmod capacity 40))))), (6, Value.pointer r), (8, Value.int .i64 put1), (9, Value.int .i64 took2), (10, Value.int .i64 i), (13, Value.int .i64 (IntKind.i64.wrap (k1 + 1)))], Sub.mk (by kernel_rfl), took2, (IntKind.i64.wrap (k1 + 1)), rfl, hb_.1, rfl⟩
            · replace h := h.2 hb
              refine wpE_exit (id := 4) (by kernel_rfl) ?_
              change WpE _ _ c_towpathlaw10_RingOrders_121 _ _ _
              refine wpE_seq_cut (x := c_towpathlaw10_RingOrders_122) (y := c_towpathlaw10_RingOrders_124) (by kernel_rfl) (fun l w => ∃ (t113 : Bool), l = [(1, Value.slice turns.ptr turns.len turns.cap), (5, Value.int .i64 (IntKind.i64.wrap (1 + (IntKind.i64.wrap (Int.tmod capacity 40))))), (6, Value.pointer r), (8, Value.int .i64 put1), (9, Value.int .i64 took1), (10, Value.int .i64 i), (113, Value.bool t113)] ∧ F_towpathlaw10_RingOrders_k5 R i again_ put1 took1 t113 w) ?_ ?_
              · refine wpE_region (id := 27) (ops := r_towpathlaw10_RingOrders_122) (by kernel_rfl) ?_
                refine reg_run [.plain] 1 [(1, [], Value.slice turns.ptr turns.len turns.cap), (5, [], Value.int .i64 (IntKind.i64.wrap (1 + (IntKind.i64.wrap (Int.tmod capacity 40))))), (6, [], Value.pointer r), (8, [], Value.int .i64 put1), (9, [], Value.int .i64 took1), (10, [], Value.int .i64 i), (99, [], Value.pointer r)] (by kernel_rfl) (by kernel_rfl) ?_
                refine reg_enter (op := (Go.Op.call (Go.Call.mk (Go.Callee.value (Go.Operand.func 25)) #[(Go.Operand.tmp 99)] #[36]))) (ty := 3) (dst := some 100) 25 #[Value.pointer r] (by kernel_rfl) (fun ww => by kernel_rfl) (Calls.mono h ?_)
                rintro _ w12 ⟨v100, rfl, h⟩
                refine ⟨_, rfl, ?_⟩
                refine reg_run [.plain, .plain, .plain, .plain, .plain, .plain] 8 [(1, [], Value.slice turns.ptr turns.len turns.cap), (5, [], Value.int .i64 (IntKind.i64.wrap (1 + (IntKind.i64.wrap (Int.tmod capacity 40))))), (6, [], Value.pointer r), (8, [], Value.int .i64 put1), (9, [], Value.int .i64 took1), (10, [], Value.int .i64 i), (105, [], Value.bool (v100 != (IntKind.i64.wrap (put1 - took1)))), (106, [(105, false)], Value.pointer r)] (by kernel_rfl) (by kernel_rfl) ?_
                refine reg_split 105 (v100 != (IntKind.i64.wrap (put1 - took1))) (by kernel_rfl) (fun hb => ?_) (fun hb => ?_)
                · replace h := h.1 hb
                  refine reg_run [] 8 [(1, [], Value.slice turns.ptr turns.len turns.cap), (5, [], Value.int .i64 (IntKind.i64.wrap (1 + (IntKind.i64.wrap (Int.tmod capacity 40))))), (6, [], Value.pointer r), (8, [], Value.int .i64 put1), (9, [], Value.int .i64 took1), (10, [], Value.int .i64 i), (105, [], Value.bool true), (106, [], undef)] (by kernel_rfl) (by kernel_rfl) ?_
                  refine reg_run [.skip, .skip, .skip, .skip, .skip, .skip, .plain] 15 [(1, [], Value.slice turns.ptr turns.len turns.cap), (5, [], Value.int .i64 (IntKind.i64.wrap (1 + (IntKind.i64.wrap (Int.tmod capacity 40))))), (6, [], Value.pointer r), (8, [], Value.int .i64 put1), (9, [], Value.int .i64 took1), (10, [], Value.int .i64 i), (113, [], Value.bool true)] (by kernel_rfl) (by kernel_rfl) ?_
                  refine reg_end [(1, Value.slice turns.ptr turns.len turns.cap), (5, Value.int .i64 (IntKind.i64.wrap (1 + (IntKind.i64.wrap (Int.tmod capacity 40))))), (6, Value.pointer r), (8, Value.int .i64 put1), (9, Value.int .i64 took1), (10, Value.int .i64 i), (113, Value.bool true)] (by kernel_rfl) (by kernel_rfl) ?_
                  exact ⟨[(1, Value.slice turns.ptr turns.len turns.cap), (5, Value.int .i64 (IntKind.i64.wrap (1 + (IntKind.i64.wrap (Int.tmod capacity 40))))), (6, Value.pointer r), (8, Value.int .i64 put1), (9, Value.int .i64 took1), (10, Value.int .i64 i), (113, Value.bool true)], Sub.mk (by kernel_rfl), true, rfl, h⟩
                · replace h := h.2 hb
                  refine reg_run [] 8 [(1, [], Value.slice turns.ptr turns.len turns.cap), (5, [], Value.int .i64 (IntKind.i64.wrap (1 + (IntKind.i64.wrap (Int.tmod capacity 40))))), (6, [], Value.pointer r), (8, [], Value.int .i64 put1), (9, [], Value.int .i64 took1), (10, [], Value.int .i64 i), (105, [], Value.bool false), (106, [], Value.pointer r)] (by kernel_rfl) (by kernel_rfl) ?_
                  refine reg_run [] 8 [(1, [], Value.slice turns.ptr turns.len turns.cap), (5, [], Value.int .i64 (IntKind.i64.wrap (1 + (IntKind.i64.wrap (Int.tmod capacity 40))))), (6, [], Value.pointer r), (8, [], Value.int .i64 put1), (9, [], Value.int .i64 took1), (10, [], Value.int .i64 i), (105, [], Value.bool false), (106, [], Value.pointer r)] (by kernel_rfl) (by kernel_rfl) ?_
                  refine reg_enter (op := (Go.Op.call (Go.Call.mk (Go.Callee.value (Go.Operand.func 25)) #[(Go.Operand.tmp 106)] #[36]))) (ty := 3) (dst := some 107) 25 #[Value.pointer r] (by kernel_rfl) (fun ww => by kernel_rfl) (Calls.mono h ?_)
                  rintro _ w13 ⟨v107, rfl, h⟩
                  refine ⟨_, rfl, ?_⟩
                  refine reg_run [.sure] 10 [(1, [], Value.slice turns.ptr turns.len turns.cap), (5, [], Value.int .i64 (IntKind.i64.wrap (1 + (IntKind.i64.wrap (Int.tmod capacity 40))))), (6, [], Value.pointer r), (8, [], Value.int .i64 put1), (9, [], Value.int .i64 took1), (10, [], Value.int .i64 i), (105, [], Value.bool false), (107, [], Value.int .i64 v107), (108, [], Value.pointer r)] (by kernel_rfl) (by kernel_rfl) ?_
                  refine reg_enter (op := (Go.Op.call (Go.Call.mk (Go.Callee.value (Go.Operand.func 26)) #[(Go.Operand.tmp 108)] #[36]))) (ty := 3) (dst := some 109) 26 #[Value.pointer r] (by kernel_rfl) (fun ww => by kernel_rfl) (Calls.mono h ?_)
                  rintro _ w14 ⟨v109, rfl, h⟩
                  refine ⟨_, rfl, ?_⟩
                  refine reg_run [.sure, .sure, .sure, .plain] 15 [(1, [], Value.slice turns.ptr turns.len turns.cap), (5, [], Value.int .i64 (IntKind.i64.wrap (1 + (IntKind.i64.wrap (Int.tmod capacity 40))))), (6, [], Value.pointer r), (8, [], Value.int .i64 put1), (9, [], Value.int .i64 took1), (10, [], Value.int .i64 i), (113, [], Value.bool ((IntKind.i64.wrap (v107 + v109)) != (IntKind.i64.wrap (1 + (IntKind.i64.wrap (Int.tmod capacity 40))))))] (by kernel_rfl) (by kernel_rfl) ?_
                  refine reg_end [(1, Value.slice turns.ptr turns.len turns.cap), (5, Value.int .i64 (IntKind.i64.wrap (1 + (IntKind.i64.wrap (Int.tmod capacity 40))))), (6, Value.pointer r), (8, Value.int .i64 put1), (9, Value.int .i64 took1), (10, Value.int .i64 i), (113, Value.bool ((IntKind.i64.wrap (v107 + v109)) != (IntKind.i64.wrap (1 + (IntKind.i64.wrap (Int.tmod capacity 40))))))] (by kernel_rfl) (by kernel_rfl) ?_
                  exact ⟨[(1, Value.slice turns.ptr turns.len turns.cap), (5, Value.int .i64 (IntKind.i64.wrap (1 + (IntKind.i64.wrap (Int.tmod capacity 40))))), (6, Value.pointer r), (8, Value.int .i64 put1), (9, Value.int .i64 took1), (10, Value.int .i64 i), (113, Value.bool ((IntKind.i64.wrap (v107 + v109)) != (IntKind.i64.wrap (1 + (IntKind.i64.wrap (Int.tmod capacity 40))))))], Sub.mk (by kernel_rfl), ((IntKind.i64.wrap (v107 + v109)) != (IntKind.i64.wrap (1 + (IntKind.i64.wrap (Int.tmod capacity 40))))), rfl, h⟩
              · rintro _ w11 ⟨t113, rfl, h⟩
                unfold F_towpathlaw10_RingOrders_k5 at h
                refine wpE_cond (o := (Operand.tmp 113)) (b := t113) (x := c_towpathlaw10_RingOrders_125) (y := c_towpathlaw10_RingOrders_129) (by kernel_rfl) (by kernel_rfl) (fun hb => ?_) (fun hb => ?_)
                · replace h := h.1 hb
                  refine wpE_seq (x := c_towpathlaw10_RingOrders_126) (y := c_towpathlaw10_RingOrders_128) (by kernel_rfl) ?_
                  refine wpE_region (id := 28) (ops := r_towpathlaw10_RingOrders_126) (by kernel_rfl) ?_
                  refine reg_run [.plain] 1 [(4, [], Value.bool false)] (by kernel_rfl) (by kernel_rfl) ?_
                  refine reg_end [(4, Value.bool false)] (by kernel_rfl) (by kernel_rfl) ?_
                  change WpE _ _ c_towpathlaw10_RingOrders_128 _ _ _
                  refine wpE_ret (by kernel_rfl) ?_
                  repeat (first | refine seqQ_ret ?_ | refine blockQ_ret ?_ | refine loopQ_ret ?_ | refine cutQ_ret ?_)
                  exact retS (rs := [(Go.ResultVar.tmp 4)]) (v := Value.bool false) (by kernel_rfl) (⟨by kernel_rfl, trivial⟩) ⟨false, rfl, h⟩
                · replace h := h.2 hb
                  refine wpE_skip (by kernel_rfl) ?_
                  change WpE _ _ c_towpathlaw10_RingOrders_130 _ _ _
                  refine wpE_region (id := 10) (ops := r_towpathlaw10_RingOrders_130) (by kernel_rfl) ?_
                  refine reg_run [.plain, .plain, .plain] 3 [(1, [], Value.slice turns.ptr turns.len turns.cap), (5, [], Value.int .i64 (IntKind.i64.wrap (1 + (IntKind.i64.wrap (Int.tmod capacity 40))))), (6, [], Value.pointer r), (8, [], Value.int .i64 put1), (9, [], Value.int .i64 took1), (10, [], Value.int .i64 (IntKind.i64.wrap (i + 1)))] (by kernel_rfl) (by kernel_rfl) ?_
                  refine reg_end [(1, Value.slice turns.ptr turns.len turns.cap), (5, Value.int .i64 (IntKind.i64.wrap (1 + (IntKind.i64.wrap (Int.tmod capacity 40))))), (6, Value.pointer r), (8, Value.int .i64 put1), (9, Value.int .i64 took1), (10, Value.int .i64 (IntKind.i64.wrap (i + 1)))] (by kernel_rfl) (by kernel_rfl) ?_
                  have hb_ := again__h _ _ _ _ h
                  exact ⟨_, hb_.2, [(1, Value.slice turns.ptr turns.len turns.cap), (5, Value.int .i64 (IntKind.i64.wrap (1 + (IntKind.i64.wrap (Int.tmod capacity 40))))), (6, Value.pointer r), (8, Value.int .i64 put1), (9, Value.int .i64 took1), (10, Value.int .i64 (IntKind.i64.wrap (i + 1)))], Sub.mk (by kernel_rfl), put1, took1, (IntKind.i64.wrap (i + 1)), rfl, hb_.1, rfl⟩
        · replace h := h.2 hb
          refine wpE_exit (id := 0) (by kernel_rfl) ?_
          change WpE _ _ c_towpathlaw10_RingOrders_132 _ _ _
          refine wpE_seq (x := c_towpathlaw10_RingOrders_133) (y := c_towpathlaw10_RingOrders_135) (by kernel_rfl) ?_
          refine wpE_region (id := 29) (ops := r_towpathlaw10_RingOrders_133) (by kernel_rfl) ?_
          refine reg_run [.plain] 1 [(6, [], Value.pointer r), (8, [], Value.int .i64 put), (9, [], Value.int .i64 took), (114, [], Value.pointer r)] (by kernel_rfl) (by kernel_rfl) ?_
          refine reg_enter (op := (Go.Op.call (Go.Call.mk (Go.Callee.value (Go.Operand.func 27)) #[(Go.Operand.tmp 114)] #[36]))) (ty := 0) (dst := some 115) 27 #[Value.pointer r] (by kernel_rfl) (fun ww => by kernel_rfl) (Calls.mono h ?_)
          rintro _ w15 ⟨rfl, h⟩
          refine ⟨_, rfl, ?_⟩
          refine reg_end [(6, Value.pointer r), (8, Value.int .i64 put), (9, Value.int .i64 took)] (by kernel_rfl) (by kernel_rfl) ?_
          change WpE _ _ c_towpathlaw10_RingOrders_135 _ _ _
          refine wpE_seq (x := c_towpathlaw10_RingOrders_136) (y := c_towpathlaw10_RingOrders_161) (by kernel_rfl) ?_
          refine wpE_block (id := 6) (x := c_towpathlaw10_RingOrders_137) (by kernel_rfl) ?_
          obtain ⟨I, μ, h0, hr⟩ := h
          refine wpE_loop (x := c_towpathlaw10_RingOrders_138) (by kernel_rfl) (fun m l w => ∃ (took3 : Int), l = [(6, Value.pointer r), (8, Value.int .i64 put), (9, Value.int .i64 took3)] ∧ I took3 w ∧ μ took3 w = m) (l' := [(6, Value.pointer r), (8, Value.int .i64 put), (9, Value.int .i64 took)]) (Sub.mk (by kernel_rfl)) ⟨took, rfl, h0, rfl⟩ ?_
          rintro _ _ w16 ⟨took3, rfl, hI, rfl⟩
          obtain ⟨again_3, again_3_h, h⟩ : ∃ again_3 : Int → World → Prop, (∀ took3' w', again_3 took3' w' → I took3' w' ∧ μ took3' w' < μ took3 w16) ∧ F_towpathlaw10_RingOrders_L6 R r put again_3 took3 w16 := ⟨_, fun _ _ h => h, hr took3 w16 hI⟩
          clear h0 hI
          unfold F_towpathlaw10_RingOrders_L6 at h
          refine wpE_seq (x := c_towpathlaw10_RingOrders_139) (y := c_towpathlaw10_RingOrders_145) (by kernel_rfl) ?_
          refine wpE_seq (x := c_towpathlaw10_RingOrders_140) (y := c_towpathlaw10_RingOrders_142) (by kernel_rfl) ?_
          refine wpE_region (id := 30) (ops := r_towpathlaw10_RingOrders_140) (by kernel_rfl) ?_
          refine reg_run [.plain, .plain, .plain] 3 [(6, [], Value.pointer r), (8, [], Value.int .i64 put), (9, [], Value.int .i64 took3), (118, [], Value.bool (decide (took3 < put)))] (by kernel_rfl) (by kernel_rfl) ?_
          refine reg_end [(6, Value.pointer r), (8, Value.int .i64 put), (9, Value.int .i64 took3), (118, Value.bool (decide (took3 < put)))] (by kernel_rfl) (by kernel_rfl) ?_
          change WpE _ _ c_towpathlaw10_RingOrders_142 _ _ _
          refine wpE_cond (o := (Operand.tmp 118)) (b := (decide (took3 < put))) (x := c_towpathlaw10_RingOrders_143) (y := c_towpathlaw10_RingOrders_144) (by kernel_rfl) (by kernel_rfl) (fun hb => ?_) (fun hb => ?_)
          · replace h := h.1 hb
            refine wpE_skip (by kernel_rfl) ?_
            change WpE _ _ c_towpathlaw10_RingOrders_145 _ _ _
            refine wpE_block (id := 7) (x := c_towpathlaw10_RingOrders_146) (by kernel_rfl) ?_
            refine wpE_seq (x := c_towpathlaw10_RingOrders_147) (y := c_towpathlaw10_RingOrders_149) (by kernel_rfl) ?_
            refine wpE_region (id := 31) (ops := r_towpathlaw10_RingOrders_147) (by kernel_rfl) ?_
            refine reg_run [.plain] 1 [(6, [], Value.pointer r), (8, [], Value.int .i64 put), (9, [], Value.int .i64 took3), (120, [], Value.pointer r)] (by kernel_rfl) (by kernel_rfl) ?_
            refine reg_enter (op := (Go.Op.call (Go.Call.mk (Go.Callee.value (Go.Operand.func 24)) #[(Go.Operand.tmp 120)] #[36]))) (ty := 40) (dst := some 121) 24 #[Value.pointer r] (by kernel_rfl) (fun ww => by kernel_rfl) (Calls.mono h ?_)
            rintro _ w17 ⟨x1, ok1, rfl, h⟩
            refine ⟨_, rfl, ?_⟩
            refine reg_run [.plain, .plain, .plain, .plain, .plain] 7 [(6, [], Value.pointer r), (8, [], Value.int .i64 put), (9, [], Value.int .i64 took3), (16, [], Value.int .i64 x1), (17, [], Value.bool ok1)] (by kernel_rfl) (by kernel_rfl) ?_
            refine reg_end [(6, Value.pointer r), (8, Value.int .i64 put), (9, Value.int .i64 took3), (16, Value.int .i64 x1), (17, Value.bool ok1)] (by kernel_rfl) (by kernel_rfl) ?_
            change WpE _ _ c_towpathlaw10_RingOrders_149 _ _ _
            refine wpE_seq (x := c_towpathlaw10_RingOrders_150) (y := c_towpathlaw10_RingOrders_159) (by kernel_rfl) ?_
            refine wpE_seq_cut (x := c_towpathlaw10_RingOrders_151) (y := c_towpathlaw10_RingOrders_153) (by kernel_rfl) (fun l w => ∃ (t135 : Bool), l = [(6, Value.pointer r), (8, Value.int .i64 put), (9, Value.int .i64 took3), (135, Value.bool t135)] ∧ F_towpathlaw10_RingOrders_k7 R took3 again_3 t135 w) ?_ ?_
            · refine wpE_region (id := 32) (ops := r_towpathlaw10_RingOrders_151) (by kernel_rfl) ?_
              refine reg_run [.plain, .plain, .plain, .plain, .plain, .plain, .pick, .plain, .plain] 9 [(6, [], Value.pointer r), (8, [], Value.int .i64 put), (9, [], Value.int .i64 took3), (131, [], Value.bool ((!ok1) || (x1 != took3))), (132, [(131, false)], Value.pointer r)] (by kernel_rfl) (by kernel_rfl) ?_
              refine reg_split 131 ((!ok1) || (x1 != took3)) (by kernel_rfl) (fun hb => ?_) (fun hb => ?_)
              · replace h := h.1 hb
                refine reg_run [] 9 [(6, [], Value.pointer r), (8, [], Value.int .i64 put), (9, [], Value.int .i64 took3), (131, [], Value.bool true), (132, [], undef)] (by kernel_rfl) (by kernel_rfl) ?_
                refine reg_run [.skip, .skip, .plain] 12 [(6, [], Value.pointer r), (8, [], Value.int .i64 put), (9, [], Value.int .i64 took3), (135, [], Value.bool true)] (by kernel_rfl) (by kernel_rfl) ?_
                refine reg_end [(6, Value.pointer r), (8, Value.int .i64 put), (9, Value.int .i64 took3), (135, Value.bool true)] (by kernel_rfl) (by kernel_rfl) ?_
                exact ⟨[(6, Value.pointer r), (8, Value.int .i64 put), (9, Value.int .i64 took3), (135, Value.bool true)], Sub.mk (by kernel_rfl), true, rfl, h⟩
              · replace h := h.2 hb
                refine reg_run [] 9 [(6, [], Value.pointer r), (8, [], Value.int .i64 put), (9, [], Value.int .i64 took3), (131, [], Value.bool false), (132, [], Value.pointer r)] (by kernel_rfl) (by kernel_rfl) ?_
                refine reg_run [] 9 [(6, [], Value.pointer r), (8, [], Value.int .i64 put), (9, [], Value.int .i64 took3), (131, [], Value.bool false), (132, [], Value.pointer r)] (by kernel_rfl) (by kernel_rfl) ?_
                refine reg_enter (op := (Go.Op.call (Go.Call.mk (Go.Callee.value (Go.Operand.func 26)) #[(Go.Operand.tmp 132)] #[36]))) (ty := 3) (dst := some 133) 26 #[Value.pointer r] (by kernel_rfl) (fun ww => by kernel_rfl) (Calls.mono h ?_)
                rintro _ w19 ⟨v133, rfl, h⟩
                refine ⟨_, rfl, ?_⟩
                refine reg_run [.sure, .plain] 12 [(6, [], Value.pointer r), (8, [], Value.int .i64 put), (9, [], Value.int .i64 took3), (135, [], Value.bool (v133 != 0))] (by kernel_rfl) (by kernel_rfl) ?_
                refine reg_end [(6, Value.pointer r), (8, Value.int .i64 put), (9, Value.int .i64 took3), (135, Value.bool (v133 != 0))] (by kernel_rfl) (by kernel_rfl) ?_
                exact ⟨[(6, Value.pointer r), (8, Value.int .i64 put), (9, Value.int .i64 took3), (135, Value.bool (v133 != 0))], Sub.mk (by kernel_rfl), (v133 != 0), rfl, h⟩
            · rintro _ w18 ⟨t135, rfl, h⟩
              unfold F_towpathlaw10_RingOrders_k7 at h
              refine wpE_cond (o := (Operand.tmp 135)) (b := t135) (x := c_towpathlaw10_RingOrders_154) (y := c_towpathlaw10_RingOrders_158) (by kernel_rfl) (by kernel_rfl) (fun hb => ?_) (fun hb => ?_)
              · replace h := h.1 hb
                refine wpE_seq (x := c_towpathlaw10_RingOrders_155) (y := c_towpathlaw10_RingOrders_157) (by kernel_rfl) ?_
                refine wpE_region (id := 33) (ops := r_towpathlaw10_RingOrders_155) (by kernel_rfl) ?_
                refine reg_run [.plain] 1 [(4, [], Value.bool false)] (by kernel_rfl) (by kernel_rfl) ?_
                refine reg_end [(4, Value.bool false)] (by kernel_rfl) (by kernel_rfl) ?_
                change WpE _ _ c_towpathlaw10_RingOrders_157 _ _ _
                refine wpE_ret (by kernel_rfl) ?_
                repeat (first | refine seqQ_ret ?_ | refine blockQ_ret ?_ | refine loopQ_ret ?_ | refine cutQ_ret ?_)
                exact retS (rs := [(Go.ResultVar.tmp 4)]) (v := Value.bool false) (by kernel_rfl) (⟨by kernel_rfl, trivial⟩) ⟨false, rfl, h⟩
              · replace h := h.2 hb
                refine wpE_skip (by kernel_rfl) ?_
                change WpE _ _ c_towpathlaw10_RingOrders_159 _ _ _
                refine wpE_region (id := 34) (ops := r_towpathlaw10_RingOrders_159) (by kernel_rfl) ?_
                refine reg_run [.plain, .plain, .plain] 3 [(6, [], Value.pointer r), (8, [], Value.int .i64 put), (9, [], Value.int .i64 (IntKind.i64.wrap (took3 + 1)))] (by kernel_rfl) (by kernel_rfl) ?_
                refine reg_end [(6, Value.pointer r), (8, Value.int .i64 put), (9, Value.int .i64 (IntKind.i64.wrap (took3 + 1)))] (by kernel_rfl) (by kernel_rfl) ?_
                have hb_ := again_3_h _ _ h
                exact ⟨_, hb_.2, [(6, Value.pointer r), (8, Value.int .i64 put), (9, Value.int .i64 (IntKind.i64.wrap (took3 + 1)))], Sub.mk (by kernel_rfl), (IntKind.i64.wrap (took3 + 1)), rfl, hb_.1, rfl⟩
          · replace h := h.2 hb
            refine wpE_exit (id := 6) (by kernel_rfl) ?_
            change WpE _ _ c_towpathlaw10_RingOrders_161 _ _ _
            refine wpE_seq (x := c_towpathlaw10_RingOrders_162) (y := c_towpathlaw10_RingOrders_164) (by kernel_rfl) ?_
            refine wpE_region (id := 35) (ops := r_towpathlaw10_RingOrders_162) (by kernel_rfl) ?_
            refine reg_run [.plain] 1 [(6, [], Value.pointer r), (139, [], Value.pointer r)] (by kernel_rfl) (by kernel_rfl) ?_
            refine reg_enter (op := (Go.Op.call (Go.Call.mk (Go.Callee.value (Go.Operand.func 24)) #[(Go.Operand.tmp 139)] #[36]))) (ty := 40) (dst := some 140) 24 #[Value.pointer r] (by kernel_rfl) (fun ww => by kernel_rfl) (Calls.mono h ?_)
            rintro _ w20 ⟨v140, ok2, rfl, h⟩
            refine ⟨_, rfl, ?_⟩
            refine reg_run [.plain, .plain, .plain, .plain, .plain] 7 [(6, [], Value.pointer r), (19, [], Value.bool ok2)] (by kernel_rfl) (by kernel_rfl) ?_
            refine reg_end [(6, Value.pointer r), (19, Value.bool ok2)] (by kernel_rfl) (by kernel_rfl) ?_
            change WpE _ _ c_towpathlaw10_RingOrders_164 _ _ _
            refine wpE_seq (x := c_towpathlaw10_RingOrders_165) (y := c_towpathlaw10_RingOrders_167) (by kernel_rfl) ?_
            refine wpE_region (id := 36) (ops := r_towpathlaw10_RingOrders_165) (by kernel_rfl) ?_
            refine reg_run [.plain, .plain, .plain, .plain] 4 [(145, [], Value.bool (!ok2)), (146, [(145, true)], Value.pointer r)] (by kernel_rfl) (by kernel_rfl) ?_
            refine reg_split 145 (!ok2) (by kernel_rfl) (fun hb => ?_) (fun hb => ?_)
            · replace h := h.1 hb
              refine reg_run [] 4 [(145, [], Value.bool true), (146, [], Value.pointer r)] (by kernel_rfl) (by kernel_rfl) ?_
              refine reg_run [] 4 [(145, [], Value.bool true), (146, [], Value.pointer r)] (by kernel_rfl) (by kernel_rfl) ?_
              refine reg_enter (op := (Go.Op.call (Go.Call.mk (Go.Callee.value (Go.Operand.func 28)) #[(Go.Operand.tmp 146)] #[36]))) (ty := 4) (dst := some 147) 28 #[Value.pointer r] (by kernel_rfl) (fun ww => by kernel_rfl) (Calls.mono h ?_)
              rintro _ w21 ⟨v147, rfl, h⟩
              refine ⟨_, rfl, ?_⟩
              refine reg_run [.plain, .plain] 7 [(4, [], Value.bool v147)] (by kernel_rfl) (by kernel_rfl) ?_
              refine reg_end [(4, Value.bool v147)] (by kernel_rfl) (by kernel_rfl) ?_
              change WpE _ _ c_towpathlaw10_RingOrders_167 _ _ _
              refine wpE_ret (by kernel_rfl) ?_
              repeat (first | refine seqQ_ret ?_ | refine blockQ_ret ?_ | refine loopQ_ret ?_ | refine cutQ_ret ?_)
              exact retS (rs := [(Go.ResultVar.tmp 4)]) (v := Value.bool v147) (by kernel_rfl) (⟨by kernel_rfl, trivial⟩) ⟨v147, rfl, h⟩
            · replace h := h.2 hb
              refine reg_run [] 4 [(145, [], Value.bool false), (146, [], undef)] (by kernel_rfl) (by kernel_rfl) ?_
              refine reg_run [.skip, .plain, .plain] 7 [(4, [], Value.bool false)] (by kernel_rfl) (by kernel_rfl) ?_
              refine reg_end [(4, Value.bool false)] (by kernel_rfl) (by kernel_rfl) ?_
              change WpE _ _ c_towpathlaw10_RingOrders_167 _ _ _
              refine wpE_ret (by kernel_rfl) ?_
              repeat (first | refine seqQ_ret ?_ | refine blockQ_ret ?_ | refine loopQ_ret ?_ | refine cutQ_ret ?_)
              exact retS (rs := [(Go.ResultVar.tmp 4)]) (v := Value.bool false) (by kernel_rfl) (⟨by kernel_rfl, trivial⟩) ⟨false, rfl, h⟩
  · rintro e w' ⟨v, rfl, r0, rfl, h⟩; exact ⟨r0, rfl, h⟩
end Go.Proofs.Ytchcljkflklddaa
