/- WRITTEN BY PROGRAM (dec.py): for each Go function the clean formula F, the call's contract C, and the proof S that F gives C. -/
import Derived.Test.YtchcljkflklddaaRows
import Derived.Test.YtchcljkflklddaaGF
namespace Go.Proofs.Ytchcljkflklddaa
open Go
set_option linter.unusedVariables false

/-! ### towpath/towpathlaw12.GateOrders (function 6) -/
noncomputable def c_towpathlaw12_GateOrders_0 : Code := (Try.f6.body).getD Code.skip
noncomputable def c_towpathlaw12_GateOrders_1 : Code := Code.l c_towpathlaw12_GateOrders_0
noncomputable def r_towpathlaw12_GateOrders_1 : Array Oper := Code.ops c_towpathlaw12_GateOrders_1
noncomputable def c_towpathlaw12_GateOrders_3 : Code := Code.r c_towpathlaw12_GateOrders_0
noncomputable def c_towpathlaw12_GateOrders_4 : Code := Code.l c_towpathlaw12_GateOrders_3
noncomputable def c_towpathlaw12_GateOrders_5 : Code := Code.l c_towpathlaw12_GateOrders_4
noncomputable def r_towpathlaw12_GateOrders_5 : Array Oper := Code.ops c_towpathlaw12_GateOrders_5
noncomputable def c_towpathlaw12_GateOrders_7 : Code := Code.r c_towpathlaw12_GateOrders_4
noncomputable def c_towpathlaw12_GateOrders_8 : Code := Code.l c_towpathlaw12_GateOrders_7
noncomputable def c_towpathlaw12_GateOrders_9 : Code := Code.l c_towpathlaw12_GateOrders_8
noncomputable def r_towpathlaw12_GateOrders_9 : Array Oper := Code.ops c_towpathlaw12_GateOrders_9
noncomputable def c_towpathlaw12_GateOrders_11 : Code := Code.r c_towpathlaw12_GateOrders_8
noncomputable def c_towpathlaw12_GateOrders_12 : Code := Code.r c_towpathlaw12_GateOrders_7
noncomputable def c_towpathlaw12_GateOrders_13 : Code := Code.r c_towpathlaw12_GateOrders_3
noncomputable def c_towpathlaw12_GateOrders_14 : Code := Code.l c_towpathlaw12_GateOrders_13
noncomputable def r_towpathlaw12_GateOrders_14 : Array Oper := Code.ops c_towpathlaw12_GateOrders_14
noncomputable def c_towpathlaw12_GateOrders_16 : Code := Code.r c_towpathlaw12_GateOrders_13
noncomputable def c_towpathlaw12_GateOrders_17 : Code := Code.l c_towpathlaw12_GateOrders_16
noncomputable def c_towpathlaw12_GateOrders_18 : Code := Code.l c_towpathlaw12_GateOrders_17
noncomputable def r_towpathlaw12_GateOrders_18 : Array Oper := Code.ops c_towpathlaw12_GateOrders_18
noncomputable def c_towpathlaw12_GateOrders_20 : Code := Code.r c_towpathlaw12_GateOrders_17
noncomputable def c_towpathlaw12_GateOrders_21 : Code := Code.l c_towpathlaw12_GateOrders_20
noncomputable def c_towpathlaw12_GateOrders_22 : Code := Code.l c_towpathlaw12_GateOrders_21
noncomputable def r_towpathlaw12_GateOrders_22 : Array Oper := Code.ops c_towpathlaw12_GateOrders_22
noncomputable def c_towpathlaw12_GateOrders_24 : Code := Code.r c_towpathlaw12_GateOrders_21
noncomputable def c_towpathlaw12_GateOrders_25 : Code := Code.r c_towpathlaw12_GateOrders_20
noncomputable def c_towpathlaw12_GateOrders_26 : Code := Code.r c_towpathlaw12_GateOrders_16
noncomputable def c_towpathlaw12_GateOrders_27 : Code := Code.l c_towpathlaw12_GateOrders_26
noncomputable def r_towpathlaw12_GateOrders_27 : Array Oper := Code.ops c_towpathlaw12_GateOrders_27
noncomputable def c_towpathlaw12_GateOrders_29 : Code := Code.r c_towpathlaw12_GateOrders_26
noncomputable def c_towpathlaw12_GateOrders_30 : Code := Code.l c_towpathlaw12_GateOrders_29
noncomputable def r_towpathlaw12_GateOrders_30 : Array Oper := Code.ops c_towpathlaw12_GateOrders_30
noncomputable def c_towpathlaw12_GateOrders_32 : Code := Code.r c_towpathlaw12_GateOrders_29
noncomputable def c_towpathlaw12_GateOrders_33 : Code := Code.l c_towpathlaw12_GateOrders_32
noncomputable def c_towpathlaw12_GateOrders_34 : Code := Code.l c_towpathlaw12_GateOrders_33
noncomputable def r_towpathlaw12_GateOrders_34 : Array Oper := Code.ops c_towpathlaw12_GateOrders_34
noncomputable def c_towpathlaw12_GateOrders_36 : Code := Code.r c_towpathlaw12_GateOrders_33
noncomputable def c_towpathlaw12_GateOrders_37 : Code := Code.l c_towpathlaw12_GateOrders_36
noncomputable def c_towpathlaw12_GateOrders_38 : Code := Code.l c_towpathlaw12_GateOrders_37
noncomputable def c_towpathlaw12_GateOrders_39 : Code := Code.l c_towpathlaw12_GateOrders_38
noncomputable def c_towpathlaw12_GateOrders_40 : Code := Code.l c_towpathlaw12_GateOrders_39
noncomputable def r_towpathlaw12_GateOrders_40 : Array Oper := Code.ops c_towpathlaw12_GateOrders_40
noncomputable def c_towpathlaw12_GateOrders_42 : Code := Code.r c_towpathlaw12_GateOrders_39
noncomputable def c_towpathlaw12_GateOrders_43 : Code := Code.l c_towpathlaw12_GateOrders_42
noncomputable def c_towpathlaw12_GateOrders_44 : Code := Code.r c_towpathlaw12_GateOrders_42
noncomputable def c_towpathlaw12_GateOrders_45 : Code := Code.r c_towpathlaw12_GateOrders_38
noncomputable def c_towpathlaw12_GateOrders_46 : Code := Code.l c_towpathlaw12_GateOrders_45
noncomputable def c_towpathlaw12_GateOrders_47 : Code := Code.l c_towpathlaw12_GateOrders_46
noncomputable def c_towpathlaw12_GateOrders_48 : Code := Code.l c_towpathlaw12_GateOrders_47
noncomputable def r_towpathlaw12_GateOrders_48 : Array Oper := Code.ops c_towpathlaw12_GateOrders_48
noncomputable def c_towpathlaw12_GateOrders_50 : Code := Code.r c_towpathlaw12_GateOrders_47
noncomputable def c_towpathlaw12_GateOrders_51 : Code := Code.l c_towpathlaw12_GateOrders_50
noncomputable def r_towpathlaw12_GateOrders_51 : Array Oper := Code.ops c_towpathlaw12_GateOrders_51
noncomputable def c_towpathlaw12_GateOrders_53 : Code := Code.r c_towpathlaw12_GateOrders_50
noncomputable def c_towpathlaw12_GateOrders_54 : Code := Code.l c_towpathlaw12_GateOrders_53
noncomputable def c_towpathlaw12_GateOrders_55 : Code := Code.l c_towpathlaw12_GateOrders_54
noncomputable def c_towpathlaw12_GateOrders_56 : Code := Code.l c_towpathlaw12_GateOrders_55
noncomputable def c_towpathlaw12_GateOrders_57 : Code := Code.l c_towpathlaw12_GateOrders_56
noncomputable def c_towpathlaw12_GateOrders_58 : Code := Code.l c_towpathlaw12_GateOrders_57
noncomputable def r_towpathlaw12_GateOrders_58 : Array Oper := Code.ops c_towpathlaw12_GateOrders_58
noncomputable def c_towpathlaw12_GateOrders_60 : Code := Code.r c_towpathlaw12_GateOrders_57
noncomputable def c_towpathlaw12_GateOrders_61 : Code := Code.l c_towpathlaw12_GateOrders_60
noncomputable def c_towpathlaw12_GateOrders_62 : Code := Code.r c_towpathlaw12_GateOrders_60
noncomputable def c_towpathlaw12_GateOrders_63 : Code := Code.r c_towpathlaw12_GateOrders_56
noncomputable def c_towpathlaw12_GateOrders_64 : Code := Code.l c_towpathlaw12_GateOrders_63
noncomputable def c_towpathlaw12_GateOrders_65 : Code := Code.l c_towpathlaw12_GateOrders_64
noncomputable def c_towpathlaw12_GateOrders_66 : Code := Code.l c_towpathlaw12_GateOrders_65
noncomputable def r_towpathlaw12_GateOrders_66 : Array Oper := Code.ops c_towpathlaw12_GateOrders_66
noncomputable def c_towpathlaw12_GateOrders_68 : Code := Code.r c_towpathlaw12_GateOrders_65
noncomputable def c_towpathlaw12_GateOrders_69 : Code := Code.l c_towpathlaw12_GateOrders_68
noncomputable def r_towpathlaw12_GateOrders_69 : Array Oper := Code.ops c_towpathlaw12_GateOrders_69
noncomputable def c_towpathlaw12_GateOrders_71 : Code := Code.r c_towpathlaw12_GateOrders_68
noncomputable def c_towpathlaw12_GateOrders_72 : Code := Code.r c_towpathlaw12_GateOrders_64
noncomputable def r_towpathlaw12_GateOrders_72 : Array Oper := Code.ops c_towpathlaw12_GateOrders_72
noncomputable def c_towpathlaw12_GateOrders_74 : Code := Code.r c_towpathlaw12_GateOrders_53
noncomputable def c_towpathlaw12_GateOrders_75 : Code := Code.l c_towpathlaw12_GateOrders_74
noncomputable def r_towpathlaw12_GateOrders_75 : Array Oper := Code.ops c_towpathlaw12_GateOrders_75
noncomputable def c_towpathlaw12_GateOrders_77 : Code := Code.r c_towpathlaw12_GateOrders_74
noncomputable def c_towpathlaw12_GateOrders_78 : Code := Code.l c_towpathlaw12_GateOrders_77
noncomputable def r_towpathlaw12_GateOrders_78 : Array Oper := Code.ops c_towpathlaw12_GateOrders_78
noncomputable def c_towpathlaw12_GateOrders_80 : Code := Code.r c_towpathlaw12_GateOrders_77
noncomputable def c_towpathlaw12_GateOrders_81 : Code := Code.l c_towpathlaw12_GateOrders_80
noncomputable def r_towpathlaw12_GateOrders_81 : Array Oper := Code.ops c_towpathlaw12_GateOrders_81
noncomputable def c_towpathlaw12_GateOrders_83 : Code := Code.r c_towpathlaw12_GateOrders_80
noncomputable def c_towpathlaw12_GateOrders_84 : Code := Code.l c_towpathlaw12_GateOrders_83
noncomputable def r_towpathlaw12_GateOrders_84 : Array Oper := Code.ops c_towpathlaw12_GateOrders_84
noncomputable def c_towpathlaw12_GateOrders_86 : Code := Code.r c_towpathlaw12_GateOrders_83
noncomputable def c_towpathlaw12_GateOrders_87 : Code := Code.l c_towpathlaw12_GateOrders_86
noncomputable def c_towpathlaw12_GateOrders_88 : Code := Code.l c_towpathlaw12_GateOrders_87
noncomputable def c_towpathlaw12_GateOrders_89 : Code := Code.l c_towpathlaw12_GateOrders_88
noncomputable def c_towpathlaw12_GateOrders_90 : Code := Code.l c_towpathlaw12_GateOrders_89
noncomputable def c_towpathlaw12_GateOrders_91 : Code := Code.l c_towpathlaw12_GateOrders_90
noncomputable def r_towpathlaw12_GateOrders_91 : Array Oper := Code.ops c_towpathlaw12_GateOrders_91
noncomputable def c_towpathlaw12_GateOrders_93 : Code := Code.r c_towpathlaw12_GateOrders_90
noncomputable def c_towpathlaw12_GateOrders_94 : Code := Code.l c_towpathlaw12_GateOrders_93
noncomputable def c_towpathlaw12_GateOrders_95 : Code := Code.r c_towpathlaw12_GateOrders_93
noncomputable def c_towpathlaw12_GateOrders_96 : Code := Code.r c_towpathlaw12_GateOrders_89
noncomputable def c_towpathlaw12_GateOrders_97 : Code := Code.l c_towpathlaw12_GateOrders_96
noncomputable def r_towpathlaw12_GateOrders_97 : Array Oper := Code.ops c_towpathlaw12_GateOrders_97
noncomputable def c_towpathlaw12_GateOrders_99 : Code := Code.r c_towpathlaw12_GateOrders_86
noncomputable def c_towpathlaw12_GateOrders_100 : Code := Code.l c_towpathlaw12_GateOrders_99
noncomputable def c_towpathlaw12_GateOrders_101 : Code := Code.l c_towpathlaw12_GateOrders_100
noncomputable def r_towpathlaw12_GateOrders_101 : Array Oper := Code.ops c_towpathlaw12_GateOrders_101
noncomputable def c_towpathlaw12_GateOrders_103 : Code := Code.r c_towpathlaw12_GateOrders_100
noncomputable def c_towpathlaw12_GateOrders_104 : Code := Code.l c_towpathlaw12_GateOrders_103
noncomputable def c_towpathlaw12_GateOrders_105 : Code := Code.l c_towpathlaw12_GateOrders_104
noncomputable def r_towpathlaw12_GateOrders_105 : Array Oper := Code.ops c_towpathlaw12_GateOrders_105
noncomputable def c_towpathlaw12_GateOrders_107 : Code := Code.r c_towpathlaw12_GateOrders_104
noncomputable def c_towpathlaw12_GateOrders_108 : Code := Code.r c_towpathlaw12_GateOrders_103
noncomputable def c_towpathlaw12_GateOrders_109 : Code := Code.r c_towpathlaw12_GateOrders_99
noncomputable def c_towpathlaw12_GateOrders_110 : Code := Code.l c_towpathlaw12_GateOrders_109
noncomputable def r_towpathlaw12_GateOrders_110 : Array Oper := Code.ops c_towpathlaw12_GateOrders_110
noncomputable def c_towpathlaw12_GateOrders_112 : Code := Code.r c_towpathlaw12_GateOrders_109
noncomputable def c_towpathlaw12_GateOrders_113 : Code := Code.l c_towpathlaw12_GateOrders_112
noncomputable def r_towpathlaw12_GateOrders_113 : Array Oper := Code.ops c_towpathlaw12_GateOrders_113
noncomputable def c_towpathlaw12_GateOrders_115 : Code := Code.r c_towpathlaw12_GateOrders_112
noncomputable def c_towpathlaw12_GateOrders_116 : Code := Code.l c_towpathlaw12_GateOrders_115
noncomputable def c_towpathlaw12_GateOrders_117 : Code := Code.l c_towpathlaw12_GateOrders_116
noncomputable def r_towpathlaw12_GateOrders_117 : Array Oper := Code.ops c_towpathlaw12_GateOrders_117
noncomputable def c_towpathlaw12_GateOrders_119 : Code := Code.r c_towpathlaw12_GateOrders_116
noncomputable def c_towpathlaw12_GateOrders_120 : Code := Code.l c_towpathlaw12_GateOrders_119
noncomputable def c_towpathlaw12_GateOrders_121 : Code := Code.l c_towpathlaw12_GateOrders_120
noncomputable def c_towpathlaw12_GateOrders_122 : Code := Code.l c_towpathlaw12_GateOrders_121
noncomputable def c_towpathlaw12_GateOrders_123 : Code := Code.l c_towpathlaw12_GateOrders_122
noncomputable def r_towpathlaw12_GateOrders_123 : Array Oper := Code.ops c_towpathlaw12_GateOrders_123
noncomputable def c_towpathlaw12_GateOrders_125 : Code := Code.r c_towpathlaw12_GateOrders_122
noncomputable def c_towpathlaw12_GateOrders_126 : Code := Code.l c_towpathlaw12_GateOrders_125
noncomputable def c_towpathlaw12_GateOrders_127 : Code := Code.r c_towpathlaw12_GateOrders_125
noncomputable def c_towpathlaw12_GateOrders_128 : Code := Code.r c_towpathlaw12_GateOrders_121
noncomputable def c_towpathlaw12_GateOrders_129 : Code := Code.l c_towpathlaw12_GateOrders_128
noncomputable def c_towpathlaw12_GateOrders_130 : Code := Code.l c_towpathlaw12_GateOrders_129
noncomputable def c_towpathlaw12_GateOrders_131 : Code := Code.l c_towpathlaw12_GateOrders_130
noncomputable def c_towpathlaw12_GateOrders_132 : Code := Code.l c_towpathlaw12_GateOrders_131
noncomputable def r_towpathlaw12_GateOrders_132 : Array Oper := Code.ops c_towpathlaw12_GateOrders_132
noncomputable def c_towpathlaw12_GateOrders_134 : Code := Code.r c_towpathlaw12_GateOrders_131
noncomputable def c_towpathlaw12_GateOrders_135 : Code := Code.l c_towpathlaw12_GateOrders_134
noncomputable def c_towpathlaw12_GateOrders_136 : Code := Code.l c_towpathlaw12_GateOrders_135
noncomputable def r_towpathlaw12_GateOrders_136 : Array Oper := Code.ops c_towpathlaw12_GateOrders_136
noncomputable def c_towpathlaw12_GateOrders_138 : Code := Code.r c_towpathlaw12_GateOrders_135
noncomputable def c_towpathlaw12_GateOrders_139 : Code := Code.r c_towpathlaw12_GateOrders_134
noncomputable def c_towpathlaw12_GateOrders_140 : Code := Code.r c_towpathlaw12_GateOrders_130
noncomputable def r_towpathlaw12_GateOrders_140 : Array Oper := Code.ops c_towpathlaw12_GateOrders_140
noncomputable def c_towpathlaw12_GateOrders_142 : Code := Code.r c_towpathlaw12_GateOrders_128
noncomputable def r_towpathlaw12_GateOrders_142 : Array Oper := Code.ops c_towpathlaw12_GateOrders_142
noncomputable def c_towpathlaw12_GateOrders_144 : Code := Code.r c_towpathlaw12_GateOrders_115
noncomputable def c_towpathlaw12_GateOrders_145 : Code := Code.l c_towpathlaw12_GateOrders_144
noncomputable def r_towpathlaw12_GateOrders_145 : Array Oper := Code.ops c_towpathlaw12_GateOrders_145
noncomputable def c_towpathlaw12_GateOrders_147 : Code := Code.r c_towpathlaw12_GateOrders_144
noncomputable def c_towpathlaw12_GateOrders_148 : Code := Code.l c_towpathlaw12_GateOrders_147
noncomputable def c_towpathlaw12_GateOrders_149 : Code := Code.l c_towpathlaw12_GateOrders_148
noncomputable def r_towpathlaw12_GateOrders_149 : Array Oper := Code.ops c_towpathlaw12_GateOrders_149
noncomputable def c_towpathlaw12_GateOrders_151 : Code := Code.r c_towpathlaw12_GateOrders_148
noncomputable def c_towpathlaw12_GateOrders_152 : Code := Code.l c_towpathlaw12_GateOrders_151
noncomputable def c_towpathlaw12_GateOrders_153 : Code := Code.l c_towpathlaw12_GateOrders_152
noncomputable def c_towpathlaw12_GateOrders_154 : Code := Code.l c_towpathlaw12_GateOrders_153
noncomputable def c_towpathlaw12_GateOrders_155 : Code := Code.l c_towpathlaw12_GateOrders_154
noncomputable def r_towpathlaw12_GateOrders_155 : Array Oper := Code.ops c_towpathlaw12_GateOrders_155
noncomputable def c_towpathlaw12_GateOrders_157 : Code := Code.r c_towpathlaw12_GateOrders_154
noncomputable def c_towpathlaw12_GateOrders_158 : Code := Code.l c_towpathlaw12_GateOrders_157
noncomputable def c_towpathlaw12_GateOrders_159 : Code := Code.r c_towpathlaw12_GateOrders_157
noncomputable def c_towpathlaw12_GateOrders_160 : Code := Code.r c_towpathlaw12_GateOrders_153
noncomputable def c_towpathlaw12_GateOrders_161 : Code := Code.l c_towpathlaw12_GateOrders_160
noncomputable def c_towpathlaw12_GateOrders_162 : Code := Code.l c_towpathlaw12_GateOrders_161
noncomputable def c_towpathlaw12_GateOrders_163 : Code := Code.l c_towpathlaw12_GateOrders_162
noncomputable def c_towpathlaw12_GateOrders_164 : Code := Code.l c_towpathlaw12_GateOrders_163
noncomputable def r_towpathlaw12_GateOrders_164 : Array Oper := Code.ops c_towpathlaw12_GateOrders_164
noncomputable def c_towpathlaw12_GateOrders_166 : Code := Code.r c_towpathlaw12_GateOrders_163
noncomputable def c_towpathlaw12_GateOrders_167 : Code := Code.l c_towpathlaw12_GateOrders_166
noncomputable def c_towpathlaw12_GateOrders_168 : Code := Code.l c_towpathlaw12_GateOrders_167
noncomputable def r_towpathlaw12_GateOrders_168 : Array Oper := Code.ops c_towpathlaw12_GateOrders_168
noncomputable def c_towpathlaw12_GateOrders_170 : Code := Code.r c_towpathlaw12_GateOrders_167
noncomputable def c_towpathlaw12_GateOrders_171 : Code := Code.r c_towpathlaw12_GateOrders_166
noncomputable def c_towpathlaw12_GateOrders_172 : Code := Code.r c_towpathlaw12_GateOrders_162
noncomputable def c_towpathlaw12_GateOrders_173 : Code := Code.l c_towpathlaw12_GateOrders_172
noncomputable def r_towpathlaw12_GateOrders_173 : Array Oper := Code.ops c_towpathlaw12_GateOrders_173
noncomputable def c_towpathlaw12_GateOrders_175 : Code := Code.r c_towpathlaw12_GateOrders_172
noncomputable def c_towpathlaw12_GateOrders_176 : Code := Code.l c_towpathlaw12_GateOrders_175
noncomputable def r_towpathlaw12_GateOrders_176 : Array Oper := Code.ops c_towpathlaw12_GateOrders_176
noncomputable def c_towpathlaw12_GateOrders_178 : Code := Code.r c_towpathlaw12_GateOrders_175
noncomputable def c_towpathlaw12_GateOrders_179 : Code := Code.r c_towpathlaw12_GateOrders_160
noncomputable def r_towpathlaw12_GateOrders_179 : Array Oper := Code.ops c_towpathlaw12_GateOrders_179
noncomputable def c_towpathlaw12_GateOrders_181 : Code := Code.r c_towpathlaw12_GateOrders_147
noncomputable def c_towpathlaw12_GateOrders_182 : Code := Code.l c_towpathlaw12_GateOrders_181
noncomputable def r_towpathlaw12_GateOrders_182 : Array Oper := Code.ops c_towpathlaw12_GateOrders_182
noncomputable def c_towpathlaw12_GateOrders_184 : Code := Code.r c_towpathlaw12_GateOrders_181
noncomputable def c_towpathlaw12_GateOrders_185 : Code := Code.l c_towpathlaw12_GateOrders_184
noncomputable def r_towpathlaw12_GateOrders_185 : Array Oper := Code.ops c_towpathlaw12_GateOrders_185
noncomputable def c_towpathlaw12_GateOrders_187 : Code := Code.r c_towpathlaw12_GateOrders_184
noncomputable def c_towpathlaw12_GateOrders_188 : Code := Code.l c_towpathlaw12_GateOrders_187
noncomputable def c_towpathlaw12_GateOrders_189 : Code := Code.l c_towpathlaw12_GateOrders_188
noncomputable def r_towpathlaw12_GateOrders_189 : Array Oper := Code.ops c_towpathlaw12_GateOrders_189
noncomputable def c_towpathlaw12_GateOrders_191 : Code := Code.r c_towpathlaw12_GateOrders_188
noncomputable def c_towpathlaw12_GateOrders_192 : Code := Code.r c_towpathlaw12_GateOrders_187
noncomputable def c_towpathlaw12_GateOrders_193 : Code := Code.r c_towpathlaw12_GateOrders_45
noncomputable def r_towpathlaw12_GateOrders_193 : Array Oper := Code.ops c_towpathlaw12_GateOrders_193
noncomputable def c_towpathlaw12_GateOrders_195 : Code := Code.r c_towpathlaw12_GateOrders_32
noncomputable def c_towpathlaw12_GateOrders_196 : Code := Code.l c_towpathlaw12_GateOrders_195
noncomputable def r_towpathlaw12_GateOrders_196 : Array Oper := Code.ops c_towpathlaw12_GateOrders_196
noncomputable def c_towpathlaw12_GateOrders_198 : Code := Code.r c_towpathlaw12_GateOrders_195
def o_towpathlaw12_GateOrders_164 : List Nat := [0, 1, 3, 4, 5, 6, 2, 7]

set_option maxRecDepth 100000 in
set_option maxHeartbeats 4000000 in
theorem S_towpathlaw12_GateOrders {order : Slc} {w : World} {R : Bool → World → Prop} (h : F_towpathlaw12_GateOrders order R w) : C_towpathlaw12_GateOrders order w R := by
  unfold F_towpathlaw12_GateOrders at h
  unfold C_towpathlaw12_GateOrders
  refine Calls.mono (calls_of_wpE (args := [Value.slice order.ptr order.len order.cap]) (R := fun v w' => ∃ (r0 : Bool), v = Value.bool r0 ∧ R r0 w') Try.func6 (c := c_towpathlaw12_GateOrders_0) (by kernel_rfl) 218 (by kernel_rfl) (by kernel_rfl) [(0, Value.slice order.ptr order.len order.cap)] (by kernel_rfl) ?_) ?_
  · refine wpE_seq (x := c_towpathlaw12_GateOrders_1) (y := c_towpathlaw12_GateOrders_3) (by kernel_rfl) ?_
    refine wpE_region (id := 0) (ops := r_towpathlaw12_GateOrders_1) (by kernel_rfl) ?_
    refine reg_run [.plain] 1 [(0, [], Value.slice order.ptr order.len order.cap)] (by kernel_rfl) (by kernel_rfl) ?_
    refine reg_end [(0, Value.slice order.ptr order.len order.cap)] (by kernel_rfl) (by kernel_rfl) ?_
    change WpE _ _ c_towpathlaw12_GateOrders_3 _ _ _
    refine wpE_seq (x := c_towpathlaw12_GateOrders_4) (y := c_towpathlaw12_GateOrders_13) (by kernel_rfl) ?_
    refine wpE_seq (x := c_towpathlaw12_GateOrders_5) (y := c_towpathlaw12_GateOrders_7) (by kernel_rfl) ?_
    refine wpE_region (id := 1) (ops := r_towpathlaw12_GateOrders_5) (by kernel_rfl) ?_
    refine reg_run [] 0 [(0, [], Value.slice order.ptr order.len order.cap)] (by kernel_rfl) (by kernel_rfl) ?_
    refine reg_enter (op := (Go.Op.call (Go.Call.mk (Go.Callee.value (Go.Operand.func 29)) #[] #[]))) (ty := 4) (dst := some 21) 29 #[] (by kernel_rfl) (fun ww => by kernel_rfl) (Calls.mono h ?_)
    rintro _ w1 ⟨v21, rfl, h⟩
    refine ⟨_, rfl, ?_⟩
    refine reg_run [.plain, .plain, .plain, .plain, .plain, .pick] 7 [(0, [], Value.slice order.ptr order.len order.cap), (27, [], Value.bool ((!v21) || (decide (((order.len : Nat) : Int) > 120))))] (by kernel_rfl) (by kernel_rfl) ?_
    refine reg_end [(0, Value.slice order.ptr order.len order.cap), (27, Value.bool ((!v21) || (decide (((order.len : Nat) : Int) > 120))))] (by kernel_rfl) (by kernel_rfl) ?_
    change WpE _ _ c_towpathlaw12_GateOrders_7 _ _ _
    refine wpE_cond (o := (Operand.tmp 27)) (b := ((!v21) || (decide (((order.len : Nat) : Int) > 120)))) (x := c_towpathlaw12_GateOrders_8) (y := c_towpathlaw12_GateOrders_12) (by kernel_rfl) (by kernel_rfl) (fun hb => ?_) (fun hb => ?_)
    · replace h := h.1 hb
      refine wpE_seq (x := c_towpathlaw12_GateOrders_9) (y := c_towpathlaw12_GateOrders_11) (by kernel_rfl) ?_
      refine wpE_region (id := 2) (ops := r_towpathlaw12_GateOrders_9) (by kernel_rfl) ?_
      refine reg_run [] 0 [] (by kernel_rfl) (by kernel_rfl) ?_
      refine reg_enter (op := (Go.Op.call (Go.Call.mk (Go.Callee.value (Go.Operand.func 29)) #[] #[]))) (ty := 4) (dst := some 28) 29 #[] (by kernel_rfl) (fun ww => by kernel_rfl) (Calls.mono h ?_)
      rintro _ w2 ⟨v28, rfl, h⟩
      refine ⟨_, rfl, ?_⟩
      refine reg_run [.plain] 2 [(2, [], Value.bool v28)] (by kernel_rfl) (by kernel_rfl) ?_
      refine reg_end [(2, Value.bool v28)] (by kernel_rfl) (by kernel_rfl) ?_
      change WpE _ _ c_towpathlaw12_GateOrders_11 _ _ _
      refine wpE_ret (by kernel_rfl) ?_
      repeat (first | refine seqQ_ret ?_ | refine blockQ_ret ?_ | refine loopQ_ret ?_ | refine cutQ_ret ?_)
      exact retS (rs := [(Go.ResultVar.tmp 2)]) (v := Value.bool v28) (by kernel_rfl) (⟨by kernel_rfl, trivial⟩) ⟨v28, rfl, h⟩
    · replace h := h.2 hb
      refine wpE_skip (by kernel_rfl) ?_
      change WpE _ _ c_towpathlaw12_GateOrders_13 _ _ _
      refine wpE_seq (x := c_towpathlaw12_GateOrders_14) (y := c_towpathlaw12_GateOrders_16) (by kernel_rfl) ?_
      refine wpE_region (id := 3) (ops := r_towpathlaw12_GateOrders_14) (by kernel_rfl) ?_
      refine reg_run [] 0 [(0, [], Value.slice order.ptr order.len order.cap)] (by kernel_rfl) (by kernel_rfl) ?_
      refine reg_enter (op := (Go.Op.call (Go.Call.mk (Go.Callee.value (Go.Operand.func 30)) #[(Go.Operand.const (Go.Value.int Go.IntKind.i64 0)), (Go.Operand.const (Go.Value.slice none 0 0))] #[3, 49]))) (ty := 45) (dst := some 30) 30 #[Value.int .i64 0, Value.slice none 0 0] (by kernel_rfl) (fun ww => by kernel_rfl) (Calls.mono h ?_)
      rintro _ w3 ⟨g, e, rfl, h⟩
      refine ⟨_, rfl, ?_⟩
      refine reg_run [.plain, .plain, .plain, .plain, .plain] 6 [(0, [], Value.slice order.ptr order.len order.cap), (3, [], Value.pointer g), (4, [], Value.int .i64 e)] (by kernel_rfl) (by kernel_rfl) ?_
      refine reg_end [(0, Value.slice order.ptr order.len order.cap), (3, Value.pointer g), (4, Value.int .i64 e)] (by kernel_rfl) (by kernel_rfl) ?_
      change WpE _ _ c_towpathlaw12_GateOrders_16 _ _ _
      refine wpE_seq (x := c_towpathlaw12_GateOrders_17) (y := c_towpathlaw12_GateOrders_26) (by kernel_rfl) ?_
      refine wpE_seq (x := c_towpathlaw12_GateOrders_18) (y := c_towpathlaw12_GateOrders_20) (by kernel_rfl) ?_
      refine wpE_region (id := 4) (ops := r_towpathlaw12_GateOrders_18) (by kernel_rfl) ?_
      refine reg_run [.plain, .plain] 2 [(0, [], Value.slice order.ptr order.len order.cap), (3, [], Value.pointer g), (34, [], Value.bool (e != 0))] (by kernel_rfl) (by kernel_rfl) ?_
      refine reg_end [(0, Value.slice order.ptr order.len order.cap), (3, Value.pointer g), (34, Value.bool (e != 0))] (by kernel_rfl) (by kernel_rfl) ?_
      change WpE _ _ c_towpathlaw12_GateOrders_20 _ _ _
      refine wpE_cond (o := (Operand.tmp 34)) (b := (e != 0)) (x := c_towpathlaw12_GateOrders_21) (y := c_towpathlaw12_GateOrders_25) (by kernel_rfl) (by kernel_rfl) (fun hb => ?_) (fun hb => ?_)
      · replace h := h.1 hb
        refine wpE_seq (x := c_towpathlaw12_GateOrders_22) (y := c_towpathlaw12_GateOrders_24) (by kernel_rfl) ?_
        refine wpE_region (id := 5) (ops := r_towpathlaw12_GateOrders_22) (by kernel_rfl) ?_
        refine reg_run [.plain] 1 [(2, [], Value.bool false)] (by kernel_rfl) (by kernel_rfl) ?_
        refine reg_end [(2, Value.bool false)] (by kernel_rfl) (by kernel_rfl) ?_
        change WpE _ _ c_towpathlaw12_GateOrders_24 _ _ _
        refine wpE_ret (by kernel_rfl) ?_
        repeat (first | refine seqQ_ret ?_ | refine blockQ_ret ?_ | refine loopQ_ret ?_ | refine cutQ_ret ?_)
        exact retS (rs := [(Go.ResultVar.tmp 2)]) (v := Value.bool false) (by kernel_rfl) (⟨by kernel_rfl, trivial⟩) ⟨false, rfl, h⟩
      · replace h := h.2 hb
        refine wpE_skip (by kernel_rfl) ?_
        change WpE _ _ c_towpathlaw12_GateOrders_26 _ _ _
        refine wpE_seq (x := c_towpathlaw12_GateOrders_27) (y := c_towpathlaw12_GateOrders_29) (by kernel_rfl) ?_
        refine wpE_region (id := 6) (ops := r_towpathlaw12_GateOrders_27) (by kernel_rfl) ?_
        refine reg_run [.plain, .plain, .plain] 3 [(0, [], Value.slice order.ptr order.len order.cap), (3, [], Value.pointer g), (5, [], Value.int .i64 ((order.len : Nat) : Int))] (by kernel_rfl) (by kernel_rfl) ?_
        refine reg_end [(0, Value.slice order.ptr order.len order.cap), (3, Value.pointer g), (5, Value.int .i64 ((order.len : Nat) : Int))] (by kernel_rfl) (by kernel_rfl) ?_
        change WpE _ _ c_towpathlaw12_GateOrders_29 _ _ _
        refine wpE_seq (x := c_towpathlaw12_GateOrders_30) (y := c_towpathlaw12_GateOrders_32) (by kernel_rfl) ?_
        refine wpE_region (id := 7) (ops := r_towpathlaw12_GateOrders_30) (by kernel_rfl) ?_
        refine reg_run [.plain, .plain] 2 [(0, [], Value.slice order.ptr order.len order.cap), (3, [], Value.pointer g), (5, [], Value.int .i64 ((order.len : Nat) : Int)), (38, [], Value.int .i64 (IntKind.i64.wrap (((order.len : Nat) : Int) + 2)))] (by kernel_rfl) (by kernel_rfl) ?_
        obtain ⟨h0, h1, h2, h⟩ := h
        refine reg_makeSlice (t := 47) (e := 4) (lo := (Go.Operand.tmp 38)) (co := (Go.Operand.tmp 38)) (l := (IntKind.i64.wrap (((order.len : Nat) : Int) + 2))) (c := (IntKind.i64.wrap (((order.len : Nat) : Int) + 2))) (sz := 1) (by_ := 1) (zs := [Value.bool false]) (ty := 47) (dst := some 39) (by kernel_rfl) (by kernel_rfl) (by kernel_rfl) (by kernel_rfl) (by kernel_rfl) (by kernel_rfl) (by kernel_rfl) (by kernel_rfl) (by kernel_rfl) h0 h1 h2 (fun b_ w4 hb hw => ?_)
        replace h := h b_ w4 hb hw
        clear hb hw
        refine reg_run [.plain] 4 [(0, [], Value.slice order.ptr order.len order.cap), (3, [], Value.pointer g), (5, [], Value.int .i64 ((order.len : Nat) : Int)), (6, [], Value.slice (some ⟨b_, 0, none⟩) ((IntKind.i64.wrap (((order.len : Nat) : Int) + 2)).toNat) ((IntKind.i64.wrap (((order.len : Nat) : Int) + 2)).toNat))] (by kernel_rfl) (by kernel_rfl) ?_
        refine reg_end [(0, Value.slice order.ptr order.len order.cap), (3, Value.pointer g), (5, Value.int .i64 ((order.len : Nat) : Int)), (6, Value.slice (some ⟨b_, 0, none⟩) ((IntKind.i64.wrap (((order.len : Nat) : Int) + 2)).toNat) ((IntKind.i64.wrap (((order.len : Nat) : Int) + 2)).toNat))] (by kernel_rfl) (by kernel_rfl) ?_
        change WpE _ _ c_towpathlaw12_GateOrders_32 _ _ _
        refine wpE_seq (x := c_towpathlaw12_GateOrders_33) (y := c_towpathlaw12_GateOrders_195) (by kernel_rfl) ?_
        refine wpE_seq (x := c_towpathlaw12_GateOrders_34) (y := c_towpathlaw12_GateOrders_36) (by kernel_rfl) ?_
        refine wpE_region (id := 8) (ops := r_towpathlaw12_GateOrders_34) (by kernel_rfl) ?_
        refine reg_run [.plain] 1 [(0, [], Value.slice order.ptr order.len order.cap), (3, [], Value.pointer g), (5, [], Value.int .i64 ((order.len : Nat) : Int)), (6, [], Value.slice (some ⟨b_, 0, none⟩) ((IntKind.i64.wrap (((order.len : Nat) : Int) + 2)).toNat) ((IntKind.i64.wrap (((order.len : Nat) : Int) + 2)).toNat)), (7, [], Value.int .i64 0)] (by kernel_rfl) (by kernel_rfl) ?_
        refine reg_end [(0, Value.slice order.ptr order.len order.cap), (3, Value.pointer g), (5, Value.int .i64 ((order.len : Nat) : Int)), (6, Value.slice (some ⟨b_, 0, none⟩) ((IntKind.i64.wrap (((order.len : Nat) : Int) + 2)).toNat) ((IntKind.i64.wrap (((order.len : Nat) : Int) + 2)).toNat)), (7, Value.int .i64 0)] (by kernel_rfl) (by kernel_rfl) ?_
        change WpE _ _ c_towpathlaw12_GateOrders_36 _ _ _
        refine wpE_block (id := 0) (x := c_towpathlaw12_GateOrders_37) (by kernel_rfl) ?_
        obtain ⟨I, μ, h0, hr⟩ := h
        refine wpE_loop (x := c_towpathlaw12_GateOrders_38) (by kernel_rfl) (fun m l w => ∃ (i : Int), l = [(0, Value.slice order.ptr order.len order.cap), (3, Value.pointer g), (5, Value.int .i64 ((order.len : Nat) : Int)), (6, Value.slice (some ⟨b_, 0, none⟩) ((IntKind.i64.wrap (((order.len : Nat) : Int) + 2)).toNat) ((IntKind.i64.wrap (((order.len : Nat) : Int) + 2)).toNat)), (7, Value.int .i64 i)] ∧ I i w ∧ μ i w = m) (l' := [(0, Value.slice order.ptr order.len order.cap), (3, Value.pointer g), (5, Value.int .i64 ((order.len : Nat) : Int)), (6, Value.slice (some ⟨b_, 0, none⟩) ((IntKind.i64.wrap (((order.len : Nat) : Int) + 2)).toNat) ((IntKind.i64.wrap (((order.len : Nat) : Int) + 2)).toNat)), (7, Value.int .i64 0)]) (Sub.mk (by kernel_rfl)) ⟨0, rfl, h0, rfl⟩ ?_
        rintro _ _ w5 ⟨i, rfl, hI, rfl⟩
        obtain ⟨again_, again__h, h⟩ : ∃ again_ : Int → World → Prop, (∀ i' w', again_ i' w' → I i' w' ∧ μ i' w' < μ i w5) ∧ F_towpathlaw12_GateOrders_L0 order R g b_ again_ i w5 := ⟨_, fun _ _ h => h, hr i w5 hI⟩
        clear h0 hI
        unfold F_towpathlaw12_GateOrders_L0 at h
        refine wpE_seq (x := c_towpathlaw12_GateOrders_39) (y := c_towpathlaw12_GateOrders_45) (by kernel_rfl) ?_
        refine wpE_seq (x := c_towpathlaw12_GateOrders_40) (y := c_towpathlaw12_GateOrders_42) (by kernel_rfl) ?_
        refine wpE_region (id := 9) (ops := r_towpathlaw12_GateOrders_40) (by kernel_rfl) ?_
        refine reg_run [.plain, .plain, .plain] 3 [(0, [], Value.slice order.ptr order.len order.cap), (3, [], Value.pointer g), (5, [], Value.int .i64 ((order.len : Nat) : Int)), (6, [], Value.slice (some ⟨b_, 0, none⟩) ((IntKind.i64.wrap (((order.len : Nat) : Int) + 2)).toNat) ((IntKind.i64.wrap (((order.len : Nat) : Int) + 2)).toNat)), (7, [], Value.int .i64 i), (42, [], Value.bool (decide (i < ((order.len : Nat) : Int))))] (by kernel_rfl) (by kernel_rfl) ?_
        refine reg_end [(0, Value.slice order.ptr order.len order.cap), (3, Value.pointer g), (5, Value.int .i64 ((order.len : Nat) : Int)), (6, Value.slice (some ⟨b_, 0, none⟩) ((IntKind.i64.wrap (((order.len : Nat) : Int) + 2)).toNat) ((IntKind.i64.wrap (((order.len : Nat) : Int) + 2)).toNat)), (7, Value.int .i64 i), (42, Value.bool (decide (i < ((order.len : Nat) : Int))))] (by kernel_rfl) (by kernel_rfl) ?_
        change WpE _ _ c_towpathlaw12_GateOrders_42 _ _ _
        refine wpE_cond (o := (Operand.tmp 42)) (b := (decide (i < ((order.len : Nat) : Int)))) (x := c_towpathlaw12_GateOrders_43) (y := c_towpathlaw12_GateOrders_44) (by kernel_rfl) (by kernel_rfl) (fun hb => ?_) (fun hb => ?_)
        · replace h := h.1 hb
          refine wpE_skip (by kernel_rfl) ?_
          change WpE _ _ c_towpathlaw12_GateOrders_45 _ _ _
          refine wpE_seq (x := c_towpathlaw12_GateOrders_46) (y := c_towpathlaw12_GateOrders_193) (by kernel_rfl) ?_
          refine wpE_block (id := 1) (x := c_towpathlaw12_GateOrders_47) (by kernel_rfl) ?_
          refine wpE_seq (x := c_towpathlaw12_GateOrders_48) (y := c_towpathlaw12_GateOrders_50) (by kernel_rfl) ?_
          refine wpE_region (id := 11) (ops := r_towpathlaw12_GateOrders_48) (by kernel_rfl) ?_
          refine reg_run [.plain, .plain] 2 [(0, [], Value.slice order.ptr order.len order.cap), (3, [], Value.pointer g), (5, [], Value.int .i64 ((order.len : Nat) : Int)), (6, [], Value.slice (some ⟨b_, 0, none⟩) ((IntKind.i64.wrap (((order.len : Nat) : Int) + 2)).toNat) ((IntKind.i64.wrap (((order.len : Nat) : Int) + 2)).toNat)), (7, [], Value.int .i64 i), (45, [], Value.slice order.ptr order.len order.cap), (46, [], Value.int .i64 i)] (by kernel_rfl) (by kernel_rfl) ?_
          obtain ⟨hp_163, h⟩ := h
          refine reg_conv [(0, [], Value.slice order.ptr order.len order.cap), (3, [], Value.pointer g), (5, [], Value.int .i64 ((order.len : Nat) : Int)), (6, [], Value.slice (some ⟨b_, 0, none⟩) ((IntKind.i64.wrap (((order.len : Nat) : Int) + 2)).toNat) ((IntKind.i64.wrap (((order.len : Nat) : Int) + 2)).toNat)), (7, [], Value.int .i64 i), (45, [], Value.slice (some ⟨(pblk order.ptr), (poff order.ptr), none⟩) order.len order.cap), (46, [], Value.int .i64 i)] (congrArg (fun pp => ([(0, [], Value.slice order.ptr order.len order.cap), (3, [], Value.pointer g), (5, [], Value.int .i64 ((order.len : Nat) : Int)), (6, [], Value.slice (some ⟨b_, 0, none⟩) ((IntKind.i64.wrap (((order.len : Nat) : Int) + 2)).toNat) ((IntKind.i64.wrap (((order.len : Nat) : Int) + 2)).toNat)), (7, [], Value.int .i64 i), (45, [], Value.slice pp order.len order.cap), (46, [], Value.int .i64 i)] : GEnv)) hp_163) ?_
          obtain ⟨h0, h1, h⟩ := h
          refine reg_indexS1 (t := 34) (e := 5) (x := (Go.Operand.tmp 45)) (ix := (Go.Operand.tmp 46)) (b := (pblk order.ptr)) (o := (poff order.ptr)) (l := order.len) (c := order.cap) (k := .i64) (j := i) (ty := 0) (dst := some 47) (by kernel_rfl) (by kernel_rfl) (by kernel_rfl) (by kernel_rfl) (by kernel_rfl) h0 h1 ?_
          refine reg_run [] 3 [(0, [], Value.slice order.ptr order.len order.cap), (3, [], Value.pointer g), (5, [], Value.int .i64 ((order.len : Nat) : Int)), (6, [], Value.slice (some ⟨b_, 0, none⟩) ((IntKind.i64.wrap (((order.len : Nat) : Int) + 2)).toNat) ((IntKind.i64.wrap (((order.len : Nat) : Int) + 2)).toNat)), (7, [], Value.int .i64 i), (47, [], Value.pointer (some ⟨(pblk order.ptr), (poff order.ptr) + i.toNat, none⟩))] (by kernel_rfl) (by kernel_rfl) ?_
          obtain ⟨v48, hc, h⟩ := h
          refine reg_load1 (t := 5) (a := (Go.Operand.tmp 47)) (b := (pblk order.ptr)) (o := ((poff order.ptr) + i.toNat)) (ty := 5) (dst := some 48) (by kernel_rfl) (by kernel_rfl) (by kernel_rfl) hc ?_
          refine reg_run [.plain, .plain, .plain, .plain] 8 [(0, [], Value.slice order.ptr order.len order.cap), (3, [], Value.pointer g), (5, [], Value.int .i64 ((order.len : Nat) : Int)), (6, [], Value.slice (some ⟨b_, 0, none⟩) ((IntKind.i64.wrap (((order.len : Nat) : Int) + 2)).toNat) ((IntKind.i64.wrap (((order.len : Nat) : Int) + 2)).toNat)), (7, [], Value.int .i64 i), (49, [], Value.int .i64 (IntKind.i64.wrap v48)), (52, [], Value.int .i64 (IntKind.i64.wrap (((order.len : Nat) : Int) - i)))] (by kernel_rfl) (by kernel_rfl) ?_
          obtain ⟨h0, h⟩ := h
          refine reg_val (op := (Go.Op.binOp Go.BinOp.rem 3 (Go.Operand.tmp 49) (Go.Operand.tmp 52) 3)) (ty := 3) (dst := some 53) (Value.int .i64 (Int.tmod (IntKind.i64.wrap v48) (IntKind.i64.wrap (((order.len : Nat) : Int) - i)))) (by kernel_rfl) (fun ww => run_rem (by kernel_rfl) (by kernel_rfl) h0 ww) ?_
          refine reg_run [.plain] 10 [(0, [], Value.slice order.ptr order.len order.cap), (3, [], Value.pointer g), (5, [], Value.int .i64 ((order.len : Nat) : Int)), (6, [], Value.slice (some ⟨b_, 0, none⟩) ((IntKind.i64.wrap (((order.len : Nat) : Int) + 2)).toNat) ((IntKind.i64.wrap (((order.len : Nat) : Int) + 2)).toNat)), (7, [], Value.int .i64 i), (8, [], Value.int .i64 (Int.tmod (IntKind.i64.wrap v48) (IntKind.i64.wrap (((order.len : Nat) : Int) - i))))] (by kernel_rfl) (by kernel_rfl) ?_
          refine reg_end [(0, Value.slice order.ptr order.len order.cap), (3, Value.pointer g), (5, Value.int .i64 ((order.len : Nat) : Int)), (6, Value.slice (some ⟨b_, 0, none⟩) ((IntKind.i64.wrap (((order.len : Nat) : Int) + 2)).toNat) ((IntKind.i64.wrap (((order.len : Nat) : Int) + 2)).toNat)), (7, Value.int .i64 i), (8, Value.int .i64 (Int.tmod (IntKind.i64.wrap v48) (IntKind.i64.wrap (((order.len : Nat) : Int) - i))))] (by kernel_rfl) (by kernel_rfl) ?_
          change WpE _ _ c_towpathlaw12_GateOrders_50 _ _ _
          refine wpE_seq (x := c_towpathlaw12_GateOrders_51) (y := c_towpathlaw12_GateOrders_53) (by kernel_rfl) ?_
          refine wpE_region (id := 12) (ops := r_towpathlaw12_GateOrders_51) (by kernel_rfl) ?_
          refine reg_run [.plain] 1 [(0, [], Value.slice order.ptr order.len order.cap), (3, [], Value.pointer g), (5, [], Value.int .i64 ((order.len : Nat) : Int)), (6, [], Value.slice (some ⟨b_, 0, none⟩) ((IntKind.i64.wrap (((order.len : Nat) : Int) + 2)).toNat) ((IntKind.i64.wrap (((order.len : Nat) : Int) + 2)).toNat)), (7, [], Value.int .i64 i), (8, [], Value.int .i64 (Int.tmod (IntKind.i64.wrap v48) (IntKind.i64.wrap (((order.len : Nat) : Int) - i)))), (9, [], Value.int .i64 1)] (by kernel_rfl) (by kernel_rfl) ?_
          refine reg_end [(0, Value.slice order.ptr order.len order.cap), (3, Value.pointer g), (5, Value.int .i64 ((order.len : Nat) : Int)), (6, Value.slice (some ⟨b_, 0, none⟩) ((IntKind.i64.wrap (((order.len : Nat) : Int) + 2)).toNat) ((IntKind.i64.wrap (((order.len : Nat) : Int) + 2)).toNat)), (7, Value.int .i64 i), (8, Value.int .i64 (Int.tmod (IntKind.i64.wrap v48) (IntKind.i64.wrap (((order.len : Nat) : Int) - i)))), (9, Value.int .i64 1)] (by kernel_rfl) (by kernel_rfl) ?_
          change WpE _ _ c_towpathlaw12_GateOrders_53 _ _ _
          refine wpE_seq (x := c_towpathlaw12_GateOrders_54) (y := c_towpathlaw12_GateOrders_74) (by kernel_rfl) ?_
          refine wpE_block (id := 2) (x := c_towpathlaw12_GateOrders_55) (by kernel_rfl) ?_
          obtain ⟨I, μ, h0, hr⟩ := h
          refine wpE_loop (x := c_towpathlaw12_GateOrders_56) (by kernel_rfl) (fun m l w => ∃ (k : Int) (number : Int), l = [(0, Value.slice order.ptr order.len order.cap), (3, Value.pointer g), (5, Value.int .i64 ((order.len : Nat) : Int)), (6, Value.slice (some ⟨b_, 0, none⟩) ((IntKind.i64.wrap (((order.len : Nat) : Int) + 2)).toNat) ((IntKind.i64.wrap (((order.len : Nat) : Int) + 2)).toNat)), (7, Value.int .i64 i), (8, Value.int .i64 k), (9, Value.int .i64 number)] ∧ I k number w ∧ μ k number w = m) (l' := [(0, Value.slice order.ptr order.len order.cap), (3, Value.pointer g), (5, Value.int .i64 ((order.len : Nat) : Int)), (6, Value.slice (some ⟨b_, 0, none⟩) ((IntKind.i64.wrap (((order.len : Nat) : Int) + 2)).toNat) ((IntKind.i64.wrap (((order.len : Nat) : Int) + 2)).toNat)), (7, Value.int .i64 i), (8, Value.int .i64 (Int.tmod (IntKind.i64.wrap v48) (IntKind.i64.wrap (((order.len : Nat) : Int) - i)))), (9, Value.int .i64 1)]) (Sub.mk (by kernel_rfl)) ⟨(Int.tmod (IntKind.i64.wrap v48) (IntKind.i64.wrap (((order.len : Nat) : Int) - i))), 1, rfl, h0, rfl⟩ ?_
          rintro _ _ w6 ⟨k, number, rfl, hI, rfl⟩
          obtain ⟨again_1, again_1_h, h⟩ : ∃ again_1 : Int → Int → World → Prop, (∀ k' number' w', again_1 k' number' w' → I k' number' w' ∧ μ k' number' w' < μ k number w6) ∧ F_towpathlaw12_GateOrders_L1 order R g b_ i again_ again_1 k number w6 := ⟨_, fun _ _ _ h => h, hr k number w6 hI⟩
          clear h0 hI
          unfold F_towpathlaw12_GateOrders_L1 at h
          refine wpE_seq (x := c_towpathlaw12_GateOrders_57) (y := c_towpathlaw12_GateOrders_63) (by kernel_rfl) ?_
          refine wpE_seq (x := c_towpathlaw12_GateOrders_58) (y := c_towpathlaw12_GateOrders_60) (by kernel_rfl) ?_
          refine wpE_region (id := 13) (ops := r_towpathlaw12_GateOrders_58) (by kernel_rfl) ?_
          refine reg_run [.plain, .plain] 2 [(0, [], Value.slice order.ptr order.len order.cap), (3, [], Value.pointer g), (5, [], Value.int .i64 ((order.len : Nat) : Int)), (6, [], Value.slice (some ⟨b_, 0, none⟩) ((IntKind.i64.wrap (((order.len : Nat) : Int) + 2)).toNat) ((IntKind.i64.wrap (((order.len : Nat) : Int) + 2)).toNat)), (7, [], Value.int .i64 i), (8, [], Value.int .i64 k), (9, [], Value.int .i64 number), (54, [], Value.slice (some ⟨b_, 0, none⟩) ((IntKind.i64.wrap (((order.len : Nat) : Int) + 2)).toNat) ((IntKind.i64.wrap (((order.len : Nat) : Int) + 2)).toNat)), (55, [], Value.int .i64 number)] (by kernel_rfl) (by kernel_rfl) ?_
          obtain ⟨h0, h1, h⟩ := h
          refine reg_indexS1 (t := 47) (e := 4) (x := (Go.Operand.tmp 54)) (ix := (Go.Operand.tmp 55)) (b := b_) (o := 0) (l := ((IntKind.i64.wrap (((order.len : Nat) : Int) + 2)).toNat)) (c := ((IntKind.i64.wrap (((order.len : Nat) : Int) + 2)).toNat)) (k := .i64) (j := number) (ty := 0) (dst := some 56) (by kernel_rfl) (by kernel_rfl) (by kernel_rfl) (by kernel_rfl) (by kernel_rfl) h0 h1 ?_
          refine reg_run [] 3 [(0, [], Value.slice order.ptr order.len order.cap), (3, [], Value.pointer g), (5, [], Value.int .i64 ((order.len : Nat) : Int)), (6, [], Value.slice (some ⟨b_, 0, none⟩) ((IntKind.i64.wrap (((order.len : Nat) : Int) + 2)).toNat) ((IntKind.i64.wrap (((order.len : Nat) : Int) + 2)).toNat)), (7, [], Value.int .i64 i), (8, [], Value.int .i64 k), (9, [], Value.int .i64 number), (56, [], Value.pointer (some ⟨b_, 0 + number.toNat, none⟩))] (by kernel_rfl) (by kernel_rfl) ?_
          obtain ⟨v57, hc, h⟩ := h
          refine reg_load1 (t := 4) (a := (Go.Operand.tmp 56)) (b := b_) (o := (0 + number.toNat)) (ty := 4) (dst := some 57) (by kernel_rfl) (by kernel_rfl) (by kernel_rfl) hc ?_
          refine reg_run [.plain, .plain, .plain, .pick] 8 [(0, [], Value.slice order.ptr order.len order.cap), (3, [], Value.pointer g), (5, [], Value.int .i64 ((order.len : Nat) : Int)), (6, [], Value.slice (some ⟨b_, 0, none⟩) ((IntKind.i64.wrap (((order.len : Nat) : Int) + 2)).toNat) ((IntKind.i64.wrap (((order.len : Nat) : Int) + 2)).toNat)), (7, [], Value.int .i64 i), (8, [], Value.int .i64 k), (9, [], Value.int .i64 number), (61, [], Value.bool (v57 || (decide (k > 0))))] (by kernel_rfl) (by kernel_rfl) ?_
          refine reg_end [(0, Value.slice order.ptr order.len order.cap), (3, Value.pointer g), (5, Value.int .i64 ((order.len : Nat) : Int)), (6, Value.slice (some ⟨b_, 0, none⟩) ((IntKind.i64.wrap (((order.len : Nat) : Int) + 2)).toNat) ((IntKind.i64.wrap (((order.len : Nat) : Int) + 2)).toNat)), (7, Value.int .i64 i), (8, Value.int .i64 k), (9, Value.int .i64 number), (61, Value.bool (v57 || (decide (k > 0))))] (by kernel_rfl) (by kernel_rfl) ?_
          change WpE _ _ c_towpathlaw12_GateOrders_60 _ _ _
          refine wpE_cond (o := (Operand.tmp 61)) (b := (v57 || (decide (k > 0)))) (x := c_towpathlaw12_GateOrders_61) (y := c_towpathlaw12_GateOrders_62) (by kernel_rfl) (by kernel_rfl) (fun hb => ?_) (fun hb => ?_)
          · replace h := h.1 hb
            refine wpE_skip (by kernel_rfl) ?_
            change WpE _ _ c_towpathlaw12_GateOrders_63 _ _ _
            refine wpE_block (id := 3) (x := c_towpathlaw12_GateOrders_64) (by kernel_rfl) ?_
            refine wpE_seq_cut (x := c_towpathlaw12_GateOrders_65) (y := c_towpathlaw12_GateOrders_72) (by kernel_rfl) (fun l w => ∃ (k1 : Int), l = [(0, Value.slice order.ptr order.len order.cap), (3, Value.pointer g), (5, Value.int .i64 ((order.len : Nat) : Int)), (6, Value.slice (some ⟨b_, 0, none⟩) ((IntKind.i64.wrap (((order.len : Nat) : Int) + 2)).toNat) ((IntKind.i64.wrap (((order.len : Nat) : Int) + 2)).toNat)), (7, Value.int .i64 i), (8, Value.int .i64 k1), (9, Value.int .i64 number)] ∧ F_towpathlaw12_GateOrders_k2 number again_1 k1 w) ?_ ?_
            · refine wpE_seq (x := c_towpathlaw12_GateOrders_66) (y := c_towpathlaw12_GateOrders_68) (by kernel_rfl) ?_
              refine wpE_region (id := 14) (ops := r_towpathlaw12_GateOrders_66) (by kernel_rfl) ?_
              refine reg_run [.plain, .plain] 2 [(0, [], Value.slice order.ptr order.len order.cap), (3, [], Value.pointer g), (5, [], Value.int .i64 ((order.len : Nat) : Int)), (6, [], Value.slice (some ⟨b_, 0, none⟩) ((IntKind.i64.wrap (((order.len : Nat) : Int) + 2)).toNat) ((IntKind.i64.wrap (((order.len : Nat) : Int) + 2)).toNat)), (7, [], Value.int .i64 i), (8, [], Value.int .i64 k), (9, [], Value.int .i64 number), (62, [], Value.slice (some ⟨b_, 0, none⟩) ((IntKind.i64.wrap (((order.len : Nat) : Int) + 2)).toNat) ((IntKind.i64.wrap (((order.len : Nat) : Int) + 2)).toNat)), (63, [], Value.int .i64 number)] (by kernel_rfl) (by kernel_rfl) ?_
              obtain ⟨h0, h1, h⟩ := h
              refine reg_indexS1 (t := 47) (e := 4) (x := (Go.Operand.tmp 62)) (ix := (Go.Operand.tmp 63)) (b := b_) (o := 0) (l := ((IntKind.i64.wrap (((order.len : Nat) : Int) + 2)).toNat)) (c := ((IntKind.i64.wrap (((order.len : Nat) : Int) + 2)).toNat)) (k := .i64) (j := number) (ty := 0) (dst := some 64) (by kernel_rfl) (by kernel_rfl) (by kernel_rfl) (by kernel_rfl) (by kernel_rfl) h0 h1 ?_
              refine reg_run [] 3 [(0, [], Value.slice order.ptr order.len order.cap), (3, [], Value.pointer g), (5, [], Value.int .i64 ((order.len : Nat) : Int)), (6, [], Value.slice (some ⟨b_, 0, none⟩) ((IntKind.i64.wrap (((order.len : Nat) : Int) + 2)).toNat) ((IntKind.i64.wrap (((order.len : Nat) : Int) + 2)).toNat)), (7, [], Value.int .i64 i), (8, [], Value.int .i64 k), (9, [], Value.int .i64 number), (64, [], Value.pointer (some ⟨b_, 0 + number.toNat, none⟩))] (by kernel_rfl) (by kernel_rfl) ?_
              obtain ⟨v65, hc, h⟩ := h
              refine reg_load1 (t := 4) (a := (Go.Operand.tmp 64)) (b := b_) (o := (0 + number.toNat)) (ty := 4) (dst := some 65) (by kernel_rfl) (by kernel_rfl) (by kernel_rfl) hc ?_
              refine reg_run [.plain] 5 [(0, [], Value.slice order.ptr order.len order.cap), (3, [], Value.pointer g), (5, [], Value.int .i64 ((order.len : Nat) : Int)), (6, [], Value.slice (some ⟨b_, 0, none⟩) ((IntKind.i64.wrap (((order.len : Nat) : Int) + 2)).toNat) ((IntKind.i64.wrap (((order.len : Nat) : Int) + 2)).toNat)), (7, [], Value.int .i64 i), (8, [], Value.int .i64 k), (9, [], Value.int .i64 number), (66, [], Value.bool (!v65))] (by kernel_rfl) (by kernel_rfl) ?_
              refine reg_end [(0, Value.slice order.ptr order.len order.cap), (3, Value.pointer g), (5, Value.int .i64 ((order.len : Nat) : Int)), (6, Value.slice (some ⟨b_, 0, none⟩) ((IntKind.i64.wrap (((order.len : Nat) : Int) + 2)).toNat) ((IntKind.i64.wrap (((order.len : Nat) : Int) + 2)).toNat)), (7, Value.int .i64 i), (8, Value.int .i64 k), (9, Value.int .i64 number), (66, Value.bool (!v65))] (by kernel_rfl) (by kernel_rfl) ?_
              change WpE _ _ c_towpathlaw12_GateOrders_68 _ _ _
              refine wpE_cond (o := (Operand.tmp 66)) (b := (!v65)) (x := c_towpathlaw12_GateOrders_69) (y := c_towpathlaw12_GateOrders_71) (by kernel_rfl) (by kernel_rfl) (fun hb => ?_) (fun hb => ?_)
              · replace h := h.1 hb
                refine wpE_region (id := 15) (ops := r_towpathlaw12_GateOrders_69) (by kernel_rfl) ?_
                refine reg_run [.plain, .plain, .plain] 3 [(0, [], Value.slice order.ptr order.len order.cap), (3, [], Value.pointer g), (5, [], Value.int .i64 ((order.len : Nat) : Int)), (6, [], Value.slice (some ⟨b_, 0, none⟩) ((IntKind.i64.wrap (((order.len : Nat) : Int) + 2)).toNat) ((IntKind.i64.wrap (((order.len : Nat) : Int) + 2)).toNat)), (7, [], Value.int .i64 i), (8, [], Value.int .i64 (IntKind.i64.wrap (k - 1))), (9, [], Value.int .i64 number)] (by kernel_rfl) (by kernel_rfl) ?_
                refine reg_end [(0, Value.slice order.ptr order.len order.cap), (3, Value.pointer g), (5, Value.int .i64 ((order.len : Nat) : Int)), (6, Value.slice (some ⟨b_, 0, none⟩) ((IntKind.i64.wrap (((order.len : Nat) : Int) + 2)).toNat) ((IntKind.i64.wrap (((order.len : Nat) : Int) + 2)).toNat)), (7, Value.int .i64 i), (8, Value.int .i64 (IntKind.i64.wrap (k - 1))), (9, Value.int .i64 number)] (by kernel_rfl) (by kernel_rfl) ?_
                exact ⟨[(0, Value.slice order.ptr order.len order.cap), (3, Value.pointer g), (5, Value.int .i64 ((order.len : Nat) : Int)), (6, Value.slice (some ⟨b_, 0, none⟩) ((IntKind.i64.wrap (((order.len : Nat) : Int) + 2)).toNat) ((IntKind.i64.wrap (((order.len : Nat) : Int) + 2)).toNat)), (7, Value.int .i64 i), (8, Value.int .i64 (IntKind.i64.wrap (k - 1))), (9, Value.int .i64 number)], Sub.mk (by kernel_rfl), (IntKind.i64.wrap (k - 1)), rfl, h⟩
              · replace h := h.2 hb
                refine wpE_skip (by kernel_rfl) ?_
                exact ⟨[(0, Value.slice order.ptr order.len order.cap), (3, Value.pointer g), (5, Value.int .i64 ((order.len : Nat) : Int)), (6, Value.slice (some ⟨b_, 0, none⟩) ((IntKind.i64.wrap (((order.len : Nat) : Int) + 2)).toNat) ((IntKind.i64.wrap (((order.len : Nat) : Int) + 2)).toNat)), (7, Value.int .i64 i), (8, Value.int .i64 k), (9, Value.int .i64 number)], Sub.mk (by kernel_rfl), k, rfl, h⟩
            · rintro _ w7 ⟨k1, rfl, h⟩
              unfold F_towpathlaw12_GateOrders_k2 at h
              refine wpE_region (id := 16) (ops := r_towpathlaw12_GateOrders_72) (by kernel_rfl) ?_
              refine reg_run [.plain, .plain, .plain] 3 [(0, [], Value.slice order.ptr order.len order.cap), (3, [], Value.pointer g), (5, [], Value.int .i64 ((order.len : Nat) : Int)), (6, [], Value.slice (some ⟨b_, 0, none⟩) ((IntKind.i64.wrap (((order.len : Nat) : Int) + 2)).toNat) ((IntKind.i64.wrap (((order.len : Nat) : Int) + 2)).toNat)), (7, [], Value.int .i64 i), (8, [], Value.int .i64 k1), (9, [], Value.int .i64 (IntKind.i64.wrap (number + 1)))] (by kernel_rfl) (by kernel_rfl) ?_
              refine reg_end [(0, Value.slice order.ptr order.len order.cap), (3, Value.pointer g), (5, Value.int .i64 ((order.len : Nat) : Int)), (6, Value.slice (some ⟨b_, 0, none⟩) ((IntKind.i64.wrap (((order.len : Nat) : Int) + 2)).toNat) ((IntKind.i64.wrap (((order.len : Nat) : Int) + 2)).toNat)), (7, Value.int .i64 i), (8, Value.int .i64 k1), (9, Value.int .i64 (IntKind.i64.wrap (number + 1)))] (by kernel_rfl) (by kernel_rfl) ?_
              have hb_ := again_1_h _ _ _ h
              exact ⟨_, hb_.2, [(0, Value.slice order.ptr order.len order.cap), (3, Value.pointer g), (5, Value.int .i64 ((order.len : Nat) : Int)), (6, Value.slice (some ⟨b_, 0, none⟩) ((IntKind.i64.wrap (((order.len : Nat) : Int) + 2)).toNat) ((IntKind.i64.wrap (((order.len : Nat) : Int) + 2)).toNat)), (7, Value.int .i64 i), (8, Value.int .i64 k1), (9, Value.int .i64 (IntKind.i64.wrap (number + 1)))], Sub.mk (by kernel_rfl), k1, (IntKind.i64.wrap (number + 1)), rfl, hb_.1, rfl⟩
          · replace h := h.2 hb
            refine wpE_exit (id := 2) (by kernel_rfl) ?_
            change WpE _ _ c_towpathlaw12_GateOrders_74 _ _ _
            refine wpE_seq (x := c_towpathlaw12_GateOrders_75) (y := c_towpathlaw12_GateOrders_77) (by kernel_rfl) ?_
            refine wpE_region (id := 17) (ops := r_towpathlaw12_GateOrders_75) (by kernel_rfl) ?_
            refine reg_run [.plain] 1 [(0, [], Value.slice order.ptr order.len order.cap), (3, [], Value.pointer g), (5, [], Value.int .i64 ((order.len : Nat) : Int)), (6, [], Value.slice (some ⟨b_, 0, none⟩) ((IntKind.i64.wrap (((order.len : Nat) : Int) + 2)).toNat) ((IntKind.i64.wrap (((order.len : Nat) : Int) + 2)).toNat)), (7, [], Value.int .i64 i), (9, [], Value.int .i64 number), (71, [], Value.pointer g)] (by kernel_rfl) (by kernel_rfl) ?_
            refine reg_enter (op := (Go.Op.call (Go.Call.mk (Go.Callee.value (Go.Operand.func 31)) #[(Go.Operand.tmp 71)] #[44]))) (ty := 3) (dst := some 72) 31 #[Value.pointer g] (by kernel_rfl) (fun ww => by kernel_rfl) (Calls.mono h ?_)
            rintro _ w8 ⟨v72, rfl, h⟩
            refine ⟨_, rfl, ?_⟩
            refine reg_run [.plain] 3 [(0, [], Value.slice order.ptr order.len order.cap), (3, [], Value.pointer g), (5, [], Value.int .i64 ((order.len : Nat) : Int)), (6, [], Value.slice (some ⟨b_, 0, none⟩) ((IntKind.i64.wrap (((order.len : Nat) : Int) + 2)).toNat) ((IntKind.i64.wrap (((order.len : Nat) : Int) + 2)).toNat)), (7, [], Value.int .i64 i), (9, [], Value.int .i64 number), (10, [], Value.int .i64 v72)] (by kernel_rfl) (by kernel_rfl) ?_
            refine reg_end [(0, Value.slice order.ptr order.len order.cap), (3, Value.pointer g), (5, Value.int .i64 ((order.len : Nat) : Int)), (6, Value.slice (some ⟨b_, 0, none⟩) ((IntKind.i64.wrap (((order.len : Nat) : Int) + 2)).toNat) ((IntKind.i64.wrap (((order.len : Nat) : Int) + 2)).toNat)), (7, Value.int .i64 i), (9, Value.int .i64 number), (10, Value.int .i64 v72)] (by kernel_rfl) (by kernel_rfl) ?_
            change WpE _ _ c_towpathlaw12_GateOrders_77 _ _ _
            refine wpE_seq (x := c_towpathlaw12_GateOrders_78) (y := c_towpathlaw12_GateOrders_80) (by kernel_rfl) ?_
            refine wpE_region (id := 18) (ops := r_towpathlaw12_GateOrders_78) (by kernel_rfl) ?_
            refine reg_run [.plain, .plain] 2 [(0, [], Value.slice order.ptr order.len order.cap), (3, [], Value.pointer g), (5, [], Value.int .i64 ((order.len : Nat) : Int)), (6, [], Value.slice (some ⟨b_, 0, none⟩) ((IntKind.i64.wrap (((order.len : Nat) : Int) + 2)).toNat) ((IntKind.i64.wrap (((order.len : Nat) : Int) + 2)).toNat)), (7, [], Value.int .i64 i), (9, [], Value.int .i64 number), (10, [], Value.int .i64 v72), (74, [], Value.pointer g), (75, [], Value.int .i64 number)] (by kernel_rfl) (by kernel_rfl) ?_
            refine reg_enter (op := (Go.Op.call (Go.Call.mk (Go.Callee.value (Go.Operand.func 32)) #[(Go.Operand.tmp 74), (Go.Operand.tmp 75)] #[44, 3]))) (ty := 26) (dst := some 76) 32 #[Value.pointer g, Value.int .i64 number] (by kernel_rfl) (fun ww => by kernel_rfl) (Calls.mono h ?_)
            rintro _ w9 ⟨up, f, rfl, h⟩
            refine ⟨_, rfl, ?_⟩
            refine reg_run [.plain, .plain, .plain, .plain, .plain] 8 [(0, [], Value.slice order.ptr order.len order.cap), (3, [], Value.pointer g), (5, [], Value.int .i64 ((order.len : Nat) : Int)), (6, [], Value.slice (some ⟨b_, 0, none⟩) ((IntKind.i64.wrap (((order.len : Nat) : Int) + 2)).toNat) ((IntKind.i64.wrap (((order.len : Nat) : Int) + 2)).toNat)), (7, [], Value.int .i64 i), (9, [], Value.int .i64 number), (10, [], Value.int .i64 v72), (11, [], Value.int .i64 up), (12, [], Value.int .i64 f)] (by kernel_rfl) (by kernel_rfl) ?_
            refine reg_end [(0, Value.slice order.ptr order.len order.cap), (3, Value.pointer g), (5, Value.int .i64 ((order.len : Nat) : Int)), (6, Value.slice (some ⟨b_, 0, none⟩) ((IntKind.i64.wrap (((order.len : Nat) : Int) + 2)).toNat) ((IntKind.i64.wrap (((order.len : Nat) : Int) + 2)).toNat)), (7, Value.int .i64 i), (9, Value.int .i64 number), (10, Value.int .i64 v72), (11, Value.int .i64 up), (12, Value.int .i64 f)] (by kernel_rfl) (by kernel_rfl) ?_
            change WpE _ _ c_towpathlaw12_GateOrders_80 _ _ _
            refine wpE_seq (x := c_towpathlaw12_GateOrders_81) (y := c_towpathlaw12_GateOrders_83) (by kernel_rfl) ?_
            refine wpE_region (id := 19) (ops := r_towpathlaw12_GateOrders_81) (by kernel_rfl) ?_
            refine reg_run [.plain, .plain] 2 [(0, [], Value.slice order.ptr order.len order.cap), (3, [], Value.pointer g), (5, [], Value.int .i64 ((order.len : Nat) : Int)), (6, [], Value.slice (some ⟨b_, 0, none⟩) ((IntKind.i64.wrap (((order.len : Nat) : Int) + 2)).toNat) ((IntKind.i64.wrap (((order.len : Nat) : Int) + 2)).toNat)), (7, [], Value.int .i64 i), (10, [], Value.int .i64 v72), (11, [], Value.int .i64 up), (12, [], Value.int .i64 f), (79, [], Value.slice (some ⟨b_, 0, none⟩) ((IntKind.i64.wrap (((order.len : Nat) : Int) + 2)).toNat) ((IntKind.i64.wrap (((order.len : Nat) : Int) + 2)).toNat)), (80, [], Value.int .i64 number)] (by kernel_rfl) (by kernel_rfl) ?_
            obtain ⟨h0, h1, h⟩ := h
            refine reg_indexS1 (t := 47) (e := 4) (x := (Go.Operand.tmp 79)) (ix := (Go.Operand.tmp 80)) (b := b_) (o := 0) (l := ((IntKind.i64.wrap (((order.len : Nat) : Int) + 2)).toNat)) (c := ((IntKind.i64.wrap (((order.len : Nat) : Int) + 2)).toNat)) (k := .i64) (j := number) (ty := 0) (dst := some 81) (by kernel_rfl) (by kernel_rfl) (by kernel_rfl) (by kernel_rfl) (by kernel_rfl) h0 h1 ?_
            refine reg_run [] 3 [(0, [], Value.slice order.ptr order.len order.cap), (3, [], Value.pointer g), (5, [], Value.int .i64 ((order.len : Nat) : Int)), (6, [], Value.slice (some ⟨b_, 0, none⟩) ((IntKind.i64.wrap (((order.len : Nat) : Int) + 2)).toNat) ((IntKind.i64.wrap (((order.len : Nat) : Int) + 2)).toNat)), (7, [], Value.int .i64 i), (10, [], Value.int .i64 v72), (11, [], Value.int .i64 up), (12, [], Value.int .i64 f), (81, [], Value.pointer (some ⟨b_, 0 + number.toNat, none⟩))] (by kernel_rfl) (by kernel_rfl) ?_
            obtain ⟨hc, h⟩ := h
            refine reg_store (t := 4) (a := (Go.Operand.tmp 81)) (x := (Go.Operand.const (Go.Value.bool true))) (b := b_) (o := (0 + number.toNat)) (ty := 0) (dst := none) [Value.bool true] (by kernel_rfl) (by kernel_rfl) (by kernel_rfl) (k := 1) (by kernel_rfl) (by kernel_rfl) (by kernel_rfl) hc (fun w10 hw => ?_)
            replace h := h w10 hw
            clear hw
            refine reg_end [(0, Value.slice order.ptr order.len order.cap), (3, Value.pointer g), (5, Value.int .i64 ((order.len : Nat) : Int)), (6, Value.slice (some ⟨b_, 0, none⟩) ((IntKind.i64.wrap (((order.len : Nat) : Int) + 2)).toNat) ((IntKind.i64.wrap (((order.len : Nat) : Int) + 2)).toNat)), (7, Value.int .i64 i), (10, Value.int .i64 v72), (11, Value.int .i64 up), (12, Value.int .i64 f)] (by kernel_rfl) (by kernel_rfl) ?_
            change WpE _ _ c_towpathlaw12_GateOrders_83 _ _ _
            refine wpE_seq (x := c_towpathlaw12_GateOrders_84) (y := c_towpathlaw12_GateOrders_86) (by kernel_rfl) ?_
            refine wpE_region (id := 20) (ops := r_towpathlaw12_GateOrders_84) (by kernel_rfl) ?_
            refine reg_run [.plain] 1 [(0, [], Value.slice order.ptr order.len order.cap), (3, [], Value.pointer g), (5, [], Value.int .i64 ((order.len : Nat) : Int)), (6, [], Value.slice (some ⟨b_, 0, none⟩) ((IntKind.i64.wrap (((order.len : Nat) : Int) + 2)).toNat) ((IntKind.i64.wrap (((order.len : Nat) : Int) + 2)).toNat)), (7, [], Value.int .i64 i), (10, [], Value.int .i64 v72), (11, [], Value.int .i64 up), (12, [], Value.int .i64 f), (13, [], Value.int .i64 0)] (by kernel_rfl) (by kernel_rfl) ?_
            refine reg_end [(0, Value.slice order.ptr order.len order.cap), (3, Value.pointer g), (5, Value.int .i64 ((order.len : Nat) : Int)), (6, Value.slice (some ⟨b_, 0, none⟩) ((IntKind.i64.wrap (((order.len : Nat) : Int) + 2)).toNat) ((IntKind.i64.wrap (((order.len : Nat) : Int) + 2)).toNat)), (7, Value.int .i64 i), (10, Value.int .i64 v72), (11, Value.int .i64 up), (12, Value.int .i64 f), (13, Value.int .i64 0)] (by kernel_rfl) (by kernel_rfl) ?_
            change WpE _ _ c_towpathlaw12_GateOrders_86 _ _ _
            refine wpE_seq (x := c_towpathlaw12_GateOrders_87) (y := c_towpathlaw12_GateOrders_99) (by kernel_rfl) ?_
            refine wpE_block (id := 4) (x := c_towpathlaw12_GateOrders_88) (by kernel_rfl) ?_
            obtain ⟨I, μ, h0, hr⟩ := h
            refine wpE_loop (x := c_towpathlaw12_GateOrders_89) (by kernel_rfl) (fun m l w => ∃ (mark : Int), l = [(0, Value.slice order.ptr order.len order.cap), (3, Value.pointer g), (5, Value.int .i64 ((order.len : Nat) : Int)), (6, Value.slice (some ⟨b_, 0, none⟩) ((IntKind.i64.wrap (((order.len : Nat) : Int) + 2)).toNat) ((IntKind.i64.wrap (((order.len : Nat) : Int) + 2)).toNat)), (7, Value.int .i64 i), (10, Value.int .i64 v72), (11, Value.int .i64 up), (12, Value.int .i64 f), (13, Value.int .i64 mark)] ∧ I mark w ∧ μ mark w = m) (l' := [(0, Value.slice order.ptr order.len order.cap), (3, Value.pointer g), (5, Value.int .i64 ((order.len : Nat) : Int)), (6, Value.slice (some ⟨b_, 0, none⟩) ((IntKind.i64.wrap (((order.len : Nat) : Int) + 2)).toNat) ((IntKind.i64.wrap (((order.len : Nat) : Int) + 2)).toNat)), (7, Value.int .i64 i), (10, Value.int .i64 v72), (11, Value.int .i64 up), (12, Value.int .i64 f), (13, Value.int .i64 0)]) (Sub.mk (by kernel_rfl)) ⟨0, rfl, h0, rfl⟩ ?_
            rintro _ _ w11 ⟨mark, rfl, hI, rfl⟩
            obtain ⟨again_2, again_2_h, h⟩ : ∃ again_2 : Int → World → Prop, (∀ mark' w', again_2 mark' w' → I mark' w' ∧ μ mark' w' < μ mark w11) ∧ F_towpathlaw12_GateOrders_L3 order R g b_ i again_ k v72 up f again_2 mark w11 := ⟨_, fun _ _ h => h, hr mark w11 hI⟩
            clear h0 hI
            unfold F_towpathlaw12_GateOrders_L3 at h
            refine wpE_seq (x := c_towpathlaw12_GateOrders_90) (y := c_towpathlaw12_GateOrders_96) (by kernel_rfl) ?_
            refine wpE_seq_cut (x := c_towpathlaw12_GateOrders_91) (y := c_towpathlaw12_GateOrders_93) (by kernel_rfl) (fun l w => ∃ (t91 : Bool), l = [(0, Value.slice order.ptr order.len order.cap), (3, Value.pointer g), (5, Value.int .i64 ((order.len : Nat) : Int)), (6, Value.slice (some ⟨b_, 0, none⟩) ((IntKind.i64.wrap (((order.len : Nat) : Int) + 2)).toNat) ((IntKind.i64.wrap (((order.len : Nat) : Int) + 2)).toNat)), (7, Value.int .i64 i), (10, Value.int .i64 v72), (11, Value.int .i64 up), (12, Value.int .i64 f), (13, Value.int .i64 mark), (91, Value.bool t91)] ∧ F_towpathlaw12_GateOrders_k4 order R g b_ i again_ k v72 up f mark again_2 t91 w) ?_ ?_
            · refine wpE_region (id := 21) (ops := r_towpathlaw12_GateOrders_91) (by kernel_rfl) ?_
              refine reg_run [.plain, .plain, .plain, .plain, .plain, .plain, .plain] 7 [(0, [], Value.slice order.ptr order.len order.cap), (3, [], Value.pointer g), (5, [], Value.int .i64 ((order.len : Nat) : Int)), (6, [], Value.slice (some ⟨b_, 0, none⟩) ((IntKind.i64.wrap (((order.len : Nat) : Int) + 2)).toNat) ((IntKind.i64.wrap (((order.len : Nat) : Int) + 2)).toNat)), (7, [], Value.int .i64 i), (10, [], Value.int .i64 v72), (11, [], Value.int .i64 up), (12, [], Value.int .i64 f), (13, [], Value.int .i64 mark), (85, [], Value.bool (decide (mark < ((order.len : Nat) : Int)))), (86, [(85, true)], Value.slice (some ⟨b_, 0, none⟩) ((IntKind.i64.wrap (((order.len : Nat) : Int) + 2)).toNat) ((IntKind.i64.wrap (((order.len : Nat) : Int) + 2)).toNat)), (88, [(85, true)], Value.int .i64 (IntKind.i64.wrap (mark + 1)))] (by kernel_rfl) (by kernel_rfl) ?_
              refine reg_split 85 (decide (mark < ((order.len : Nat) : Int))) (by kernel_rfl) (fun hb => ?_) (fun hb => ?_)
              · replace h := h.1 hb
                refine reg_run [] 7 [(0, [], Value.slice order.ptr order.len order.cap), (3, [], Value.pointer g), (5, [], Value.int .i64 ((order.len : Nat) : Int)), (6, [], Value.slice (some ⟨b_, 0, none⟩) ((IntKind.i64.wrap (((order.len : Nat) : Int) + 2)).toNat) ((IntKind.i64.wrap (((order.len : Nat) : Int) + 2)).toNat)), (7, [], Value.int .i64 i), (10, [], Value.int .i64 v72), (11, [], Value.int .i64 up), (12, [], Value.int .i64 f), (13, [], Value.int .i64 mark), (85, [], Value.bool true), (86, [], Value.slice (some ⟨b_, 0, none⟩) ((IntKind.i64.wrap (((order.len : Nat) : Int) + 2)).toNat) ((IntKind.i64.wrap (((order.len : Nat) : Int) + 2)).toNat)), (88, [], Value.int .i64 (IntKind.i64.wrap (mark + 1)))] (by kernel_rfl) (by kernel_rfl) ?_
                refine reg_run [] 7 [(0, [], Value.slice order.ptr order.len order.cap), (3, [], Value.pointer g), (5, [], Value.int .i64 ((order.len : Nat) : Int)), (6, [], Value.slice (some ⟨b_, 0, none⟩) ((IntKind.i64.wrap (((order.len : Nat) : Int) + 2)).toNat) ((IntKind.i64.wrap (((order.len : Nat) : Int) + 2)).toNat)), (7, [], Value.int .i64 i), (10, [], Value.int .i64 v72), (11, [], Value.int .i64 up), (12, [], Value.int .i64 f), (13, [], Value.int .i64 mark), (85, [], Value.bool true), (86, [], Value.slice (some ⟨b_, 0, none⟩) ((IntKind.i64.wrap (((order.len : Nat) : Int) + 2)).toNat) ((IntKind.i64.wrap (((order.len : Nat) : Int) + 2)).toNat)), (88, [], Value.int .i64 (IntKind.i64.wrap (mark + 1)))] (by kernel_rfl) (by kernel_rfl) ?_
                obtain ⟨h0, h1, h⟩ := h
                refine reg_indexS1 (t := 47) (e := 4) (x := (Go.Operand.tmp 86)) (ix := (Go.Operand.tmp 88)) (b := b_) (o := 0) (l := ((IntKind.i64.wrap (((order.len : Nat) : Int) + 2)).toNat)) (c := ((IntKind.i64.wrap (((order.len : Nat) : Int) + 2)).toNat)) (k := .i64) (j := (IntKind.i64.wrap (mark + 1))) (ty := 0) (dst := some 89) (by kernel_rfl) (by kernel_rfl) (by kernel_rfl) (by kernel_rfl) (by kernel_rfl) h0 h1 ?_
                refine reg_run [] 8 [(0, [], Value.slice order.ptr order.len order.cap), (3, [], Value.pointer g), (5, [], Value.int .i64 ((order.len : Nat) : Int)), (6, [], Value.slice (some ⟨b_, 0, none⟩) ((IntKind.i64.wrap (((order.len : Nat) : Int) + 2)).toNat) ((IntKind.i64.wrap (((order.len : Nat) : Int) + 2)).toNat)), (7, [], Value.int .i64 i), (10, [], Value.int .i64 v72), (11, [], Value.int .i64 up), (12, [], Value.int .i64 f), (13, [], Value.int .i64 mark), (85, [], Value.bool true), (89, [], Value.pointer (some ⟨b_, 0 + (IntKind.i64.wrap (mark + 1)).toNat, none⟩))] (by kernel_rfl) (by kernel_rfl) ?_
                obtain ⟨v90, hc, h⟩ := h
                refine reg_load1 (t := 4) (a := (Go.Operand.tmp 89)) (b := b_) (o := (0 + (IntKind.i64.wrap (mark + 1)).toNat)) (ty := 4) (dst := some 90) (by kernel_rfl) (by kernel_rfl) (by kernel_rfl) hc ?_
                refine reg_run [.plain] 10 [(0, [], Value.slice order.ptr order.len order.cap), (3, [], Value.pointer g), (5, [], Value.int .i64 ((order.len : Nat) : Int)), (6, [], Value.slice (some ⟨b_, 0, none⟩) ((IntKind.i64.wrap (((order.len : Nat) : Int) + 2)).toNat) ((IntKind.i64.wrap (((order.len : Nat) : Int) + 2)).toNat)), (7, [], Value.int .i64 i), (10, [], Value.int .i64 v72), (11, [], Value.int .i64 up), (12, [], Value.int .i64 f), (13, [], Value.int .i64 mark), (91, [], Value.bool v90)] (by kernel_rfl) (by kernel_rfl) ?_
                refine reg_end [(0, Value.slice order.ptr order.len order.cap), (3, Value.pointer g), (5, Value.int .i64 ((order.len : Nat) : Int)), (6, Value.slice (some ⟨b_, 0, none⟩) ((IntKind.i64.wrap (((order.len : Nat) : Int) + 2)).toNat) ((IntKind.i64.wrap (((order.len : Nat) : Int) + 2)).toNat)), (7, Value.int .i64 i), (10, Value.int .i64 v72), (11, Value.int .i64 up), (12, Value.int .i64 f), (13, Value.int .i64 mark), (91, Value.bool v90)] (by kernel_rfl) (by kernel_rfl) ?_
                exact ⟨[(0, Value.slice order.ptr order.len order.cap), (3, Value.pointer g), (5, Value.int .i64 ((order.len : Nat) : Int)), (6, Value.slice (some ⟨b_, 0, none⟩) ((IntKind.i64.wrap (((order.len : Nat) : Int) + 2)).toNat) ((IntKind.i64.wrap (((order.len : Nat) : Int) + 2)).toNat)), (7, Value.int .i64 i), (10, Value.int .i64 v72), (11, Value.int .i64 up), (12, Value.int .i64 f), (13, Value.int .i64 mark), (91, Value.bool v90)], Sub.mk (by kernel_rfl), v90, rfl, h⟩
              · replace h := h.2 hb
                refine reg_run [] 7 [(0, [], Value.slice order.ptr order.len order.cap), (3, [], Value.pointer g), (5, [], Value.int .i64 ((order.len : Nat) : Int)), (6, [], Value.slice (some ⟨b_, 0, none⟩) ((IntKind.i64.wrap (((order.len : Nat) : Int) + 2)).toNat) ((IntKind.i64.wrap (((order.len : Nat) : Int) + 2)).toNat)), (7, [], Value.int .i64 i), (10, [], Value.int .i64 v72), (11, [], Value.int .i64 up), (12, [], Value.int .i64 f), (13, [], Value.int .i64 mark), (85, [], Value.bool false), (86, [], undef), (88, [], undef)] (by kernel_rfl) (by kernel_rfl) ?_
                refine reg_run [.skip, .skip, .plain] 10 [(0, [], Value.slice order.ptr order.len order.cap), (3, [], Value.pointer g), (5, [], Value.int .i64 ((order.len : Nat) : Int)), (6, [], Value.slice (some ⟨b_, 0, none⟩) ((IntKind.i64.wrap (((order.len : Nat) : Int) + 2)).toNat) ((IntKind.i64.wrap (((order.len : Nat) : Int) + 2)).toNat)), (7, [], Value.int .i64 i), (10, [], Value.int .i64 v72), (11, [], Value.int .i64 up), (12, [], Value.int .i64 f), (13, [], Value.int .i64 mark), (91, [], Value.bool false)] (by kernel_rfl) (by kernel_rfl) ?_
                refine reg_end [(0, Value.slice order.ptr order.len order.cap), (3, Value.pointer g), (5, Value.int .i64 ((order.len : Nat) : Int)), (6, Value.slice (some ⟨b_, 0, none⟩) ((IntKind.i64.wrap (((order.len : Nat) : Int) + 2)).toNat) ((IntKind.i64.wrap (((order.len : Nat) : Int) + 2)).toNat)), (7, Value.int .i64 i), (10, Value.int .i64 v72), (11, Value.int .i64 up), (12, Value.int .i64 f), (13, Value.int .i64 mark), (91, Value.bool false)] (by kernel_rfl) (by kernel_rfl) ?_
                exact ⟨[(0, Value.slice order.ptr order.len order.cap), (3, Value.pointer g), (5, Value.int .i64 ((order.len : Nat) : Int)), (6, Value.slice (some ⟨b_, 0, none⟩) ((IntKind.i64.wrap (((order.len : Nat) : Int) + 2)).toNat) ((IntKind.i64.wrap (((order.len : Nat) : Int) + 2)).toNat)), (7, Value.int .i64 i), (10, Value.int .i64 v72), (11, Value.int .i64 up), (12, Value.int .i64 f), (13, Value.int .i64 mark), (91, Value.bool false)], Sub.mk (by kernel_rfl), false, rfl, h⟩
            · rintro _ w12 ⟨t91, rfl, h⟩
              unfold F_towpathlaw12_GateOrders_k4 at h
              refine wpE_cond (o := (Operand.tmp 91)) (b := t91) (x := c_towpathlaw12_GateOrders_94) (y := c_towpathlaw12_GateOrders_95) (by kernel_rfl) (by kernel_rfl) (fun hb => ?_) (fun hb => ?_)
              · replace h := h.1 hb
                refine wpE_skip (by kernel_rfl) ?_
                change WpE _ _ c_towpathlaw12_GateOrders_96 _ _ _
                refine wpE_block (id := 5) (x := c_towpathlaw12_GateOrders_97) (by kernel_rfl) ?_
                refine wpE_region (id := 22) (ops := r_towpathlaw12_GateOrders_97) (by kernel_rfl) ?_
                refine reg_run [.plain, .plain, .plain] 3 [(0, [], Value.slice order.ptr order.len order.cap), (3, [], Value.pointer g), (5, [], Value.int .i64 ((order.len : Nat) : Int)), (6, [], Value.slice (some ⟨b_, 0, none⟩) ((IntKind.i64.wrap (((order.len : Nat) : Int) + 2)).toNat) ((IntKind.i64.wrap (((order.len : Nat) : Int) + 2)).toNat)), (7, [], Value.int .i64 i), (10, [], Value.int .i64 v72), (11, [], Value.int .i64 up), (12, [], Value.int .i64 f), (13, [], Value.int .i64 (IntKind.i64.wrap (mark + 1)))] (by kernel_rfl) (by kernel_rfl) ?_
                refine reg_end [(0, Value.slice order.ptr order.len order.cap), (3, Value.pointer g), (5, Value.int .i64 ((order.len : Nat) : Int)), (6, Value.slice (some ⟨b_, 0, none⟩) ((IntKind.i64.wrap (((order.len : Nat) : Int) + 2)).toNat) ((IntKind.i64.wrap (((order.len : Nat) : Int) + 2)).toNat)), (7, Value.int .i64 i), (10, Value.int .i64 v72), (11, Value.int .i64 up), (12, Value.int .i64 f), (13, Value.int .i64 (IntKind.i64.wrap (mark + 1)))] (by kernel_rfl) (by kernel_rfl) ?_
                have hb_ := again_2_h _ _ h
                exact ⟨_, hb_.2, [(0, Value.slice order.ptr order.len order.cap), (3, Value.pointer g), (5, Value.int .i64 ((order.len : Nat) : Int)), (6, Value.slice (some ⟨b_, 0, none⟩) ((IntKind.i64.wrap (((order.len : Nat) : Int) + 2)).toNat) ((IntKind.i64.wrap (((order.len : Nat) : Int) + 2)).toNat)), (7, Value.int .i64 i), (10, Value.int .i64 v72), (11, Value.int .i64 up), (12, Value.int .i64 f), (13, Value.int .i64 (IntKind.i64.wrap (mark + 1)))], Sub.mk (by kernel_rfl), (IntKind.i64.wrap (mark + 1)), rfl, hb_.1, rfl⟩
              · replace h := h.2 hb
                refine wpE_exit (id := 4) (by kernel_rfl) ?_
                change WpE _ _ c_towpathlaw12_GateOrders_99 _ _ _
                refine wpE_seq (x := c_towpathlaw12_GateOrders_100) (y := c_towpathlaw12_GateOrders_109) (by kernel_rfl) ?_
                refine wpE_seq_cut (x := c_towpathlaw12_GateOrders_101) (y := c_towpathlaw12_GateOrders_103) (by kernel_rfl) (fun l w => ∃ (t112 : Bool), l = [(0, Value.slice order.ptr order.len order.cap), (3, Value.pointer g), (5, Value.int .i64 ((order.len : Nat) : Int)), (6, Value.slice (some ⟨b_, 0, none⟩) ((IntKind.i64.wrap (((order.len : Nat) : Int) + 2)).toNat) ((IntKind.i64.wrap (((order.len : Nat) : Int) + 2)).toNat)), (7, Value.int .i64 i), (13, Value.int .i64 mark), (112, Value.bool t112)] ∧ F_towpathlaw12_GateOrders_k5 order R g b_ i again_ k mark t112 w) ?_ ?_
                · refine wpE_region (id := 23) (ops := r_towpathlaw12_GateOrders_101) (by kernel_rfl) ?_
                  refine reg_run [.plain, .plain, .plain, .plain] 4 [(0, [], Value.slice order.ptr order.len order.cap), (3, [], Value.pointer g), (5, [], Value.int .i64 ((order.len : Nat) : Int)), (6, [], Value.slice (some ⟨b_, 0, none⟩) ((IntKind.i64.wrap (((order.len : Nat) : Int) + 2)).toNat) ((IntKind.i64.wrap (((order.len : Nat) : Int) + 2)).toNat)), (7, [], Value.int .i64 i), (10, [], Value.int .i64 v72), (11, [], Value.int .i64 up), (13, [], Value.int .i64 mark), (96, [], Value.bool (f != 0)), (97, [(96, false)], Value.pointer g)] (by kernel_rfl) (by kernel_rfl) ?_
                  refine reg_split 96 (f != 0) (by kernel_rfl) (fun hb => ?_) (fun hb => ?_)
                  · replace h := h.1 hb
                    refine reg_run [] 4 [(0, [], Value.slice order.ptr order.len order.cap), (3, [], Value.pointer g), (5, [], Value.int .i64 ((order.len : Nat) : Int)), (6, [], Value.slice (some ⟨b_, 0, none⟩) ((IntKind.i64.wrap (((order.len : Nat) : Int) + 2)).toNat) ((IntKind.i64.wrap (((order.len : Nat) : Int) + 2)).toNat)), (7, [], Value.int .i64 i), (10, [], Value.int .i64 v72), (11, [], Value.int .i64 up), (13, [], Value.int .i64 mark), (96, [], Value.bool true), (97, [], undef)] (by kernel_rfl) (by kernel_rfl) ?_
                    refine reg_run [.skip, .skip, .skip, .plain, .plain, .skip, .skip, .skip, .skip, .skip, .plain, .plain, .skip, .skip, .plain] 19 [(0, [], Value.slice order.ptr order.len order.cap), (3, [], Value.pointer g), (5, [], Value.int .i64 ((order.len : Nat) : Int)), (6, [], Value.slice (some ⟨b_, 0, none⟩) ((IntKind.i64.wrap (((order.len : Nat) : Int) + 2)).toNat) ((IntKind.i64.wrap (((order.len : Nat) : Int) + 2)).toNat)), (7, [], Value.int .i64 i), (13, [], Value.int .i64 mark), (112, [], Value.bool true)] (by kernel_rfl) (by kernel_rfl) ?_
                    refine reg_end [(0, Value.slice order.ptr order.len order.cap), (3, Value.pointer g), (5, Value.int .i64 ((order.len : Nat) : Int)), (6, Value.slice (some ⟨b_, 0, none⟩) ((IntKind.i64.wrap (((order.len : Nat) : Int) + 2)).toNat) ((IntKind.i64.wrap (((order.len : Nat) : Int) + 2)).toNat)), (7, Value.int .i64 i), (13, Value.int .i64 mark), (112, Value.bool true)] (by kernel_rfl) (by kernel_rfl) ?_
                    exact ⟨[(0, Value.slice order.ptr order.len order.cap), (3, Value.pointer g), (5, Value.int .i64 ((order.len : Nat) : Int)), (6, Value.slice (some ⟨b_, 0, none⟩) ((IntKind.i64.wrap (((order.len : Nat) : Int) + 2)).toNat) ((IntKind.i64.wrap (((order.len : Nat) : Int) + 2)).toNat)), (7, Value.int .i64 i), (13, Value.int .i64 mark), (112, Value.bool true)], Sub.mk (by kernel_rfl), true, rfl, h⟩
                  · replace h := h.2 hb
                    refine reg_run [] 4 [(0, [], Value.slice order.ptr order.len order.cap), (3, [], Value.pointer g), (5, [], Value.int .i64 ((order.len : Nat) : Int)), (6, [], Value.slice (some ⟨b_, 0, none⟩) ((IntKind.i64.wrap (((order.len : Nat) : Int) + 2)).toNat) ((IntKind.i64.wrap (((order.len : Nat) : Int) + 2)).toNat)), (7, [], Value.int .i64 i), (10, [], Value.int .i64 v72), (11, [], Value.int .i64 up), (13, [], Value.int .i64 mark), (96, [], Value.bool false), (97, [], Value.pointer g)] (by kernel_rfl) (by kernel_rfl) ?_
                    refine reg_run [] 4 [(0, [], Value.slice order.ptr order.len order.cap), (3, [], Value.pointer g), (5, [], Value.int .i64 ((order.len : Nat) : Int)), (6, [], Value.slice (some ⟨b_, 0, none⟩) ((IntKind.i64.wrap (((order.len : Nat) : Int) + 2)).toNat) ((IntKind.i64.wrap (((order.len : Nat) : Int) + 2)).toNat)), (7, [], Value.int .i64 i), (10, [], Value.int .i64 v72), (11, [], Value.int .i64 up), (13, [], Value.int .i64 mark), (96, [], Value.bool false), (97, [], Value.pointer g)] (by kernel_rfl) (by kernel_rfl) ?_
                    refine reg_enter (op := (Go.Op.call (Go.Call.mk (Go.Callee.value (Go.Operand.func 31)) #[(Go.Operand.tmp 97)] #[44]))) (ty := 3) (dst := some 98) 31 #[Value.pointer g] (by kernel_rfl) (fun ww => by kernel_rfl) (Calls.mono h ?_)
                    rintro _ w28 ⟨v98, rfl, h⟩
                    refine ⟨_, rfl, ?_⟩
                    refine reg_run [.sure, .sure, .plain, .plain, .plain, .plain, .plain, .plain, .plain, .pick, .plain, .plain, .plain, .pick] 19 [(0, [], Value.slice order.ptr order.len order.cap), (3, [], Value.pointer g), (5, [], Value.int .i64 ((order.len : Nat) : Int)), (6, [], Value.slice (some ⟨b_, 0, none⟩) ((IntKind.i64.wrap (((order.len : Nat) : Int) + 2)).toNat) ((IntKind.i64.wrap (((order.len : Nat) : Int) + 2)).toNat)), (7, [], Value.int .i64 i), (13, [], Value.int .i64 mark), (112, [], Value.bool (((v98 != mark) || (up != (IntKind.i64.wrap (mark - v72)))) || (decide (up < 0))))] (by kernel_rfl) (by kernel_rfl) ?_
                    refine reg_end [(0, Value.slice order.ptr order.len order.cap), (3, Value.pointer g), (5, Value.int .i64 ((order.len : Nat) : Int)), (6, Value.slice (some ⟨b_, 0, none⟩) ((IntKind.i64.wrap (((order.len : Nat) : Int) + 2)).toNat) ((IntKind.i64.wrap (((order.len : Nat) : Int) + 2)).toNat)), (7, Value.int .i64 i), (13, Value.int .i64 mark), (112, Value.bool (((v98 != mark) || (up != (IntKind.i64.wrap (mark - v72)))) || (decide (up < 0))))] (by kernel_rfl) (by kernel_rfl) ?_
                    exact ⟨[(0, Value.slice order.ptr order.len order.cap), (3, Value.pointer g), (5, Value.int .i64 ((order.len : Nat) : Int)), (6, Value.slice (some ⟨b_, 0, none⟩) ((IntKind.i64.wrap (((order.len : Nat) : Int) + 2)).toNat) ((IntKind.i64.wrap (((order.len : Nat) : Int) + 2)).toNat)), (7, Value.int .i64 i), (13, Value.int .i64 mark), (112, Value.bool (((v98 != mark) || (up != (IntKind.i64.wrap (mark - v72)))) || (decide (up < 0))))], Sub.mk (by kernel_rfl), (((v98 != mark) || (up != (IntKind.i64.wrap (mark - v72)))) || (decide (up < 0))), rfl, h⟩
                · rintro _ w13 ⟨t112, rfl, h⟩
                  unfold F_towpathlaw12_GateOrders_k5 at h
                  refine wpE_cond (o := (Operand.tmp 112)) (b := t112) (x := c_towpathlaw12_GateOrders_104) (y := c_towpathlaw12_GateOrders_108) (by kernel_rfl) (by kernel_rfl) (fun hb => ?_) (fun hb => ?_)
                  · replace h := h.1 hb
                    refine wpE_seq (x := c_towpathlaw12_GateOrders_105) (y := c_towpathlaw12_GateOrders_107) (by kernel_rfl) ?_
                    refine wpE_region (id := 24) (ops := r_towpathlaw12_GateOrders_105) (by kernel_rfl) ?_
                    refine reg_run [.plain] 1 [(2, [], Value.bool false)] (by kernel_rfl) (by kernel_rfl) ?_
                    refine reg_end [(2, Value.bool false)] (by kernel_rfl) (by kernel_rfl) ?_
                    change WpE _ _ c_towpathlaw12_GateOrders_107 _ _ _
                    refine wpE_ret (by kernel_rfl) ?_
                    repeat (first | refine seqQ_ret ?_ | refine blockQ_ret ?_ | refine loopQ_ret ?_ | refine cutQ_ret ?_)
                    exact retS (rs := [(Go.ResultVar.tmp 2)]) (v := Value.bool false) (by kernel_rfl) (⟨by kernel_rfl, trivial⟩) ⟨false, rfl, h⟩
                  · replace h := h.2 hb
                    refine wpE_skip (by kernel_rfl) ?_
                    change WpE _ _ c_towpathlaw12_GateOrders_109 _ _ _
                    refine wpE_seq (x := c_towpathlaw12_GateOrders_110) (y := c_towpathlaw12_GateOrders_112) (by kernel_rfl) ?_
                    refine wpE_region (id := 25) (ops := r_towpathlaw12_GateOrders_110) (by kernel_rfl) ?_
                    refine reg_run [.plain] 1 [(0, [], Value.slice order.ptr order.len order.cap), (3, [], Value.pointer g), (5, [], Value.int .i64 ((order.len : Nat) : Int)), (6, [], Value.slice (some ⟨b_, 0, none⟩) ((IntKind.i64.wrap (((order.len : Nat) : Int) + 2)).toNat) ((IntKind.i64.wrap (((order.len : Nat) : Int) + 2)).toNat)), (7, [], Value.int .i64 i), (13, [], Value.int .i64 mark), (113, [], Value.pointer g)] (by kernel_rfl) (by kernel_rfl) ?_
                    refine reg_enter (op := (Go.Op.call (Go.Call.mk (Go.Callee.value (Go.Operand.func 33)) #[(Go.Operand.tmp 113)] #[44]))) (ty := 49) (dst := some 114) 33 #[Value.pointer g] (by kernel_rfl) (fun ww => by kernel_rfl) (Calls.mono h ?_)
                    rintro _ w14 ⟨v114, rfl, h⟩
                    refine ⟨_, rfl, ?_⟩
                    refine reg_run [.plain] 3 [(0, [], Value.slice order.ptr order.len order.cap), (3, [], Value.pointer g), (5, [], Value.int .i64 ((order.len : Nat) : Int)), (6, [], Value.slice (some ⟨b_, 0, none⟩) ((IntKind.i64.wrap (((order.len : Nat) : Int) + 2)).toNat) ((IntKind.i64.wrap (((order.len : Nat) : Int) + 2)).toNat)), (7, [], Value.int .i64 i), (13, [], Value.int .i64 mark), (14, [], Value.slice v114.ptr v114.len v114.cap)] (by kernel_rfl) (by kernel_rfl) ?_
                    refine reg_end [(0, Value.slice order.ptr order.len order.cap), (3, Value.pointer g), (5, Value.int .i64 ((order.len : Nat) : Int)), (6, Value.slice (some ⟨b_, 0, none⟩) ((IntKind.i64.wrap (((order.len : Nat) : Int) + 2)).toNat) ((IntKind.i64.wrap (((order.len : Nat) : Int) + 2)).toNat)), (7, Value.int .i64 i), (13, Value.int .i64 mark), (14, Value.slice v114.ptr v114.len v114.cap)] (by kernel_rfl) (by kernel_rfl) ?_
                    change WpE _ _ c_towpathlaw12_GateOrders_112 _ _ _
                    refine wpE_seq (x := c_towpathlaw12_GateOrders_113) (y := c_towpathlaw12_GateOrders_115) (by kernel_rfl) ?_
                    refine wpE_region (id := 26) (ops := r_towpathlaw12_GateOrders_113) (by kernel_rfl) ?_
                    refine reg_run [.plain, .plain] 2 [(0, [], Value.slice order.ptr order.len order.cap), (3, [], Value.pointer g), (5, [], Value.int .i64 ((order.len : Nat) : Int)), (6, [], Value.slice (some ⟨b_, 0, none⟩) ((IntKind.i64.wrap (((order.len : Nat) : Int) + 2)).toNat) ((IntKind.i64.wrap (((order.len : Nat) : Int) + 2)).toNat)), (7, [], Value.int .i64 i), (13, [], Value.int .i64 mark), (14, [], Value.slice v114.ptr v114.len v114.cap), (15, [], Value.int .i64 mark)] (by kernel_rfl) (by kernel_rfl) ?_
                    refine reg_end [(0, Value.slice order.ptr order.len order.cap), (3, Value.pointer g), (5, Value.int .i64 ((order.len : Nat) : Int)), (6, Value.slice (some ⟨b_, 0, none⟩) ((IntKind.i64.wrap (((order.len : Nat) : Int) + 2)).toNat) ((IntKind.i64.wrap (((order.len : Nat) : Int) + 2)).toNat)), (7, Value.int .i64 i), (13, Value.int .i64 mark), (14, Value.slice v114.ptr v114.len v114.cap), (15, Value.int .i64 mark)] (by kernel_rfl) (by kernel_rfl) ?_
                    change WpE _ _ c_towpathlaw12_GateOrders_115 _ _ _
                    refine wpE_seq (x := c_towpathlaw12_GateOrders_116) (y := c_towpathlaw12_GateOrders_144) (by kernel_rfl) ?_
                    refine wpE_seq (x := c_towpathlaw12_GateOrders_117) (y := c_towpathlaw12_GateOrders_119) (by kernel_rfl) ?_
                    refine wpE_region (id := 27) (ops := r_towpathlaw12_GateOrders_117) (by kernel_rfl) ?_
                    refine reg_run [.plain] 1 [(0, [], Value.slice order.ptr order.len order.cap), (3, [], Value.pointer g), (5, [], Value.int .i64 ((order.len : Nat) : Int)), (6, [], Value.slice (some ⟨b_, 0, none⟩) ((IntKind.i64.wrap (((order.len : Nat) : Int) + 2)).toNat) ((IntKind.i64.wrap (((order.len : Nat) : Int) + 2)).toNat)), (7, [], Value.int .i64 i), (13, [], Value.int .i64 mark), (14, [], Value.slice v114.ptr v114.len v114.cap), (15, [], Value.int .i64 mark), (16, [], Value.int .i64 0)] (by kernel_rfl) (by kernel_rfl) ?_
                    refine reg_end [(0, Value.slice order.ptr order.len order.cap), (3, Value.pointer g), (5, Value.int .i64 ((order.len : Nat) : Int)), (6, Value.slice (some ⟨b_, 0, none⟩) ((IntKind.i64.wrap (((order.len : Nat) : Int) + 2)).toNat) ((IntKind.i64.wrap (((order.len : Nat) : Int) + 2)).toNat)), (7, Value.int .i64 i), (13, Value.int .i64 mark), (14, Value.slice v114.ptr v114.len v114.cap), (15, Value.int .i64 mark), (16, Value.int .i64 0)] (by kernel_rfl) (by kernel_rfl) ?_
                    change WpE _ _ c_towpathlaw12_GateOrders_119 _ _ _
                    refine wpE_block (id := 6) (x := c_towpathlaw12_GateOrders_120) (by kernel_rfl) ?_
                    obtain ⟨I, μ, h0, hr⟩ := h
                    refine wpE_loop (x := c_towpathlaw12_GateOrders_121) (by kernel_rfl) (fun m l w => ∃ (last : Int) (q : Int), l = [(0, Value.slice order.ptr order.len order.cap), (3, Value.pointer g), (5, Value.int .i64 ((order.len : Nat) : Int)), (6, Value.slice (some ⟨b_, 0, none⟩) ((IntKind.i64.wrap (((order.len : Nat) : Int) + 2)).toNat) ((IntKind.i64.wrap (((order.len : Nat) : Int) + 2)).toNat)), (7, Value.int .i64 i), (13, Value.int .i64 mark), (14, Value.slice v114.ptr v114.len v114.cap), (15, Value.int .i64 last), (16, Value.int .i64 q)] ∧ I last q w ∧ μ last q w = m) (l' := [(0, Value.slice order.ptr order.len order.cap), (3, Value.pointer g), (5, Value.int .i64 ((order.len : Nat) : Int)), (6, Value.slice (some ⟨b_, 0, none⟩) ((IntKind.i64.wrap (((order.len : Nat) : Int) + 2)).toNat) ((IntKind.i64.wrap (((order.len : Nat) : Int) + 2)).toNat)), (7, Value.int .i64 i), (13, Value.int .i64 mark), (14, Value.slice v114.ptr v114.len v114.cap), (15, Value.int .i64 mark), (16, Value.int .i64 0)]) (Sub.mk (by kernel_rfl)) ⟨mark, 0, rfl, h0, rfl⟩ ?_
                    rintro _ _ w15 ⟨last, q, rfl, hI, rfl⟩
                    obtain ⟨again_3, again_3_h, h⟩ : ∃ again_3 : Int → Int → World → Prop, (∀ last' q' w', again_3 last' q' w' → I last' q' w' ∧ μ last' q' w' < μ last q w15) ∧ F_towpathlaw12_GateOrders_L6 order R g b_ i again_ k mark v114 again_3 last q w15 := ⟨_, fun _ _ _ h => h, hr last q w15 hI⟩
                    clear h0 hI
                    unfold F_towpathlaw12_GateOrders_L6 at h
                    refine wpE_seq (x := c_towpathlaw12_GateOrders_122) (y := c_towpathlaw12_GateOrders_128) (by kernel_rfl) ?_
                    refine wpE_seq (x := c_towpathlaw12_GateOrders_123) (y := c_towpathlaw12_GateOrders_125) (by kernel_rfl) ?_
                    refine wpE_region (id := 28) (ops := r_towpathlaw12_GateOrders_123) (by kernel_rfl) ?_
                    refine reg_run [.plain, .plain, .plain, .plain] 4 [(0, [], Value.slice order.ptr order.len order.cap), (3, [], Value.pointer g), (5, [], Value.int .i64 ((order.len : Nat) : Int)), (6, [], Value.slice (some ⟨b_, 0, none⟩) ((IntKind.i64.wrap (((order.len : Nat) : Int) + 2)).toNat) ((IntKind.i64.wrap (((order.len : Nat) : Int) + 2)).toNat)), (7, [], Value.int .i64 i), (13, [], Value.int .i64 mark), (14, [], Value.slice v114.ptr v114.len v114.cap), (15, [], Value.int .i64 last), (16, [], Value.int .i64 q), (119, [], Value.bool (decide (q < ((v114.len : Nat) : Int))))] (by kernel_rfl) (by kernel_rfl) ?_
                    refine reg_end [(0, Value.slice order.ptr order.len order.cap), (3, Value.pointer g), (5, Value.int .i64 ((order.len : Nat) : Int)), (6, Value.slice (some ⟨b_, 0, none⟩) ((IntKind.i64.wrap (((order.len : Nat) : Int) + 2)).toNat) ((IntKind.i64.wrap (((order.len : Nat) : Int) + 2)).toNat)), (7, Value.int .i64 i), (13, Value.int .i64 mark), (14, Value.slice v114.ptr v114.len v114.cap), (15, Value.int .i64 last), (16, Value.int .i64 q), (119, Value.bool (decide (q < ((v114.len : Nat) : Int))))] (by kernel_rfl) (by kernel_rfl) ?_
                    change WpE _ _ c_towpathlaw12_GateOrders_125 _ _ _
                    refine wpE_cond (o := (Operand.tmp 119)) (b := (decide (q < ((v114.len : Nat) : Int)))) (x := c_towpathlaw12_GateOrders_126) (y := c_towpathlaw12_GateOrders_127) (by kernel_rfl) (by kernel_rfl) (fun hb => ?_) (fun hb => ?_)
                    · replace h := h.1 hb
                      refine wpE_skip (by kernel_rfl) ?_
                      change WpE _ _ c_towpathlaw12_GateOrders_128 _ _ _
                      refine wpE_seq (x := c_towpathlaw12_GateOrders_129) (y := c_towpathlaw12_GateOrders_142) (by kernel_rfl) ?_
                      refine wpE_block (id := 7) (x := c_towpathlaw12_GateOrders_130) (by kernel_rfl) ?_
                      refine wpE_seq (x := c_towpathlaw12_GateOrders_131) (y := c_towpathlaw12_GateOrders_140) (by kernel_rfl) ?_
                      refine wpE_seq_cut (x := c_towpathlaw12_GateOrders_132) (y := c_towpathlaw12_GateOrders_134) (by kernel_rfl) (fun l w => ∃ (t145 : Bool), l = [(0, Value.slice order.ptr order.len order.cap), (3, Value.pointer g), (5, Value.int .i64 ((order.len : Nat) : Int)), (6, Value.slice (some ⟨b_, 0, none⟩) ((IntKind.i64.wrap (((order.len : Nat) : Int) + 2)).toNat) ((IntKind.i64.wrap (((order.len : Nat) : Int) + 2)).toNat)), (7, Value.int .i64 i), (13, Value.int .i64 mark), (14, Value.slice v114.ptr v114.len v114.cap), (16, Value.int .i64 q), (145, Value.bool t145)] ∧ F_towpathlaw12_GateOrders_k7 R v114 q again_3 t145 w) ?_ ?_
                      · refine wpE_region (id := 30) (ops := r_towpathlaw12_GateOrders_132) (by kernel_rfl) ?_
                        refine reg_run [.plain, .plain] 2 [(0, [], Value.slice order.ptr order.len order.cap), (3, [], Value.pointer g), (5, [], Value.int .i64 ((order.len : Nat) : Int)), (6, [], Value.slice (some ⟨b_, 0, none⟩) ((IntKind.i64.wrap (((order.len : Nat) : Int) + 2)).toNat) ((IntKind.i64.wrap (((order.len : Nat) : Int) + 2)).toNat)), (7, [], Value.int .i64 i), (13, [], Value.int .i64 mark), (14, [], Value.slice v114.ptr v114.len v114.cap), (15, [], Value.int .i64 last), (16, [], Value.int .i64 q), (122, [], Value.slice v114.ptr v114.len v114.cap), (123, [], Value.int .i64 q)] (by kernel_rfl) (by kernel_rfl) ?_
                        obtain ⟨hp_213, h⟩ := h
                        refine reg_conv [(0, [], Value.slice order.ptr order.len order.cap), (3, [], Value.pointer g), (5, [], Value.int .i64 ((order.len : Nat) : Int)), (6, [], Value.slice (some ⟨b_, 0, none⟩) ((IntKind.i64.wrap (((order.len : Nat) : Int) + 2)).toNat) ((IntKind.i64.wrap (((order.len : Nat) : Int) + 2)).toNat)), (7, [], Value.int .i64 i), (13, [], Value.int .i64 mark), (14, [], Value.slice v114.ptr v114.len v114.cap), (15, [], Value.int .i64 last), (16, [], Value.int .i64 q), (122, [], Value.slice (some ⟨(pblk v114.ptr), (poff v114.ptr), none⟩) v114.len v114.cap), (123, [], Value.int .i64 q)] (congrArg (fun pp => ([(0, [], Value.slice order.ptr order.len order.cap), (3, [], Value.pointer g), (5, [], Value.int .i64 ((order.len : Nat) : Int)), (6, [], Value.slice (some ⟨b_, 0, none⟩) ((IntKind.i64.wrap (((order.len : Nat) : Int) + 2)).toNat) ((IntKind.i64.wrap (((order.len : Nat) : Int) + 2)).toNat)), (7, [], Value.int .i64 i), (13, [], Value.int .i64 mark), (14, [], Value.slice v114.ptr v114.len v114.cap), (15, [], Value.int .i64 last), (16, [], Value.int .i64 q), (122, [], Value.slice pp v114.len v114.cap), (123, [], Value.int .i64 q)] : GEnv)) hp_213) ?_
                        obtain ⟨h0, h1, h⟩ := h
                        refine reg_indexS1 (t := 49) (e := 3) (x := (Go.Operand.tmp 122)) (ix := (Go.Operand.tmp 123)) (b := (pblk v114.ptr)) (o := (poff v114.ptr)) (l := v114.len) (c := v114.cap) (k := .i64) (j := q) (ty := 0) (dst := some 124) (by kernel_rfl) (by kernel_rfl) (by kernel_rfl) (by kernel_rfl) (by kernel_rfl) h0 h1 ?_
                        refine reg_run [] 3 [(0, [], Value.slice order.ptr order.len order.cap), (3, [], Value.pointer g), (5, [], Value.int .i64 ((order.len : Nat) : Int)), (6, [], Value.slice (some ⟨b_, 0, none⟩) ((IntKind.i64.wrap (((order.len : Nat) : Int) + 2)).toNat) ((IntKind.i64.wrap (((order.len : Nat) : Int) + 2)).toNat)), (7, [], Value.int .i64 i), (13, [], Value.int .i64 mark), (14, [], Value.slice v114.ptr v114.len v114.cap), (15, [], Value.int .i64 last), (16, [], Value.int .i64 q), (124, [], Value.pointer (some ⟨(pblk v114.ptr), (poff v114.ptr) + q.toNat, none⟩))] (by kernel_rfl) (by kernel_rfl) ?_
                        obtain ⟨v125, hc, h⟩ := h
                        refine reg_load1 (t := 3) (a := (Go.Operand.tmp 124)) (b := (pblk v114.ptr)) (o := ((poff v114.ptr) + q.toNat)) (ty := 3) (dst := some 125) (by kernel_rfl) (by kernel_rfl) (by kernel_rfl) hc ?_
                        refine reg_run [.plain, .plain, .plain, .plain, .plain] 9 [(0, [], Value.slice order.ptr order.len order.cap), (3, [], Value.pointer g), (5, [], Value.int .i64 ((order.len : Nat) : Int)), (6, [], Value.slice (some ⟨b_, 0, none⟩) ((IntKind.i64.wrap (((order.len : Nat) : Int) + 2)).toNat) ((IntKind.i64.wrap (((order.len : Nat) : Int) + 2)).toNat)), (7, [], Value.int .i64 i), (13, [], Value.int .i64 mark), (14, [], Value.slice v114.ptr v114.len v114.cap), (16, [], Value.int .i64 q), (128, [], Value.bool (decide (v125 ≤ last))), (129, [(128, false)], Value.slice v114.ptr v114.len v114.cap), (130, [(128, false)], Value.int .i64 q)] (by kernel_rfl) (by kernel_rfl) ?_
                        refine reg_split 128 (decide (v125 ≤ last)) (by kernel_rfl) (fun hb => ?_) (fun hb => ?_)
                        · replace h := h.1 hb
                          refine reg_run [] 9 [(0, [], Value.slice order.ptr order.len order.cap), (3, [], Value.pointer g), (5, [], Value.int .i64 ((order.len : Nat) : Int)), (6, [], Value.slice (some ⟨b_, 0, none⟩) ((IntKind.i64.wrap (((order.len : Nat) : Int) + 2)).toNat) ((IntKind.i64.wrap (((order.len : Nat) : Int) + 2)).toNat)), (7, [], Value.int .i64 i), (13, [], Value.int .i64 mark), (14, [], Value.slice v114.ptr v114.len v114.cap), (16, [], Value.int .i64 q), (128, [], Value.bool true), (129, [], undef), (130, [], undef)] (by kernel_rfl) (by kernel_rfl) ?_
                          refine reg_run [.skip, .skip, .skip, .skip, .plain, .plain, .skip, .skip, .skip, .skip, .skip, .skip, .skip, .skip, .plain] 24 [(0, [], Value.slice order.ptr order.len order.cap), (3, [], Value.pointer g), (5, [], Value.int .i64 ((order.len : Nat) : Int)), (6, [], Value.slice (some ⟨b_, 0, none⟩) ((IntKind.i64.wrap (((order.len : Nat) : Int) + 2)).toNat) ((IntKind.i64.wrap (((order.len : Nat) : Int) + 2)).toNat)), (7, [], Value.int .i64 i), (13, [], Value.int .i64 mark), (14, [], Value.slice v114.ptr v114.len v114.cap), (16, [], Value.int .i64 q), (145, [], Value.bool true)] (by kernel_rfl) (by kernel_rfl) ?_
                          refine reg_end [(0, Value.slice order.ptr order.len order.cap), (3, Value.pointer g), (5, Value.int .i64 ((order.len : Nat) : Int)), (6, Value.slice (some ⟨b_, 0, none⟩) ((IntKind.i64.wrap (((order.len : Nat) : Int) + 2)).toNat) ((IntKind.i64.wrap (((order.len : Nat) : Int) + 2)).toNat)), (7, Value.int .i64 i), (13, Value.int .i64 mark), (14, Value.slice v114.ptr v114.len v114.cap), (16, Value.int .i64 q), (145, Value.bool true)] (by kernel_rfl) (by kernel_rfl) ?_
                          exact ⟨[(0, Value.slice order.ptr order.len order.cap), (3, Value.pointer g), (5, Value.int .i64 ((order.len : Nat) : Int)), (6, Value.slice (some ⟨b_, 0, none⟩) ((IntKind.i64.wrap (((order.len : Nat) : Int) + 2)).toNat) ((IntKind.i64.wrap (((order.len : Nat) : Int) + 2)).toNat)), (7, Value.int .i64 i), (13, Value.int .i64 mark), (14, Value.slice v114.ptr v114.len v114.cap), (16, Value.int .i64 q), (145, Value.bool true)], Sub.mk (by kernel_rfl), true, rfl, h⟩
                        · replace h := h.2 hb
                          refine reg_run [] 9 [(0, [], Value.slice order.ptr order.len order.cap), (3, [], Value.pointer g), (5, [], Value.int .i64 ((order.len : Nat) : Int)), (6, [], Value.slice (some ⟨b_, 0, none⟩) ((IntKind.i64.wrap (((order.len : Nat) : Int) + 2)).toNat) ((IntKind.i64.wrap (((order.len : Nat) : Int) + 2)).toNat)), (7, [], Value.int .i64 i), (13, [], Value.int .i64 mark), (14, [], Value.slice v114.ptr v114.len v114.cap), (16, [], Value.int .i64 q), (128, [], Value.bool false), (129, [], Value.slice v114.ptr v114.len v114.cap), (130, [], Value.int .i64 q)] (by kernel_rfl) (by kernel_rfl) ?_
                          refine reg_run [] 9 [(0, [], Value.slice order.ptr order.len order.cap), (3, [], Value.pointer g), (5, [], Value.int .i64 ((order.len : Nat) : Int)), (6, [], Value.slice (some ⟨b_, 0, none⟩) ((IntKind.i64.wrap (((order.len : Nat) : Int) + 2)).toNat) ((IntKind.i64.wrap (((order.len : Nat) : Int) + 2)).toNat)), (7, [], Value.int .i64 i), (13, [], Value.int .i64 mark), (14, [], Value.slice v114.ptr v114.len v114.cap), (16, [], Value.int .i64 q), (128, [], Value.bool false), (129, [], Value.slice v114.ptr v114.len v114.cap), (130, [], Value.int .i64 q)] (by kernel_rfl) (by kernel_rfl) ?_
                          obtain ⟨hp_214, h⟩ := h
                          refine reg_conv [(0, [], Value.slice order.ptr order.len order.cap), (3, [], Value.pointer g), (5, [], Value.int .i64 ((order.len : Nat) : Int)), (6, [], Value.slice (some ⟨b_, 0, none⟩) ((IntKind.i64.wrap (((order.len : Nat) : Int) + 2)).toNat) ((IntKind.i64.wrap (((order.len : Nat) : Int) + 2)).toNat)), (7, [], Value.int .i64 i), (13, [], Value.int .i64 mark), (14, [], Value.slice v114.ptr v114.len v114.cap), (16, [], Value.int .i64 q), (128, [], Value.bool false), (129, [], Value.slice (some ⟨(pblk v114.ptr), (poff v114.ptr), none⟩) v114.len v114.cap), (130, [], Value.int .i64 q)] (congrArg (fun pp => ([(0, [], Value.slice order.ptr order.len order.cap), (3, [], Value.pointer g), (5, [], Value.int .i64 ((order.len : Nat) : Int)), (6, [], Value.slice (some ⟨b_, 0, none⟩) ((IntKind.i64.wrap (((order.len : Nat) : Int) + 2)).toNat) ((IntKind.i64.wrap (((order.len : Nat) : Int) + 2)).toNat)), (7, [], Value.int .i64 i), (13, [], Value.int .i64 mark), (14, [], Value.slice v114.ptr v114.len v114.cap), (16, [], Value.int .i64 q), (128, [], Value.bool false), (129, [], Value.slice pp v114.len v114.cap), (130, [], Value.int .i64 q)] : GEnv)) hp_214) ?_
                          obtain ⟨h0, h1, h⟩ := h
                          refine reg_indexS1 (t := 49) (e := 3) (x := (Go.Operand.tmp 129)) (ix := (Go.Operand.tmp 130)) (b := (pblk v114.ptr)) (o := (poff v114.ptr)) (l := v114.len) (c := v114.cap) (k := .i64) (j := q) (ty := 0) (dst := some 131) (by kernel_rfl) (by kernel_rfl) (by kernel_rfl) (by kernel_rfl) (by kernel_rfl) h0 h1 ?_
                          refine reg_run [] 10 [(0, [], Value.slice order.ptr order.len order.cap), (3, [], Value.pointer g), (5, [], Value.int .i64 ((order.len : Nat) : Int)), (6, [], Value.slice (some ⟨b_, 0, none⟩) ((IntKind.i64.wrap (((order.len : Nat) : Int) + 2)).toNat) ((IntKind.i64.wrap (((order.len : Nat) : Int) + 2)).toNat)), (7, [], Value.int .i64 i), (13, [], Value.int .i64 mark), (14, [], Value.slice v114.ptr v114.len v114.cap), (16, [], Value.int .i64 q), (128, [], Value.bool false), (131, [], Value.pointer (some ⟨(pblk v114.ptr), (poff v114.ptr) + q.toNat, none⟩))] (by kernel_rfl) (by kernel_rfl) ?_
                          obtain ⟨v132, hc, h⟩ := h
                          refine reg_load1 (t := 3) (a := (Go.Operand.tmp 131)) (b := (pblk v114.ptr)) (o := ((poff v114.ptr) + q.toNat)) (ty := 3) (dst := some 132) (by kernel_rfl) (by kernel_rfl) (by kernel_rfl) hc ?_
                          refine reg_run [.sure, .sure, .plain, .plain, .plain, .plain, .plain] 18 [(0, [], Value.slice order.ptr order.len order.cap), (3, [], Value.pointer g), (5, [], Value.int .i64 ((order.len : Nat) : Int)), (6, [], Value.slice (some ⟨b_, 0, none⟩) ((IntKind.i64.wrap (((order.len : Nat) : Int) + 2)).toNat) ((IntKind.i64.wrap (((order.len : Nat) : Int) + 2)).toNat)), (7, [], Value.int .i64 i), (13, [], Value.int .i64 mark), (14, [], Value.slice v114.ptr v114.len v114.cap), (16, [], Value.int .i64 q), (136, [], Value.bool (decide (v132 > ((order.len : Nat) : Int)))), (137, [(136, false)], Value.slice (some ⟨b_, 0, none⟩) ((IntKind.i64.wrap (((order.len : Nat) : Int) + 2)).toNat) ((IntKind.i64.wrap (((order.len : Nat) : Int) + 2)).toNat)), (138, [(136, false)], Value.slice v114.ptr v114.len v114.cap), (139, [(136, false)], Value.int .i64 q)] (by kernel_rfl) (by kernel_rfl) ?_
                          refine reg_split 136 (decide (v132 > ((order.len : Nat) : Int))) (by kernel_rfl) (fun hb => ?_) (fun hb => ?_)
                          · replace h := h.1 hb
                            refine reg_run [] 18 [(0, [], Value.slice order.ptr order.len order.cap), (3, [], Value.pointer g), (5, [], Value.int .i64 ((order.len : Nat) : Int)), (6, [], Value.slice (some ⟨b_, 0, none⟩) ((IntKind.i64.wrap (((order.len : Nat) : Int) + 2)).toNat) ((IntKind.i64.wrap (((order.len : Nat) : Int) + 2)).toNat)), (7, [], Value.int .i64 i), (13, [], Value.int .i64 mark), (14, [], Value.slice v114.ptr v114.len v114.cap), (16, [], Value.int .i64 q), (136, [], Value.bool true), (137, [], undef), (138, [], undef), (139, [], undef)] (by kernel_rfl) (by kernel_rfl) ?_
                            refine reg_run [.skip, .skip, .skip, .skip, .skip, .plain] 24 [(0, [], Value.slice order.ptr order.len order.cap), (3, [], Value.pointer g), (5, [], Value.int .i64 ((order.len : Nat) : Int)), (6, [], Value.slice (some ⟨b_, 0, none⟩) ((IntKind.i64.wrap (((order.len : Nat) : Int) + 2)).toNat) ((IntKind.i64.wrap (((order.len : Nat) : Int) + 2)).toNat)), (7, [], Value.int .i64 i), (13, [], Value.int .i64 mark), (14, [], Value.slice v114.ptr v114.len v114.cap), (16, [], Value.int .i64 q), (145, [], Value.bool true)] (by kernel_rfl) (by kernel_rfl) ?_
                            refine reg_end [(0, Value.slice order.ptr order.len order.cap), (3, Value.pointer g), (5, Value.int .i64 ((order.len : Nat) : Int)), (6, Value.slice (some ⟨b_, 0, none⟩) ((IntKind.i64.wrap (((order.len : Nat) : Int) + 2)).toNat) ((IntKind.i64.wrap (((order.len : Nat) : Int) + 2)).toNat)), (7, Value.int .i64 i), (13, Value.int .i64 mark), (14, Value.slice v114.ptr v114.len v114.cap), (16, Value.int .i64 q), (145, Value.bool true)] (by kernel_rfl) (by kernel_rfl) ?_
                            exact ⟨[(0, Value.slice order.ptr order.len order.cap), (3, Value.pointer g), (5, Value.int .i64 ((order.len : Nat) : Int)), (6, Value.slice (some ⟨b_, 0, none⟩) ((IntKind.i64.wrap (((order.len : Nat) : Int) + 2)).toNat) ((IntKind.i64.wrap (((order.len : Nat) : Int) + 2)).toNat)), (7, Value.int .i64 i), (13, Value.int .i64 mark), (14, Value.slice v114.ptr v114.len v114.cap), (16, Value.int .i64 q), (145, Value.bool true)], Sub.mk (by kernel_rfl), true, rfl, h⟩
                          · replace h := h.2 hb
                            refine reg_run [] 18 [(0, [], Value.slice order.ptr order.len order.cap), (3, [], Value.pointer g), (5, [], Value.int .i64 ((order.len : Nat) : Int)), (6, [], Value.slice (some ⟨b_, 0, none⟩) ((IntKind.i64.wrap (((order.len : Nat) : Int) + 2)).toNat) ((IntKind.i64.wrap (((order.len : Nat) : Int) + 2)).toNat)), (7, [], Value.int .i64 i), (13, [], Value.int .i64 mark), (14, [], Value.slice v114.ptr v114.len v114.cap), (16, [], Value.int .i64 q), (136, [], Value.bool false), (137, [], Value.slice (some ⟨b_, 0, none⟩) ((IntKind.i64.wrap (((order.len : Nat) : Int) + 2)).toNat) ((IntKind.i64.wrap (((order.len : Nat) : Int) + 2)).toNat)), (138, [], Value.slice v114.ptr v114.len v114.cap), (139, [], Value.int .i64 q)] (by kernel_rfl) (by kernel_rfl) ?_
                            refine reg_run [] 18 [(0, [], Value.slice order.ptr order.len order.cap), (3, [], Value.pointer g), (5, [], Value.int .i64 ((order.len : Nat) : Int)), (6, [], Value.slice (some ⟨b_, 0, none⟩) ((IntKind.i64.wrap (((order.len : Nat) : Int) + 2)).toNat) ((IntKind.i64.wrap (((order.len : Nat) : Int) + 2)).toNat)), (7, [], Value.int .i64 i), (13, [], Value.int .i64 mark), (14, [], Value.slice v114.ptr v114.len v114.cap), (16, [], Value.int .i64 q), (136, [], Value.bool false), (137, [], Value.slice (some ⟨b_, 0, none⟩) ((IntKind.i64.wrap (((order.len : Nat) : Int) + 2)).toNat) ((IntKind.i64.wrap (((order.len : Nat) : Int) + 2)).toNat)), (138, [], Value.slice v114.ptr v114.len v114.cap), (139, [], Value.int .i64 q)] (by kernel_rfl) (by kernel_rfl) ?_
                            obtain ⟨hp_215, h⟩ := h
                            refine reg_conv [(0, [], Value.slice order.ptr order.len order.cap), (3, [], Value.pointer g), (5, [], Value.int .i64 ((order.len : Nat) : Int)), (6, [], Value.slice (some ⟨b_, 0, none⟩) ((IntKind.i64.wrap (((order.len : Nat) : Int) + 2)).toNat) ((IntKind.i64.wrap (((order.len : Nat) : Int) + 2)).toNat)), (7, [], Value.int .i64 i), (13, [], Value.int .i64 mark), (14, [], Value.slice v114.ptr v114.len v114.cap), (16, [], Value.int .i64 q), (136, [], Value.bool false), (137, [], Value.slice (some ⟨b_, 0, none⟩) ((IntKind.i64.wrap (((order.len : Nat) : Int) + 2)).toNat) ((IntKind.i64.wrap (((order.len : Nat) : Int) + 2)).toNat)), (138, [], Value.slice (some ⟨(pblk v114.ptr), (poff v114.ptr), none⟩) v114.len v114.cap), (139, [], Value.int .i64 q)] (congrArg (fun pp => ([(0, [], Value.slice order.ptr order.len order.cap), (3, [], Value.pointer g), (5, [], Value.int .i64 ((order.len : Nat) : Int)), (6, [], Value.slice (some ⟨b_, 0, none⟩) ((IntKind.i64.wrap (((order.len : Nat) : Int) + 2)).toNat) ((IntKind.i64.wrap (((order.len : Nat) : Int) + 2)).toNat)), (7, [], Value.int .i64 i), (13, [], Value.int .i64 mark), (14, [], Value.slice v114.ptr v114.len v114.cap), (16, [], Value.int .i64 q), (136, [], Value.bool false), (137, [], Value.slice (some ⟨b_, 0, none⟩) ((IntKind.i64.wrap (((order.len : Nat) : Int) + 2)).toNat) ((IntKind.i64.wrap (((order.len : Nat) : Int) + 2)).toNat)), (138, [], Value.slice pp v114.len v114.cap), (139, [], Value.int .i64 q)] : GEnv)) hp_215) ?_
                            obtain ⟨h0, h1, h⟩ := h
                            refine reg_indexS1 (t := 49) (e := 3) (x := (Go.Operand.tmp 138)) (ix := (Go.Operand.tmp 139)) (b := (pblk v114.ptr)) (o := (poff v114.ptr)) (l := v114.len) (c := v114.cap) (k := .i64) (j := q) (ty := 0) (dst := some 140) (by kernel_rfl) (by kernel_rfl) (by kernel_rfl) (by kernel_rfl) (by kernel_rfl) h0 h1 ?_
                            refine reg_run [] 19 [(0, [], Value.slice order.ptr order.len order.cap), (3, [], Value.pointer g), (5, [], Value.int .i64 ((order.len : Nat) : Int)), (6, [], Value.slice (some ⟨b_, 0, none⟩) ((IntKind.i64.wrap (((order.len : Nat) : Int) + 2)).toNat) ((IntKind.i64.wrap (((order.len : Nat) : Int) + 2)).toNat)), (7, [], Value.int .i64 i), (13, [], Value.int .i64 mark), (14, [], Value.slice v114.ptr v114.len v114.cap), (16, [], Value.int .i64 q), (136, [], Value.bool false), (137, [], Value.slice (some ⟨b_, 0, none⟩) ((IntKind.i64.wrap (((order.len : Nat) : Int) + 2)).toNat) ((IntKind.i64.wrap (((order.len : Nat) : Int) + 2)).toNat)), (140, [], Value.pointer (some ⟨(pblk v114.ptr), (poff v114.ptr) + q.toNat, none⟩))] (by kernel_rfl) (by kernel_rfl) ?_
                            obtain ⟨v141, hc, h⟩ := h
                            refine reg_load1 (t := 3) (a := (Go.Operand.tmp 140)) (b := (pblk v114.ptr)) (o := ((poff v114.ptr) + q.toNat)) (ty := 3) (dst := some 141) (by kernel_rfl) (by kernel_rfl) (by kernel_rfl) hc ?_
                            refine reg_run [] 20 [(0, [], Value.slice order.ptr order.len order.cap), (3, [], Value.pointer g), (5, [], Value.int .i64 ((order.len : Nat) : Int)), (6, [], Value.slice (some ⟨b_, 0, none⟩) ((IntKind.i64.wrap (((order.len : Nat) : Int) + 2)).toNat) ((IntKind.i64.wrap (((order.len : Nat) : Int) + 2)).toNat)), (7, [], Value.int .i64 i), (13, [], Value.int .i64 mark), (14, [], Value.slice v114.ptr v114.len v114.cap), (16, [], Value.int .i64 q), (136, [], Value.bool false), (137, [], Value.slice (some ⟨b_, 0, none⟩) ((IntKind.i64.wrap (((order.len : Nat) : Int) + 2)).toNat) ((IntKind.i64.wrap (((order.len : Nat) : Int) + 2)).toNat)), (141, [], Value.int .i64 v141)] (by kernel_rfl) (by kernel_rfl) ?_
                            obtain ⟨h0, h1, h⟩ := h
                            refine reg_indexS1 (t := 47) (e := 4) (x := (Go.Operand.tmp 137)) (ix := (Go.Operand.tmp 141)) (b := b_) (o := 0) (l := ((IntKind.i64.wrap (((order.len : Nat) : Int) + 2)).toNat)) (c := ((IntKind.i64.wrap (((order.len : Nat) : Int) + 2)).toNat)) (k := .i64) (j := v141) (ty := 0) (dst := some 142) (by kernel_rfl) (by kernel_rfl) (by kernel_rfl) (by kernel_rfl) (by kernel_rfl) h0 h1 ?_
                            refine reg_run [] 21 [(0, [], Value.slice order.ptr order.len order.cap), (3, [], Value.pointer g), (5, [], Value.int .i64 ((order.len : Nat) : Int)), (6, [], Value.slice (some ⟨b_, 0, none⟩) ((IntKind.i64.wrap (((order.len : Nat) : Int) + 2)).toNat) ((IntKind.i64.wrap (((order.len : Nat) : Int) + 2)).toNat)), (7, [], Value.int .i64 i), (13, [], Value.int .i64 mark), (14, [], Value.slice v114.ptr v114.len v114.cap), (16, [], Value.int .i64 q), (136, [], Value.bool false), (142, [], Value.pointer (some ⟨b_, 0 + v141.toNat, none⟩))] (by kernel_rfl) (by kernel_rfl) ?_
                            obtain ⟨v143, hc, h⟩ := h
                            refine reg_load1 (t := 4) (a := (Go.Operand.tmp 142)) (b := b_) (o := (0 + v141.toNat)) (ty := 4) (dst := some 143) (by kernel_rfl) (by kernel_rfl) (by kernel_rfl) hc ?_
                            refine reg_run [.sure, .plain] 24 [(0, [], Value.slice order.ptr order.len order.cap), (3, [], Value.pointer g), (5, [], Value.int .i64 ((order.len : Nat) : Int)), (6, [], Value.slice (some ⟨b_, 0, none⟩) ((IntKind.i64.wrap (((order.len : Nat) : Int) + 2)).toNat) ((IntKind.i64.wrap (((order.len : Nat) : Int) + 2)).toNat)), (7, [], Value.int .i64 i), (13, [], Value.int .i64 mark), (14, [], Value.slice v114.ptr v114.len v114.cap), (16, [], Value.int .i64 q), (145, [], Value.bool (!v143))] (by kernel_rfl) (by kernel_rfl) ?_
                            refine reg_end [(0, Value.slice order.ptr order.len order.cap), (3, Value.pointer g), (5, Value.int .i64 ((order.len : Nat) : Int)), (6, Value.slice (some ⟨b_, 0, none⟩) ((IntKind.i64.wrap (((order.len : Nat) : Int) + 2)).toNat) ((IntKind.i64.wrap (((order.len : Nat) : Int) + 2)).toNat)), (7, Value.int .i64 i), (13, Value.int .i64 mark), (14, Value.slice v114.ptr v114.len v114.cap), (16, Value.int .i64 q), (145, Value.bool (!v143))] (by kernel_rfl) (by kernel_rfl) ?_
                            exact ⟨[(0, Value.slice order.ptr order.len order.cap), (3, Value.pointer g), (5, Value.int .i64 ((order.len : Nat) : Int)), (6, Value.slice (some ⟨b_, 0, none⟩) ((IntKind.i64.wrap (((order.len : Nat) : Int) + 2)).toNat) ((IntKind.i64.wrap (((order.len : Nat) : Int) + 2)).toNat)), (7, Value.int .i64 i), (13, Value.int .i64 mark), (14, Value.slice v114.ptr v114.len v114.cap), (16, Value.int .i64 q), (145, Value.bool (!v143))], Sub.mk (by kernel_rfl), (!v143), rfl, h⟩
                      · rintro _ w16 ⟨t145, rfl, h⟩
                        unfold F_towpathlaw12_GateOrders_k7 at h
                        refine wpE_cond (o := (Operand.tmp 145)) (b := t145) (x := c_towpathlaw12_GateOrders_135) (y := c_towpathlaw12_GateOrders_139) (by kernel_rfl) (by kernel_rfl) (fun hb => ?_) (fun hb => ?_)
                        · replace h := h.1 hb
                          refine wpE_seq (x := c_towpathlaw12_GateOrders_136) (y := c_towpathlaw12_GateOrders_138) (by kernel_rfl) ?_
                          refine wpE_region (id := 31) (ops := r_towpathlaw12_GateOrders_136) (by kernel_rfl) ?_
                          refine reg_run [.plain] 1 [(2, [], Value.bool false)] (by kernel_rfl) (by kernel_rfl) ?_
                          refine reg_end [(2, Value.bool false)] (by kernel_rfl) (by kernel_rfl) ?_
                          change WpE _ _ c_towpathlaw12_GateOrders_138 _ _ _
                          refine wpE_ret (by kernel_rfl) ?_
                          repeat (first | refine seqQ_ret ?_ | refine blockQ_ret ?_ | refine loopQ_ret ?_ | refine cutQ_ret ?_)
                          exact retS (rs := [(Go.ResultVar.tmp 2)]) (v := Value.bool false) (by kernel_rfl) (⟨by kernel_rfl, trivial⟩) ⟨false, rfl, h⟩
                        · replace h := h.2 hb
                          refine wpE_skip (by kernel_rfl) ?_
                          change WpE _ _ c_towpathlaw12_GateOrders_140 _ _ _
                          refine wpE_region (id := 32) (ops := r_towpathlaw12_GateOrders_140) (by kernel_rfl) ?_
                          refine reg_run [.plain, .plain] 2 [(0, [], Value.slice order.ptr order.len order.cap), (3, [], Value.pointer g), (5, [], Value.int .i64 ((order.len : Nat) : Int)), (6, [], Value.slice (some ⟨b_, 0, none⟩) ((IntKind.i64.wrap (((order.len : Nat) : Int) + 2)).toNat) ((IntKind.i64.wrap (((order.len : Nat) : Int) + 2)).toNat)), (7, [], Value.int .i64 i), (13, [], Value.int .i64 mark), (14, [], Value.slice v114.ptr v114.len v114.cap), (16, [], Value.int .i64 q), (146, [], Value.slice v114.ptr v114.len v114.cap), (147, [], Value.int .i64 q)] (by kernel_rfl) (by kernel_rfl) ?_
                          obtain ⟨hp_212, h⟩ := h
                          refine reg_conv [(0, [], Value.slice order.ptr order.len order.cap), (3, [], Value.pointer g), (5, [], Value.int .i64 ((order.len : Nat) : Int)), (6, [], Value.slice (some ⟨b_, 0, none⟩) ((IntKind.i64.wrap (((order.len : Nat) : Int) + 2)).toNat) ((IntKind.i64.wrap (((order.len : Nat) : Int) + 2)).toNat)), (7, [], Value.int .i64 i), (13, [], Value.int .i64 mark), (14, [], Value.slice v114.ptr v114.len v114.cap), (16, [], Value.int .i64 q), (146, [], Value.slice (some ⟨(pblk v114.ptr), (poff v114.ptr), none⟩) v114.len v114.cap), (147, [], Value.int .i64 q)] (congrArg (fun pp => ([(0, [], Value.slice order.ptr order.len order.cap), (3, [], Value.pointer g), (5, [], Value.int .i64 ((order.len : Nat) : Int)), (6, [], Value.slice (some ⟨b_, 0, none⟩) ((IntKind.i64.wrap (((order.len : Nat) : Int) + 2)).toNat) ((IntKind.i64.wrap (((order.len : Nat) : Int) + 2)).toNat)), (7, [], Value.int .i64 i), (13, [], Value.int .i64 mark), (14, [], Value.slice v114.ptr v114.len v114.cap), (16, [], Value.int .i64 q), (146, [], Value.slice pp v114.len v114.cap), (147, [], Value.int .i64 q)] : GEnv)) hp_212) ?_
                          obtain ⟨h0, h1, h⟩ := h
                          refine reg_indexS1 (t := 49) (e := 3) (x := (Go.Operand.tmp 146)) (ix := (Go.Operand.tmp 147)) (b := (pblk v114.ptr)) (o := (poff v114.ptr)) (l := v114.len) (c := v114.cap) (k := .i64) (j := q) (ty := 0) (dst := some 148) (by kernel_rfl) (by kernel_rfl) (by kernel_rfl) (by kernel_rfl) (by kernel_rfl) h0 h1 ?_
                          refine reg_run [] 3 [(0, [], Value.slice order.ptr order.len order.cap), (3, [], Value.pointer g), (5, [], Value.int .i64 ((order.len : Nat) : Int)), (6, [], Value.slice (some ⟨b_, 0, none⟩) ((IntKind.i64.wrap (((order.len : Nat) : Int) + 2)).toNat) ((IntKind.i64.wrap (((order.len : Nat) : Int) + 2)).toNat)), (7, [], Value.int .i64 i), (13, [], Value.int .i64 mark), (14, [], Value.slice v114.ptr v114.len v114.cap), (16, [], Value.int .i64 q), (148, [], Value.pointer (some ⟨(pblk v114.ptr), (poff v114.ptr) + q.toNat, none⟩))] (by kernel_rfl) (by kernel_rfl) ?_
                          obtain ⟨last1, hc, h⟩ := h
                          refine reg_load1 (t := 3) (a := (Go.Operand.tmp 148)) (b := (pblk v114.ptr)) (o := ((poff v114.ptr) + q.toNat)) (ty := 3) (dst := some 149) (by kernel_rfl) (by kernel_rfl) (by kernel_rfl) hc ?_
                          refine reg_run [.plain] 5 [(0, [], Value.slice order.ptr order.len order.cap), (3, [], Value.pointer g), (5, [], Value.int .i64 ((order.len : Nat) : Int)), (6, [], Value.slice (some ⟨b_, 0, none⟩) ((IntKind.i64.wrap (((order.len : Nat) : Int) + 2)).toNat) ((IntKind.i64.wrap (((order.len : Nat) : Int) + 2)).toNat)), (7, [], Value.int .i64 i), (13, [], Value.int .i64 mark), (14, [], Value.slice v114.ptr v114.len v114.cap), (15, [], Value.int .i64 last1), (16, [], Value.int .i64 q)] (by kernel_rfl) (by kernel_rfl) ?_
                          refine reg_end [(0, Value.slice order.ptr order.len order.cap), (3, Value.pointer g), (5, Value.int .i64 ((order.len : Nat) : Int)), (6, Value.slice (some ⟨b_, 0, none⟩) ((IntKind.i64.wrap (((order.len : Nat) : Int) + 2)).toNat) ((IntKind.i64.wrap (((order.len : Nat) : Int) + 2)).toNat)), (7, Value.int .i64 i), (13, Value.int .i64 mark), (14, Value.slice v114.ptr v114.len v114.cap), (15, Value.int .i64 last1), (16, Value.int .i64 q)] (by kernel_rfl) (by kernel_rfl) ?_
                          change WpE _ _ c_towpathlaw12_GateOrders_142 _ _ _
                          refine wpE_region (id := 29) (ops := r_towpathlaw12_GateOrders_142) (by kernel_rfl) ?_
                          refine reg_run [.plain, .plain, .plain] 3 [(0, [], Value.slice order.ptr order.len order.cap), (3, [], Value.pointer g), (5, [], Value.int .i64 ((order.len : Nat) : Int)), (6, [], Value.slice (some ⟨b_, 0, none⟩) ((IntKind.i64.wrap (((order.len : Nat) : Int) + 2)).toNat) ((IntKind.i64.wrap (((order.len : Nat) : Int) + 2)).toNat)), (7, [], Value.int .i64 i), (13, [], Value.int .i64 mark), (14, [], Value.slice v114.ptr v114.len v114.cap), (15, [], Value.int .i64 last1), (16, [], Value.int .i64 (IntKind.i64.wrap (q + 1)))] (by kernel_rfl) (by kernel_rfl) ?_
                          refine reg_end [(0, Value.slice order.ptr order.len order.cap), (3, Value.pointer g), (5, Value.int .i64 ((order.len : Nat) : Int)), (6, Value.slice (some ⟨b_, 0, none⟩) ((IntKind.i64.wrap (((order.len : Nat) : Int) + 2)).toNat) ((IntKind.i64.wrap (((order.len : Nat) : Int) + 2)).toNat)), (7, Value.int .i64 i), (13, Value.int .i64 mark), (14, Value.slice v114.ptr v114.len v114.cap), (15, Value.int .i64 last1), (16, Value.int .i64 (IntKind.i64.wrap (q + 1)))] (by kernel_rfl) (by kernel_rfl) ?_
                          have hb_ := again_3_h _ _ _ h
                          exact ⟨_, hb_.2, [(0, Value.slice order.ptr order.len order.cap), (3, Value.pointer g), (5, Value.int .i64 ((order.len : Nat) : Int)), (6, Value.slice (some ⟨b_, 0, none⟩) ((IntKind.i64.wrap (((order.len : Nat) : Int) + 2)).toNat) ((IntKind.i64.wrap (((order.len : Nat) : Int) + 2)).toNat)), (7, Value.int .i64 i), (13, Value.int .i64 mark), (14, Value.slice v114.ptr v114.len v114.cap), (15, Value.int .i64 last1), (16, Value.int .i64 (IntKind.i64.wrap (q + 1)))], Sub.mk (by kernel_rfl), last1, (IntKind.i64.wrap (q + 1)), rfl, hb_.1, rfl⟩
                    · replace h := h.2 hb
                      refine wpE_exit (id := 6) (by kernel_rfl) ?_
                      change WpE _ _ c_towpathlaw12_GateOrders_144 _ _ _
                      refine wpE_seq (x := c_towpathlaw12_GateOrders_145) (y := c_towpathlaw12_GateOrders_147) (by kernel_rfl) ?_
                      refine wpE_region (id := 33) (ops := r_towpathlaw12_GateOrders_145) (by kernel_rfl) ?_
                      refine reg_run [.plain] 1 [(0, [], Value.slice order.ptr order.len order.cap), (3, [], Value.pointer g), (5, [], Value.int .i64 ((order.len : Nat) : Int)), (6, [], Value.slice (some ⟨b_, 0, none⟩) ((IntKind.i64.wrap (((order.len : Nat) : Int) + 2)).toNat) ((IntKind.i64.wrap (((order.len : Nat) : Int) + 2)).toNat)), (7, [], Value.int .i64 i), (13, [], Value.int .i64 mark), (14, [], Value.slice v114.ptr v114.len v114.cap), (17, [], Value.int .i64 0)] (by kernel_rfl) (by kernel_rfl) ?_
                      refine reg_end [(0, Value.slice order.ptr order.len order.cap), (3, Value.pointer g), (5, Value.int .i64 ((order.len : Nat) : Int)), (6, Value.slice (some ⟨b_, 0, none⟩) ((IntKind.i64.wrap (((order.len : Nat) : Int) + 2)).toNat) ((IntKind.i64.wrap (((order.len : Nat) : Int) + 2)).toNat)), (7, Value.int .i64 i), (13, Value.int .i64 mark), (14, Value.slice v114.ptr v114.len v114.cap), (17, Value.int .i64 0)] (by kernel_rfl) (by kernel_rfl) ?_
                      change WpE _ _ c_towpathlaw12_GateOrders_147 _ _ _
                      refine wpE_seq (x := c_towpathlaw12_GateOrders_148) (y := c_towpathlaw12_GateOrders_181) (by kernel_rfl) ?_
                      refine wpE_seq (x := c_towpathlaw12_GateOrders_149) (y := c_towpathlaw12_GateOrders_151) (by kernel_rfl) ?_
                      refine wpE_region (id := 34) (ops := r_towpathlaw12_GateOrders_149) (by kernel_rfl) ?_
                      refine reg_run [.plain] 1 [(0, [], Value.slice order.ptr order.len order.cap), (3, [], Value.pointer g), (5, [], Value.int .i64 ((order.len : Nat) : Int)), (6, [], Value.slice (some ⟨b_, 0, none⟩) ((IntKind.i64.wrap (((order.len : Nat) : Int) + 2)).toNat) ((IntKind.i64.wrap (((order.len : Nat) : Int) + 2)).toNat)), (7, [], Value.int .i64 i), (13, [], Value.int .i64 mark), (14, [], Value.slice v114.ptr v114.len v114.cap), (17, [], Value.int .i64 0), (18, [], Value.int .i64 1)] (by kernel_rfl) (by kernel_rfl) ?_
                      refine reg_end [(0, Value.slice order.ptr order.len order.cap), (3, Value.pointer g), (5, Value.int .i64 ((order.len : Nat) : Int)), (6, Value.slice (some ⟨b_, 0, none⟩) ((IntKind.i64.wrap (((order.len : Nat) : Int) + 2)).toNat) ((IntKind.i64.wrap (((order.len : Nat) : Int) + 2)).toNat)), (7, Value.int .i64 i), (13, Value.int .i64 mark), (14, Value.slice v114.ptr v114.len v114.cap), (17, Value.int .i64 0), (18, Value.int .i64 1)] (by kernel_rfl) (by kernel_rfl) ?_
                      change WpE _ _ c_towpathlaw12_GateOrders_151 _ _ _
                      refine wpE_block (id := 8) (x := c_towpathlaw12_GateOrders_152) (by kernel_rfl) ?_
                      obtain ⟨I, μ, h0, hr⟩ := h
                      refine wpE_loop (x := c_towpathlaw12_GateOrders_153) (by kernel_rfl) (fun m l w => ∃ (many : Int) (q1 : Int), l = [(0, Value.slice order.ptr order.len order.cap), (3, Value.pointer g), (5, Value.int .i64 ((order.len : Nat) : Int)), (6, Value.slice (some ⟨b_, 0, none⟩) ((IntKind.i64.wrap (((order.len : Nat) : Int) + 2)).toNat) ((IntKind.i64.wrap (((order.len : Nat) : Int) + 2)).toNat)), (7, Value.int .i64 i), (13, Value.int .i64 mark), (14, Value.slice v114.ptr v114.len v114.cap), (17, Value.int .i64 many), (18, Value.int .i64 q1)] ∧ I many q1 w ∧ μ many q1 w = m) (l' := [(0, Value.slice order.ptr order.len order.cap), (3, Value.pointer g), (5, Value.int .i64 ((order.len : Nat) : Int)), (6, Value.slice (some ⟨b_, 0, none⟩) ((IntKind.i64.wrap (((order.len : Nat) : Int) + 2)).toNat) ((IntKind.i64.wrap (((order.len : Nat) : Int) + 2)).toNat)), (7, Value.int .i64 i), (13, Value.int .i64 mark), (14, Value.slice v114.ptr v114.len v114.cap), (17, Value.int .i64 0), (18, Value.int .i64 1)]) (Sub.mk (by kernel_rfl)) ⟨0, 1, rfl, h0, rfl⟩ ?_
                      rintro _ _ w17 ⟨many, q1, rfl, hI, rfl⟩
                      obtain ⟨again_4, again_4_h, h⟩ : ∃ again_4 : Int → Int → World → Prop, (∀ many' q1' w', again_4 many' q1' w' → I many' q1' w' ∧ μ many' q1' w' < μ many q1 w17) ∧ F_towpathlaw12_GateOrders_L8 order R g b_ i again_ k mark v114 again_4 many q1 w17 := ⟨_, fun _ _ _ h => h, hr many q1 w17 hI⟩
                      clear h0 hI
                      unfold F_towpathlaw12_GateOrders_L8 at h
                      refine wpE_seq (x := c_towpathlaw12_GateOrders_154) (y := c_towpathlaw12_GateOrders_160) (by kernel_rfl) ?_
                      refine wpE_seq (x := c_towpathlaw12_GateOrders_155) (y := c_towpathlaw12_GateOrders_157) (by kernel_rfl) ?_
                      refine wpE_region (id := 35) (ops := r_towpathlaw12_GateOrders_155) (by kernel_rfl) ?_
                      refine reg_run [.plain, .plain, .plain] 3 [(0, [], Value.slice order.ptr order.len order.cap), (3, [], Value.pointer g), (5, [], Value.int .i64 ((order.len : Nat) : Int)), (6, [], Value.slice (some ⟨b_, 0, none⟩) ((IntKind.i64.wrap (((order.len : Nat) : Int) + 2)).toNat) ((IntKind.i64.wrap (((order.len : Nat) : Int) + 2)).toNat)), (7, [], Value.int .i64 i), (13, [], Value.int .i64 mark), (14, [], Value.slice v114.ptr v114.len v114.cap), (17, [], Value.int .i64 many), (18, [], Value.int .i64 q1), (152, [], Value.bool (decide (q1 ≤ ((order.len : Nat) : Int))))] (by kernel_rfl) (by kernel_rfl) ?_
                      refine reg_end [(0, Value.slice order.ptr order.len order.cap), (3, Value.pointer g), (5, Value.int .i64 ((order.len : Nat) : Int)), (6, Value.slice (some ⟨b_, 0, none⟩) ((IntKind.i64.wrap (((order.len : Nat) : Int) + 2)).toNat) ((IntKind.i64.wrap (((order.len : Nat) : Int) + 2)).toNat)), (7, Value.int .i64 i), (13, Value.int .i64 mark), (14, Value.slice v114.ptr v114.len v114.cap), (17, Value.int .i64 many), (18, Value.int .i64 q1), (152, Value.bool (decide (q1 ≤ ((order.len : Nat) : Int))))] (by kernel_rfl) (by kernel_rfl) ?_
                      change WpE _ _ c_towpathlaw12_GateOrders_157 _ _ _
                      refine wpE_cond (o := (Operand.tmp 152)) (b := (decide (q1 ≤ ((order.len : Nat) : Int)))) (x := c_towpathlaw12_GateOrders_158) (y := c_towpathlaw12_GateOrders_159) (by kernel_rfl) (by kernel_rfl) (fun hb => ?_) (fun hb => ?_)
                      · replace h := h.1 hb
                        refine wpE_skip (by kernel_rfl) ?_
                        change WpE _ _ c_towpathlaw12_GateOrders_160 _ _ _
                        refine wpE_seq_cut (x := c_towpathlaw12_GateOrders_161) (y := c_towpathlaw12_GateOrders_179) (by kernel_rfl) (fun l w => ∃ (many1 : Int), l = [(0, Value.slice order.ptr order.len order.cap), (3, Value.pointer g), (5, Value.int .i64 ((order.len : Nat) : Int)), (6, Value.slice (some ⟨b_, 0, none⟩) ((IntKind.i64.wrap (((order.len : Nat) : Int) + 2)).toNat) ((IntKind.i64.wrap (((order.len : Nat) : Int) + 2)).toNat)), (7, Value.int .i64 i), (13, Value.int .i64 mark), (14, Value.slice v114.ptr v114.len v114.cap), (17, Value.int .i64 many1), (18, Value.int .i64 q1)] ∧ F_towpathlaw12_GateOrders_k9 q1 again_4 many1 w) ?_ ?_
                        · refine wpE_block (id := 9) (x := c_towpathlaw12_GateOrders_162) (by kernel_rfl) ?_
                          refine wpE_seq (x := c_towpathlaw12_GateOrders_163) (y := c_towpathlaw12_GateOrders_172) (by kernel_rfl) ?_
                          refine wpE_seq (x := c_towpathlaw12_GateOrders_164) (y := c_towpathlaw12_GateOrders_166) (by kernel_rfl) ?_
                          refine wpE_mixregion (id := 37) (ops := r_towpathlaw12_GateOrders_164) o_towpathlaw12_GateOrders_164 (by kernel_rfl) (by kernel_rfl) (by kernel_rfl) (by kernel_rfl) (fun w19 hw => ?_)
                          replace h := h w19 hw
                          clear hw
                          refine mreg_run [.plain, .plain, .plain, .plain] 4 [(0, [], Value.slice order.ptr order.len order.cap), (3, [], Value.pointer g), (5, [], Value.int .i64 ((order.len : Nat) : Int)), (6, [], Value.slice (some ⟨b_, 0, none⟩) ((IntKind.i64.wrap (((order.len : Nat) : Int) + 2)).toNat) ((IntKind.i64.wrap (((order.len : Nat) : Int) + 2)).toNat)), (7, [], Value.int .i64 i), (13, [], Value.int .i64 mark), (14, [], Value.slice v114.ptr v114.len v114.cap), (17, [], Value.int .i64 many), (18, [], Value.int .i64 q1), (155, [], Value.pointer g), (156, [], Value.int .i64 q1), (158, [], Value.slice (some ⟨b_, 0, none⟩) ((IntKind.i64.wrap (((order.len : Nat) : Int) + 2)).toNat) ((IntKind.i64.wrap (((order.len : Nat) : Int) + 2)).toNat)), (159, [], Value.int .i64 q1)] (by kernel_rfl) (by kernel_rfl) ?_
                          obtain ⟨h0, h1, h⟩ := h
                          refine mreg_indexS1 (i := 5) (by kernel_rfl) (t := 47) (e := 4) (x := (Go.Operand.tmp 158)) (ix := (Go.Operand.tmp 159)) (b := b_) (o := 0) (l := ((IntKind.i64.wrap (((order.len : Nat) : Int) + 2)).toNat)) (c := ((IntKind.i64.wrap (((order.len : Nat) : Int) + 2)).toNat)) (k := .i64) (j := q1) (ty := 0) (dst := some 160) (by kernel_rfl) (by kernel_rfl) (by kernel_rfl) (by kernel_rfl) (by kernel_rfl) h0 h1 ?_
                          refine mreg_run [] 5 [(0, [], Value.slice order.ptr order.len order.cap), (3, [], Value.pointer g), (5, [], Value.int .i64 ((order.len : Nat) : Int)), (6, [], Value.slice (some ⟨b_, 0, none⟩) ((IntKind.i64.wrap (((order.len : Nat) : Int) + 2)).toNat) ((IntKind.i64.wrap (((order.len : Nat) : Int) + 2)).toNat)), (7, [], Value.int .i64 i), (13, [], Value.int .i64 mark), (14, [], Value.slice v114.ptr v114.len v114.cap), (17, [], Value.int .i64 many), (18, [], Value.int .i64 q1), (155, [], Value.pointer g), (156, [], Value.int .i64 q1), (160, [], Value.pointer (some ⟨b_, 0 + q1.toNat, none⟩))] (by kernel_rfl) (by kernel_rfl) ?_
                          obtain ⟨v161, hc, h⟩ := h
                          refine mreg_load1 (i := 6) (by kernel_rfl) (t := 4) (a := (Go.Operand.tmp 160)) (b := b_) (o := (0 + q1.toNat)) (ty := 4) (dst := some 161) (by kernel_rfl) (by kernel_rfl) (by kernel_rfl) hc ?_
                          refine mreg_run [] 6 [(0, [], Value.slice order.ptr order.len order.cap), (3, [], Value.pointer g), (5, [], Value.int .i64 ((order.len : Nat) : Int)), (6, [], Value.slice (some ⟨b_, 0, none⟩) ((IntKind.i64.wrap (((order.len : Nat) : Int) + 2)).toNat) ((IntKind.i64.wrap (((order.len : Nat) : Int) + 2)).toNat)), (7, [], Value.int .i64 i), (13, [], Value.int .i64 mark), (14, [], Value.slice v114.ptr v114.len v114.cap), (17, [], Value.int .i64 many), (18, [], Value.int .i64 q1), (155, [], Value.pointer g), (156, [], Value.int .i64 q1), (161, [], Value.bool v161)] (by kernel_rfl) (by kernel_rfl) ?_
                          refine mreg_enter (op := (Go.Op.call (Go.Call.mk (Go.Callee.value (Go.Operand.func 34)) #[(Go.Operand.tmp 155), (Go.Operand.tmp 156)] #[44, 3]))) (ty := 4) (dst := some 157) 2 [0, 1] [(6, fun w' => w'.cell? ⟨b_, 0 + q1.toNat, none⟩ = some (Value.bool v161))] 34 #[Value.pointer g, Value.int .i64 q1] (by kernel_rfl) (by kernel_rfl) (by kernel_rfl) (by kernel_rfl) (by kernel_rfl) (fun ww => by kernel_rfl) (Calls.mono h ?_)
                          rintro _ w20 ⟨v157, rfl, h⟩
                          obtain ⟨hk0, h⟩ := h
                          refine ⟨_, rfl, ⟨hk0, trivial⟩, ?_⟩
                          refine mreg_run [.plain] 8 [(0, [], Value.slice order.ptr order.len order.cap), (3, [], Value.pointer g), (5, [], Value.int .i64 ((order.len : Nat) : Int)), (6, [], Value.slice (some ⟨b_, 0, none⟩) ((IntKind.i64.wrap (((order.len : Nat) : Int) + 2)).toNat) ((IntKind.i64.wrap (((order.len : Nat) : Int) + 2)).toNat)), (7, [], Value.int .i64 i), (13, [], Value.int .i64 mark), (14, [], Value.slice v114.ptr v114.len v114.cap), (17, [], Value.int .i64 many), (18, [], Value.int .i64 q1), (162, [], Value.bool (!(v157 == v161)))] (by kernel_rfl) (by kernel_rfl) ?_
                          refine mreg_end [(0, Value.slice order.ptr order.len order.cap), (3, Value.pointer g), (5, Value.int .i64 ((order.len : Nat) : Int)), (6, Value.slice (some ⟨b_, 0, none⟩) ((IntKind.i64.wrap (((order.len : Nat) : Int) + 2)).toNat) ((IntKind.i64.wrap (((order.len : Nat) : Int) + 2)).toNat)), (7, Value.int .i64 i), (13, Value.int .i64 mark), (14, Value.slice v114.ptr v114.len v114.cap), (17, Value.int .i64 many), (18, Value.int .i64 q1), (162, Value.bool (!(v157 == v161)))] (by kernel_rfl) (by kernel_rfl) (by kernel_rfl) ?_
                          change WpE _ _ c_towpathlaw12_GateOrders_166 _ _ _
                          refine wpE_cond (o := (Operand.tmp 162)) (b := (!(v157 == v161))) (x := c_towpathlaw12_GateOrders_167) (y := c_towpathlaw12_GateOrders_171) (by kernel_rfl) (by kernel_rfl) (fun hb => ?_) (fun hb => ?_)
                          · replace h := h.1 hb
                            refine wpE_seq (x := c_towpathlaw12_GateOrders_168) (y := c_towpathlaw12_GateOrders_170) (by kernel_rfl) ?_
                            refine wpE_region (id := 38) (ops := r_towpathlaw12_GateOrders_168) (by kernel_rfl) ?_
                            refine reg_run [.plain] 1 [(2, [], Value.bool false)] (by kernel_rfl) (by kernel_rfl) ?_
                            refine reg_end [(2, Value.bool false)] (by kernel_rfl) (by kernel_rfl) ?_
                            change WpE _ _ c_towpathlaw12_GateOrders_170 _ _ _
                            refine wpE_ret (by kernel_rfl) ?_
                            repeat (first | refine seqQ_ret ?_ | refine blockQ_ret ?_ | refine loopQ_ret ?_ | refine cutQ_ret ?_)
                            exact retS (rs := [(Go.ResultVar.tmp 2)]) (v := Value.bool false) (by kernel_rfl) (⟨by kernel_rfl, trivial⟩) ⟨false, rfl, h⟩
                          · replace h := h.2 hb
                            refine wpE_skip (by kernel_rfl) ?_
                            change WpE _ _ c_towpathlaw12_GateOrders_172 _ _ _
                            refine wpE_seq (x := c_towpathlaw12_GateOrders_173) (y := c_towpathlaw12_GateOrders_175) (by kernel_rfl) ?_
                            refine wpE_region (id := 39) (ops := r_towpathlaw12_GateOrders_173) (by kernel_rfl) ?_
                            refine reg_run [.plain, .plain] 2 [(0, [], Value.slice order.ptr order.len order.cap), (3, [], Value.pointer g), (5, [], Value.int .i64 ((order.len : Nat) : Int)), (6, [], Value.slice (some ⟨b_, 0, none⟩) ((IntKind.i64.wrap (((order.len : Nat) : Int) + 2)).toNat) ((IntKind.i64.wrap (((order.len : Nat) : Int) + 2)).toNat)), (7, [], Value.int .i64 i), (13, [], Value.int .i64 mark), (14, [], Value.slice v114.ptr v114.len v114.cap), (17, [], Value.int .i64 many), (18, [], Value.int .i64 q1), (163, [], Value.slice (some ⟨b_, 0, none⟩) ((IntKind.i64.wrap (((order.len : Nat) : Int) + 2)).toNat) ((IntKind.i64.wrap (((order.len : Nat) : Int) + 2)).toNat)), (164, [], Value.int .i64 q1)] (by kernel_rfl) (by kernel_rfl) ?_
                            obtain ⟨h0, h1, h⟩ := h
                            refine reg_indexS1 (t := 47) (e := 4) (x := (Go.Operand.tmp 163)) (ix := (Go.Operand.tmp 164)) (b := b_) (o := 0) (l := ((IntKind.i64.wrap (((order.len : Nat) : Int) + 2)).toNat)) (c := ((IntKind.i64.wrap (((order.len : Nat) : Int) + 2)).toNat)) (k := .i64) (j := q1) (ty := 0) (dst := some 165) (by kernel_rfl) (by kernel_rfl) (by kernel_rfl) (by kernel_rfl) (by kernel_rfl) h0 h1 ?_
                            refine reg_run [] 3 [(0, [], Value.slice order.ptr order.len order.cap), (3, [], Value.pointer g), (5, [], Value.int .i64 ((order.len : Nat) : Int)), (6, [], Value.slice (some ⟨b_, 0, none⟩) ((IntKind.i64.wrap (((order.len : Nat) : Int) + 2)).toNat) ((IntKind.i64.wrap (((order.len : Nat) : Int) + 2)).toNat)), (7, [], Value.int .i64 i), (13, [], Value.int .i64 mark), (14, [], Value.slice v114.ptr v114.len v114.cap), (17, [], Value.int .i64 many), (18, [], Value.int .i64 q1), (165, [], Value.pointer (some ⟨b_, 0 + q1.toNat, none⟩))] (by kernel_rfl) (by kernel_rfl) ?_
                            obtain ⟨v166, hc, h⟩ := h
                            refine reg_load1 (t := 4) (a := (Go.Operand.tmp 165)) (b := b_) (o := (0 + q1.toNat)) (ty := 4) (dst := some 166) (by kernel_rfl) (by kernel_rfl) (by kernel_rfl) hc ?_
                            refine reg_run [.plain, .plain, .plain, .plain, .pick] 9 [(0, [], Value.slice order.ptr order.len order.cap), (3, [], Value.pointer g), (5, [], Value.int .i64 ((order.len : Nat) : Int)), (6, [], Value.slice (some ⟨b_, 0, none⟩) ((IntKind.i64.wrap (((order.len : Nat) : Int) + 2)).toNat) ((IntKind.i64.wrap (((order.len : Nat) : Int) + 2)).toNat)), (7, [], Value.int .i64 i), (13, [], Value.int .i64 mark), (14, [], Value.slice v114.ptr v114.len v114.cap), (17, [], Value.int .i64 many), (18, [], Value.int .i64 q1), (171, [], Value.bool (v166 && (decide (q1 > mark))))] (by kernel_rfl) (by kernel_rfl) ?_
                            refine reg_end [(0, Value.slice order.ptr order.len order.cap), (3, Value.pointer g), (5, Value.int .i64 ((order.len : Nat) : Int)), (6, Value.slice (some ⟨b_, 0, none⟩) ((IntKind.i64.wrap (((order.len : Nat) : Int) + 2)).toNat) ((IntKind.i64.wrap (((order.len : Nat) : Int) + 2)).toNat)), (7, Value.int .i64 i), (13, Value.int .i64 mark), (14, Value.slice v114.ptr v114.len v114.cap), (17, Value.int .i64 many), (18, Value.int .i64 q1), (171, Value.bool (v166 && (decide (q1 > mark))))] (by kernel_rfl) (by kernel_rfl) ?_
                            change WpE _ _ c_towpathlaw12_GateOrders_175 _ _ _
                            refine wpE_cond (o := (Operand.tmp 171)) (b := (v166 && (decide (q1 > mark)))) (x := c_towpathlaw12_GateOrders_176) (y := c_towpathlaw12_GateOrders_178) (by kernel_rfl) (by kernel_rfl) (fun hb => ?_) (fun hb => ?_)
                            · replace h := h.1 hb
                              refine wpE_region (id := 40) (ops := r_towpathlaw12_GateOrders_176) (by kernel_rfl) ?_
                              refine reg_run [.plain, .plain, .plain] 3 [(0, [], Value.slice order.ptr order.len order.cap), (3, [], Value.pointer g), (5, [], Value.int .i64 ((order.len : Nat) : Int)), (6, [], Value.slice (some ⟨b_, 0, none⟩) ((IntKind.i64.wrap (((order.len : Nat) : Int) + 2)).toNat) ((IntKind.i64.wrap (((order.len : Nat) : Int) + 2)).toNat)), (7, [], Value.int .i64 i), (13, [], Value.int .i64 mark), (14, [], Value.slice v114.ptr v114.len v114.cap), (17, [], Value.int .i64 (IntKind.i64.wrap (many + 1))), (18, [], Value.int .i64 q1)] (by kernel_rfl) (by kernel_rfl) ?_
                              refine reg_end [(0, Value.slice order.ptr order.len order.cap), (3, Value.pointer g), (5, Value.int .i64 ((order.len : Nat) : Int)), (6, Value.slice (some ⟨b_, 0, none⟩) ((IntKind.i64.wrap (((order.len : Nat) : Int) + 2)).toNat) ((IntKind.i64.wrap (((order.len : Nat) : Int) + 2)).toNat)), (7, Value.int .i64 i), (13, Value.int .i64 mark), (14, Value.slice v114.ptr v114.len v114.cap), (17, Value.int .i64 (IntKind.i64.wrap (many + 1))), (18, Value.int .i64 q1)] (by kernel_rfl) (by kernel_rfl) ?_
                              exact ⟨[(0, Value.slice order.ptr order.len order.cap), (3, Value.pointer g), (5, Value.int .i64 ((order.len : Nat) : Int)), (6, Value.slice (some ⟨b_, 0, none⟩) ((IntKind.i64.wrap (((order.len : Nat) : Int) + 2)).toNat) ((IntKind.i64.wrap (((order.len : Nat) : Int) + 2)).toNat)), (7, Value.int .i64 i), (13, Value.int .i64 mark), (14, Value.slice v114.ptr v114.len v114.cap), (17, Value.int .i64 (IntKind.i64.wrap (many + 1))), (18, Value.int .i64 q1)], Sub.mk (by kernel_rfl), (IntKind.i64.wrap (many + 1)), rfl, h⟩
                            · replace h := h.2 hb
                              refine wpE_skip (by kernel_rfl) ?_
                              exact ⟨[(0, Value.slice order.ptr order.len order.cap), (3, Value.pointer g), (5, Value.int .i64 ((order.len : Nat) : Int)), (6, Value.slice (some ⟨b_, 0, none⟩) ((IntKind.i64.wrap (((order.len : Nat) : Int) + 2)).toNat) ((IntKind.i64.wrap (((order.len : Nat) : Int) + 2)).toNat)), (7, Value.int .i64 i), (13, Value.int .i64 mark), (14, Value.slice v114.ptr v114.len v114.cap), (17, Value.int .i64 many), (18, Value.int .i64 q1)], Sub.mk (by kernel_rfl), many, rfl, h⟩
                        · rintro _ w18 ⟨many1, rfl, h⟩
                          unfold F_towpathlaw12_GateOrders_k9 at h
                          refine wpE_region (id := 36) (ops := r_towpathlaw12_GateOrders_179) (by kernel_rfl) ?_
                          refine reg_run [.plain, .plain, .plain] 3 [(0, [], Value.slice order.ptr order.len order.cap), (3, [], Value.pointer g), (5, [], Value.int .i64 ((order.len : Nat) : Int)), (6, [], Value.slice (some ⟨b_, 0, none⟩) ((IntKind.i64.wrap (((order.len : Nat) : Int) + 2)).toNat) ((IntKind.i64.wrap (((order.len : Nat) : Int) + 2)).toNat)), (7, [], Value.int .i64 i), (13, [], Value.int .i64 mark), (14, [], Value.slice v114.ptr v114.len v114.cap), (17, [], Value.int .i64 many1), (18, [], Value.int .i64 (IntKind.i64.wrap (q1 + 1)))] (by kernel_rfl) (by kernel_rfl) ?_
                          refine reg_end [(0, Value.slice order.ptr order.len order.cap), (3, Value.pointer g), (5, Value.int .i64 ((order.len : Nat) : Int)), (6, Value.slice (some ⟨b_, 0, none⟩) ((IntKind.i64.wrap (((order.len : Nat) : Int) + 2)).toNat) ((IntKind.i64.wrap (((order.len : Nat) : Int) + 2)).toNat)), (7, Value.int .i64 i), (13, Value.int .i64 mark), (14, Value.slice v114.ptr v114.len v114.cap), (17, Value.int .i64 many1), (18, Value.int .i64 (IntKind.i64.wrap (q1 + 1)))] (by kernel_rfl) (by kernel_rfl) ?_
                          have hb_ := again_4_h _ _ _ h
                          exact ⟨_, hb_.2, [(0, Value.slice order.ptr order.len order.cap), (3, Value.pointer g), (5, Value.int .i64 ((order.len : Nat) : Int)), (6, Value.slice (some ⟨b_, 0, none⟩) ((IntKind.i64.wrap (((order.len : Nat) : Int) + 2)).toNat) ((IntKind.i64.wrap (((order.len : Nat) : Int) + 2)).toNat)), (7, Value.int .i64 i), (13, Value.int .i64 mark), (14, Value.slice v114.ptr v114.len v114.cap), (17, Value.int .i64 many1), (18, Value.int .i64 (IntKind.i64.wrap (q1 + 1)))], Sub.mk (by kernel_rfl), many1, (IntKind.i64.wrap (q1 + 1)), rfl, hb_.1, rfl⟩
                      · replace h := h.2 hb
                        refine wpE_exit (id := 8) (by kernel_rfl) ?_
                        change WpE _ _ c_towpathlaw12_GateOrders_181 _ _ _
                        refine wpE_seq (x := c_towpathlaw12_GateOrders_182) (y := c_towpathlaw12_GateOrders_184) (by kernel_rfl) ?_
                        refine wpE_region (id := 41) (ops := r_towpathlaw12_GateOrders_182) (by kernel_rfl) ?_
                        refine reg_run [.plain] 1 [(0, [], Value.slice order.ptr order.len order.cap), (3, [], Value.pointer g), (5, [], Value.int .i64 ((order.len : Nat) : Int)), (6, [], Value.slice (some ⟨b_, 0, none⟩) ((IntKind.i64.wrap (((order.len : Nat) : Int) + 2)).toNat) ((IntKind.i64.wrap (((order.len : Nat) : Int) + 2)).toNat)), (7, [], Value.int .i64 i), (13, [], Value.int .i64 mark), (14, [], Value.slice v114.ptr v114.len v114.cap), (17, [], Value.int .i64 many), (175, [], Value.pointer g)] (by kernel_rfl) (by kernel_rfl) ?_
                        refine reg_enter (op := (Go.Op.call (Go.Call.mk (Go.Callee.value (Go.Operand.func 31)) #[(Go.Operand.tmp 175)] #[44]))) (ty := 3) (dst := some 176) 31 #[Value.pointer g] (by kernel_rfl) (fun ww => by kernel_rfl) (Calls.mono h ?_)
                        rintro _ w21 ⟨v176, rfl, h⟩
                        refine ⟨_, rfl, ?_⟩
                        refine reg_run [.plain] 3 [(0, [], Value.slice order.ptr order.len order.cap), (3, [], Value.pointer g), (5, [], Value.int .i64 ((order.len : Nat) : Int)), (6, [], Value.slice (some ⟨b_, 0, none⟩) ((IntKind.i64.wrap (((order.len : Nat) : Int) + 2)).toNat) ((IntKind.i64.wrap (((order.len : Nat) : Int) + 2)).toNat)), (7, [], Value.int .i64 i), (13, [], Value.int .i64 mark), (14, [], Value.slice v114.ptr v114.len v114.cap), (17, [], Value.int .i64 many), (176, [], Value.int .i64 v176), (177, [], Value.slice v114.ptr v114.len v114.cap)] (by kernel_rfl) (by kernel_rfl) ?_
                        refine reg_enter (op := (Go.Op.call (Go.Call.mk (Go.Callee.value (Go.Operand.func 30)) #[(Go.Operand.tmp 176), (Go.Operand.tmp 177)] #[3, 49]))) (ty := 45) (dst := some 178) 30 #[Value.int .i64 v176, Value.slice v114.ptr v114.len v114.cap] (by kernel_rfl) (fun ww => by kernel_rfl) (Calls.mono h ?_)
                        rintro _ w22 ⟨h_, j, rfl, h⟩
                        refine ⟨_, rfl, ?_⟩
                        refine reg_run [.plain, .plain, .plain, .plain, .plain] 9 [(0, [], Value.slice order.ptr order.len order.cap), (3, [], Value.pointer g), (5, [], Value.int .i64 ((order.len : Nat) : Int)), (6, [], Value.slice (some ⟨b_, 0, none⟩) ((IntKind.i64.wrap (((order.len : Nat) : Int) + 2)).toNat) ((IntKind.i64.wrap (((order.len : Nat) : Int) + 2)).toNat)), (7, [], Value.int .i64 i), (13, [], Value.int .i64 mark), (14, [], Value.slice v114.ptr v114.len v114.cap), (17, [], Value.int .i64 many), (19, [], Value.pointer h_), (20, [], Value.int .i64 j)] (by kernel_rfl) (by kernel_rfl) ?_
                        refine reg_end [(0, Value.slice order.ptr order.len order.cap), (3, Value.pointer g), (5, Value.int .i64 ((order.len : Nat) : Int)), (6, Value.slice (some ⟨b_, 0, none⟩) ((IntKind.i64.wrap (((order.len : Nat) : Int) + 2)).toNat) ((IntKind.i64.wrap (((order.len : Nat) : Int) + 2)).toNat)), (7, Value.int .i64 i), (13, Value.int .i64 mark), (14, Value.slice v114.ptr v114.len v114.cap), (17, Value.int .i64 many), (19, Value.pointer h_), (20, Value.int .i64 j)] (by kernel_rfl) (by kernel_rfl) ?_
                        change WpE _ _ c_towpathlaw12_GateOrders_184 _ _ _
                        refine wpE_seq_cut (x := c_towpathlaw12_GateOrders_185) (y := c_towpathlaw12_GateOrders_187) (by kernel_rfl) (fun l w => ∃ (t207 : Bool), l = [(0, Value.slice order.ptr order.len order.cap), (3, Value.pointer g), (5, Value.int .i64 ((order.len : Nat) : Int)), (6, Value.slice (some ⟨b_, 0, none⟩) ((IntKind.i64.wrap (((order.len : Nat) : Int) + 2)).toNat) ((IntKind.i64.wrap (((order.len : Nat) : Int) + 2)).toNat)), (7, Value.int .i64 i), (207, Value.bool t207)] ∧ F_towpathlaw12_GateOrders_k10 R i again_ t207 w) ?_ ?_
                        · refine wpE_region (id := 42) (ops := r_towpathlaw12_GateOrders_185) (by kernel_rfl) ?_
                          refine reg_run [.plain, .plain, .plain, .plain, .plain, .plain, .plain, .plain] 8 [(0, [], Value.slice order.ptr order.len order.cap), (3, [], Value.pointer g), (5, [], Value.int .i64 ((order.len : Nat) : Int)), (6, [], Value.slice (some ⟨b_, 0, none⟩) ((IntKind.i64.wrap (((order.len : Nat) : Int) + 2)).toNat) ((IntKind.i64.wrap (((order.len : Nat) : Int) + 2)).toNat)), (7, [], Value.int .i64 i), (13, [], Value.int .i64 mark), (14, [], Value.slice v114.ptr v114.len v114.cap), (19, [], Value.pointer h_), (20, [], Value.int .i64 j), (185, [], Value.bool (many != ((v114.len : Nat) : Int))), (186, [(185, false)], Value.pointer g), (188, [(185, false)], Value.int .i64 (IntKind.i64.wrap (mark + 1)))] (by kernel_rfl) (by kernel_rfl) ?_
                          refine reg_split 185 (many != ((v114.len : Nat) : Int)) (by kernel_rfl) (fun hb => ?_) (fun hb => ?_)
                          · replace h := h.1 hb
                            refine reg_run [] 8 [(0, [], Value.slice order.ptr order.len order.cap), (3, [], Value.pointer g), (5, [], Value.int .i64 ((order.len : Nat) : Int)), (6, [], Value.slice (some ⟨b_, 0, none⟩) ((IntKind.i64.wrap (((order.len : Nat) : Int) + 2)).toNat) ((IntKind.i64.wrap (((order.len : Nat) : Int) + 2)).toNat)), (7, [], Value.int .i64 i), (13, [], Value.int .i64 mark), (14, [], Value.slice v114.ptr v114.len v114.cap), (19, [], Value.pointer h_), (20, [], Value.int .i64 j), (185, [], Value.bool true), (186, [], undef), (188, [], undef)] (by kernel_rfl) (by kernel_rfl) ?_
                            refine reg_run [.skip, .plain, .plain, .skip, .skip, .plain, .plain, .skip, .skip, .skip, .skip, .plain, .plain, .skip, .skip, .skip, .skip, .skip, .plain] 27 [(0, [], Value.slice order.ptr order.len order.cap), (3, [], Value.pointer g), (5, [], Value.int .i64 ((order.len : Nat) : Int)), (6, [], Value.slice (some ⟨b_, 0, none⟩) ((IntKind.i64.wrap (((order.len : Nat) : Int) + 2)).toNat) ((IntKind.i64.wrap (((order.len : Nat) : Int) + 2)).toNat)), (7, [], Value.int .i64 i), (207, [], Value.bool true)] (by kernel_rfl) (by kernel_rfl) ?_
                            refine reg_end [(0, Value.slice order.ptr order.len order.cap), (3, Value.pointer g), (5, Value.int .i64 ((order.len : Nat) : Int)), (6, Value.slice (some ⟨b_, 0, none⟩) ((IntKind.i64.wrap (((order.len : Nat) : Int) + 2)).toNat) ((IntKind.i64.wrap (((order.len : Nat) : Int) + 2)).toNat)), (7, Value.int .i64 i), (207, Value.bool true)] (by kernel_rfl) (by kernel_rfl) ?_
                            exact ⟨[(0, Value.slice order.ptr order.len order.cap), (3, Value.pointer g), (5, Value.int .i64 ((order.len : Nat) : Int)), (6, Value.slice (some ⟨b_, 0, none⟩) ((IntKind.i64.wrap (((order.len : Nat) : Int) + 2)).toNat) ((IntKind.i64.wrap (((order.len : Nat) : Int) + 2)).toNat)), (7, Value.int .i64 i), (207, Value.bool true)], Sub.mk (by kernel_rfl), true, rfl, h⟩
                          · replace h := h.2 hb
                            refine reg_run [] 8 [(0, [], Value.slice order.ptr order.len order.cap), (3, [], Value.pointer g), (5, [], Value.int .i64 ((order.len : Nat) : Int)), (6, [], Value.slice (some ⟨b_, 0, none⟩) ((IntKind.i64.wrap (((order.len : Nat) : Int) + 2)).toNat) ((IntKind.i64.wrap (((order.len : Nat) : Int) + 2)).toNat)), (7, [], Value.int .i64 i), (13, [], Value.int .i64 mark), (14, [], Value.slice v114.ptr v114.len v114.cap), (19, [], Value.pointer h_), (20, [], Value.int .i64 j), (185, [], Value.bool false), (186, [], Value.pointer g), (188, [], Value.int .i64 (IntKind.i64.wrap (mark + 1)))] (by kernel_rfl) (by kernel_rfl) ?_
                            refine reg_run [] 8 [(0, [], Value.slice order.ptr order.len order.cap), (3, [], Value.pointer g), (5, [], Value.int .i64 ((order.len : Nat) : Int)), (6, [], Value.slice (some ⟨b_, 0, none⟩) ((IntKind.i64.wrap (((order.len : Nat) : Int) + 2)).toNat) ((IntKind.i64.wrap (((order.len : Nat) : Int) + 2)).toNat)), (7, [], Value.int .i64 i), (13, [], Value.int .i64 mark), (14, [], Value.slice v114.ptr v114.len v114.cap), (19, [], Value.pointer h_), (20, [], Value.int .i64 j), (185, [], Value.bool false), (186, [], Value.pointer g), (188, [], Value.int .i64 (IntKind.i64.wrap (mark + 1)))] (by kernel_rfl) (by kernel_rfl) ?_
                            refine reg_enter (op := (Go.Op.call (Go.Call.mk (Go.Callee.value (Go.Operand.func 34)) #[(Go.Operand.tmp 186), (Go.Operand.tmp 188)] #[44, 3]))) (ty := 4) (dst := some 189) 34 #[Value.pointer g, Value.int .i64 (IntKind.i64.wrap (mark + 1))] (by kernel_rfl) (fun ww => by kernel_rfl) (Calls.mono h ?_)
                            rintro _ w24 ⟨v189, rfl, h⟩
                            refine ⟨_, rfl, ?_⟩
                            refine reg_run [.plain, .plain, .plain, .plain, .pick, .plain, .plain] 16 [(0, [], Value.slice order.ptr order.len order.cap), (3, [], Value.pointer g), (5, [], Value.int .i64 ((order.len : Nat) : Int)), (6, [], Value.slice (some ⟨b_, 0, none⟩) ((IntKind.i64.wrap (((order.len : Nat) : Int) + 2)).toNat) ((IntKind.i64.wrap (((order.len : Nat) : Int) + 2)).toNat)), (7, [], Value.int .i64 i), (13, [], Value.int .i64 mark), (14, [], Value.slice v114.ptr v114.len v114.cap), (19, [], Value.pointer h_), (195, [], Value.bool (v189 || (j != 0))), (196, [(195, false)], Value.pointer h_)] (by kernel_rfl) (by kernel_rfl) ?_
                            refine reg_split 195 (v189 || (j != 0)) (by kernel_rfl) (fun hb => ?_) (fun hb => ?_)
                            · replace h := h.1 hb
                              refine reg_run [] 16 [(0, [], Value.slice order.ptr order.len order.cap), (3, [], Value.pointer g), (5, [], Value.int .i64 ((order.len : Nat) : Int)), (6, [], Value.slice (some ⟨b_, 0, none⟩) ((IntKind.i64.wrap (((order.len : Nat) : Int) + 2)).toNat) ((IntKind.i64.wrap (((order.len : Nat) : Int) + 2)).toNat)), (7, [], Value.int .i64 i), (13, [], Value.int .i64 mark), (14, [], Value.slice v114.ptr v114.len v114.cap), (19, [], Value.pointer h_), (195, [], Value.bool true), (196, [], undef)] (by kernel_rfl) (by kernel_rfl) ?_
                              refine reg_run [.skip, .skip, .skip, .plain, .plain, .skip, .skip, .skip, .skip, .skip, .plain] 27 [(0, [], Value.slice order.ptr order.len order.cap), (3, [], Value.pointer g), (5, [], Value.int .i64 ((order.len : Nat) : Int)), (6, [], Value.slice (some ⟨b_, 0, none⟩) ((IntKind.i64.wrap (((order.len : Nat) : Int) + 2)).toNat) ((IntKind.i64.wrap (((order.len : Nat) : Int) + 2)).toNat)), (7, [], Value.int .i64 i), (207, [], Value.bool true)] (by kernel_rfl) (by kernel_rfl) ?_
                              refine reg_end [(0, Value.slice order.ptr order.len order.cap), (3, Value.pointer g), (5, Value.int .i64 ((order.len : Nat) : Int)), (6, Value.slice (some ⟨b_, 0, none⟩) ((IntKind.i64.wrap (((order.len : Nat) : Int) + 2)).toNat) ((IntKind.i64.wrap (((order.len : Nat) : Int) + 2)).toNat)), (7, Value.int .i64 i), (207, Value.bool true)] (by kernel_rfl) (by kernel_rfl) ?_
                              exact ⟨[(0, Value.slice order.ptr order.len order.cap), (3, Value.pointer g), (5, Value.int .i64 ((order.len : Nat) : Int)), (6, Value.slice (some ⟨b_, 0, none⟩) ((IntKind.i64.wrap (((order.len : Nat) : Int) + 2)).toNat) ((IntKind.i64.wrap (((order.len : Nat) : Int) + 2)).toNat)), (7, Value.int .i64 i), (207, Value.bool true)], Sub.mk (by kernel_rfl), true, rfl, h⟩
                            · replace h := h.2 hb
                              refine reg_run [] 16 [(0, [], Value.slice order.ptr order.len order.cap), (3, [], Value.pointer g), (5, [], Value.int .i64 ((order.len : Nat) : Int)), (6, [], Value.slice (some ⟨b_, 0, none⟩) ((IntKind.i64.wrap (((order.len : Nat) : Int) + 2)).toNat) ((IntKind.i64.wrap (((order.len : Nat) : Int) + 2)).toNat)), (7, [], Value.int .i64 i), (13, [], Value.int .i64 mark), (14, [], Value.slice v114.ptr v114.len v114.cap), (19, [], Value.pointer h_), (195, [], Value.bool false), (196, [], Value.pointer h_)] (by kernel_rfl) (by kernel_rfl) ?_
                              refine reg_run [] 16 [(0, [], Value.slice order.ptr order.len order.cap), (3, [], Value.pointer g), (5, [], Value.int .i64 ((order.len : Nat) : Int)), (6, [], Value.slice (some ⟨b_, 0, none⟩) ((IntKind.i64.wrap (((order.len : Nat) : Int) + 2)).toNat) ((IntKind.i64.wrap (((order.len : Nat) : Int) + 2)).toNat)), (7, [], Value.int .i64 i), (13, [], Value.int .i64 mark), (14, [], Value.slice v114.ptr v114.len v114.cap), (19, [], Value.pointer h_), (195, [], Value.bool false), (196, [], Value.pointer h_)] (by kernel_rfl) (by kernel_rfl) ?_
                              refine reg_enter (op := (Go.Op.call (Go.Call.mk (Go.Callee.value (Go.Operand.func 31)) #[(Go.Operand.tmp 196)] #[44]))) (ty := 3) (dst := some 197) 31 #[Value.pointer h_] (by kernel_rfl) (fun ww => by kernel_rfl) (Calls.mono h ?_)
                              rintro _ w25 ⟨v197, rfl, h⟩
                              refine ⟨_, rfl, ?_⟩
                              refine reg_run [.sure, .sure, .plain, .plain, .plain] 22 [(0, [], Value.slice order.ptr order.len order.cap), (3, [], Value.pointer g), (5, [], Value.int .i64 ((order.len : Nat) : Int)), (6, [], Value.slice (some ⟨b_, 0, none⟩) ((IntKind.i64.wrap (((order.len : Nat) : Int) + 2)).toNat) ((IntKind.i64.wrap (((order.len : Nat) : Int) + 2)).toNat)), (7, [], Value.int .i64 i), (14, [], Value.slice v114.ptr v114.len v114.cap), (201, [], Value.bool (v197 != mark)), (202, [(201, false)], Value.pointer h_)] (by kernel_rfl) (by kernel_rfl) ?_
                              refine reg_split 201 (v197 != mark) (by kernel_rfl) (fun hb => ?_) (fun hb => ?_)
                              · replace h := h.1 hb
                                refine reg_run [] 22 [(0, [], Value.slice order.ptr order.len order.cap), (3, [], Value.pointer g), (5, [], Value.int .i64 ((order.len : Nat) : Int)), (6, [], Value.slice (some ⟨b_, 0, none⟩) ((IntKind.i64.wrap (((order.len : Nat) : Int) + 2)).toNat) ((IntKind.i64.wrap (((order.len : Nat) : Int) + 2)).toNat)), (7, [], Value.int .i64 i), (14, [], Value.slice v114.ptr v114.len v114.cap), (201, [], Value.bool true), (202, [], undef)] (by kernel_rfl) (by kernel_rfl) ?_
                                refine reg_run [.skip, .skip, .skip, .skip, .plain] 27 [(0, [], Value.slice order.ptr order.len order.cap), (3, [], Value.pointer g), (5, [], Value.int .i64 ((order.len : Nat) : Int)), (6, [], Value.slice (some ⟨b_, 0, none⟩) ((IntKind.i64.wrap (((order.len : Nat) : Int) + 2)).toNat) ((IntKind.i64.wrap (((order.len : Nat) : Int) + 2)).toNat)), (7, [], Value.int .i64 i), (207, [], Value.bool true)] (by kernel_rfl) (by kernel_rfl) ?_
                                refine reg_end [(0, Value.slice order.ptr order.len order.cap), (3, Value.pointer g), (5, Value.int .i64 ((order.len : Nat) : Int)), (6, Value.slice (some ⟨b_, 0, none⟩) ((IntKind.i64.wrap (((order.len : Nat) : Int) + 2)).toNat) ((IntKind.i64.wrap (((order.len : Nat) : Int) + 2)).toNat)), (7, Value.int .i64 i), (207, Value.bool true)] (by kernel_rfl) (by kernel_rfl) ?_
                                exact ⟨[(0, Value.slice order.ptr order.len order.cap), (3, Value.pointer g), (5, Value.int .i64 ((order.len : Nat) : Int)), (6, Value.slice (some ⟨b_, 0, none⟩) ((IntKind.i64.wrap (((order.len : Nat) : Int) + 2)).toNat) ((IntKind.i64.wrap (((order.len : Nat) : Int) + 2)).toNat)), (7, Value.int .i64 i), (207, Value.bool true)], Sub.mk (by kernel_rfl), true, rfl, h⟩
                              · replace h := h.2 hb
                                refine reg_run [] 22 [(0, [], Value.slice order.ptr order.len order.cap), (3, [], Value.pointer g), (5, [], Value.int .i64 ((order.len : Nat) : Int)), (6, [], Value.slice (some ⟨b_, 0, none⟩) ((IntKind.i64.wrap (((order.len : Nat) : Int) + 2)).toNat) ((IntKind.i64.wrap (((order.len : Nat) : Int) + 2)).toNat)), (7, [], Value.int .i64 i), (14, [], Value.slice v114.ptr v114.len v114.cap), (201, [], Value.bool false), (202, [], Value.pointer h_)] (by kernel_rfl) (by kernel_rfl) ?_
                                refine reg_run [] 22 [(0, [], Value.slice order.ptr order.len order.cap), (3, [], Value.pointer g), (5, [], Value.int .i64 ((order.len : Nat) : Int)), (6, [], Value.slice (some ⟨b_, 0, none⟩) ((IntKind.i64.wrap (((order.len : Nat) : Int) + 2)).toNat) ((IntKind.i64.wrap (((order.len : Nat) : Int) + 2)).toNat)), (7, [], Value.int .i64 i), (14, [], Value.slice v114.ptr v114.len v114.cap), (201, [], Value.bool false), (202, [], Value.pointer h_)] (by kernel_rfl) (by kernel_rfl) ?_
                                refine reg_enter (op := (Go.Op.call (Go.Call.mk (Go.Callee.value (Go.Operand.func 33)) #[(Go.Operand.tmp 202)] #[44]))) (ty := 49) (dst := some 203) 33 #[Value.pointer h_] (by kernel_rfl) (fun ww => by kernel_rfl) (Calls.mono h ?_)
                                rintro _ w26 ⟨v203, rfl, h⟩
                                refine ⟨_, rfl, ?_⟩
                                refine reg_run [.sure] 24 [(0, [], Value.slice order.ptr order.len order.cap), (3, [], Value.pointer g), (5, [], Value.int .i64 ((order.len : Nat) : Int)), (6, [], Value.slice (some ⟨b_, 0, none⟩) ((IntKind.i64.wrap (((order.len : Nat) : Int) + 2)).toNat) ((IntKind.i64.wrap (((order.len : Nat) : Int) + 2)).toNat)), (7, [], Value.int .i64 i), (201, [], Value.bool false), (203, [], Value.slice v203.ptr v203.len v203.cap), (204, [], Value.slice v114.ptr v114.len v114.cap)] (by kernel_rfl) (by kernel_rfl) ?_
                                refine reg_enter (op := (Go.Op.call (Go.Call.mk (Go.Callee.value (Go.Operand.func 35)) #[(Go.Operand.tmp 203), (Go.Operand.tmp 204)] #[49, 49]))) (ty := 4) (dst := some 205) 35 #[Value.slice v203.ptr v203.len v203.cap, Value.slice v114.ptr v114.len v114.cap] (by kernel_rfl) (fun ww => by kernel_rfl) (Calls.mono h ?_)
                                rintro _ w27 ⟨v205, rfl, h⟩
                                refine ⟨_, rfl, ?_⟩
                                refine reg_run [.sure, .plain] 27 [(0, [], Value.slice order.ptr order.len order.cap), (3, [], Value.pointer g), (5, [], Value.int .i64 ((order.len : Nat) : Int)), (6, [], Value.slice (some ⟨b_, 0, none⟩) ((IntKind.i64.wrap (((order.len : Nat) : Int) + 2)).toNat) ((IntKind.i64.wrap (((order.len : Nat) : Int) + 2)).toNat)), (7, [], Value.int .i64 i), (207, [], Value.bool (!v205))] (by kernel_rfl) (by kernel_rfl) ?_
                                refine reg_end [(0, Value.slice order.ptr order.len order.cap), (3, Value.pointer g), (5, Value.int .i64 ((order.len : Nat) : Int)), (6, Value.slice (some ⟨b_, 0, none⟩) ((IntKind.i64.wrap (((order.len : Nat) : Int) + 2)).toNat) ((IntKind.i64.wrap (((order.len : Nat) : Int) + 2)).toNat)), (7, Value.int .i64 i), (207, Value.bool (!v205))] (by kernel_rfl) (by kernel_rfl) ?_
                                exact ⟨[(0, Value.slice order.ptr order.len order.cap), (3, Value.pointer g), (5, Value.int .i64 ((order.len : Nat) : Int)), (6, Value.slice (some ⟨b_, 0, none⟩) ((IntKind.i64.wrap (((order.len : Nat) : Int) + 2)).toNat) ((IntKind.i64.wrap (((order.len : Nat) : Int) + 2)).toNat)), (7, Value.int .i64 i), (207, Value.bool (!v205))], Sub.mk (by kernel_rfl), (!v205), rfl, h⟩
                        · rintro _ w23 ⟨t207, rfl, h⟩
                          unfold F_towpathlaw12_GateOrders_k10 at h
                          refine wpE_cond (o := (Operand.tmp 207)) (b := t207) (x := c_towpathlaw12_GateOrders_188) (y := c_towpathlaw12_GateOrders_192) (by kernel_rfl) (by kernel_rfl) (fun hb => ?_) (fun hb => ?_)
                          · replace h := h.1 hb
                            refine wpE_seq (x := c_towpathlaw12_GateOrders_189) (y := c_towpathlaw12_GateOrders_191) (by kernel_rfl) ?_
                            refine wpE_region (id := 43) (ops := r_towpathlaw12_GateOrders_189) (by kernel_rfl) ?_
                            refine reg_run [.plain] 1 [(2, [], Value.bool false)] (by kernel_rfl) (by kernel_rfl) ?_
                            refine reg_end [(2, Value.bool false)] (by kernel_rfl) (by kernel_rfl) ?_
                            change WpE _ _ c_towpathlaw12_GateOrders_191 _ _ _
                            refine wpE_ret (by kernel_rfl) ?_
                            repeat (first | refine seqQ_ret ?_ | refine blockQ_ret ?_ | refine loopQ_ret ?_ | refine cutQ_ret ?_)
                            exact retS (rs := [(Go.ResultVar.tmp 2)]) (v := Value.bool false) (by kernel_rfl) (⟨by kernel_rfl, trivial⟩) ⟨false, rfl, h⟩
                          · replace h := h.2 hb
                            refine wpE_skip (by kernel_rfl) ?_
                            change WpE _ _ c_towpathlaw12_GateOrders_193 _ _ _
                            refine wpE_region (id := 10) (ops := r_towpathlaw12_GateOrders_193) (by kernel_rfl) ?_
                            refine reg_run [.plain, .plain, .plain] 3 [(0, [], Value.slice order.ptr order.len order.cap), (3, [], Value.pointer g), (5, [], Value.int .i64 ((order.len : Nat) : Int)), (6, [], Value.slice (some ⟨b_, 0, none⟩) ((IntKind.i64.wrap (((order.len : Nat) : Int) + 2)).toNat) ((IntKind.i64.wrap (((order.len : Nat) : Int) + 2)).toNat)), (7, [], Value.int .i64 (IntKind.i64.wrap (i + 1)))] (by kernel_rfl) (by kernel_rfl) ?_
                            refine reg_end [(0, Value.slice order.ptr order.len order.cap), (3, Value.pointer g), (5, Value.int .i64 ((order.len : Nat) : Int)), (6, Value.slice (some ⟨b_, 0, none⟩) ((IntKind.i64.wrap (((order.len : Nat) : Int) + 2)).toNat) ((IntKind.i64.wrap (((order.len : Nat) : Int) + 2)).toNat)), (7, Value.int .i64 (IntKind.i64.wrap (i + 1)))] (by kernel_rfl) (by kernel_rfl) ?_
                            have hb_ := again__h _ _ h
                            exact ⟨_, hb_.2, [(0, Value.slice order.ptr order.len order.cap), (3, Value.pointer g), (5, Value.int .i64 ((order.len : Nat) : Int)), (6, Value.slice (some ⟨b_, 0, none⟩) ((IntKind.i64.wrap (((order.len : Nat) : Int) + 2)).toNat) ((IntKind.i64.wrap (((order.len : Nat) : Int) + 2)).toNat)), (7, Value.int .i64 (IntKind.i64.wrap (i + 1)))], Sub.mk (by kernel_rfl), (IntKind.i64.wrap (i + 1)), rfl, hb_.1, rfl⟩
        · replace h := h.2 hb
          refine wpE_exit (id := 0) (by kernel_rfl) ?_
          change WpE _ _ c_towpathlaw12_GateOrders_195 _ _ _
          refine wpE_seq (x := c_towpathlaw12_GateOrders_196) (y := c_towpathlaw12_GateOrders_198) (by kernel_rfl) ?_
          refine wpE_region (id := 44) (ops := r_towpathlaw12_GateOrders_196) (by kernel_rfl) ?_
          refine reg_run [.plain] 1 [(3, [], Value.pointer g), (5, [], Value.int .i64 ((order.len : Nat) : Int)), (208, [], Value.pointer g)] (by kernel_rfl) (by kernel_rfl) ?_
          refine reg_enter (op := (Go.Op.call (Go.Call.mk (Go.Callee.value (Go.Operand.func 31)) #[(Go.Operand.tmp 208)] #[44]))) (ty := 3) (dst := some 209) 31 #[Value.pointer g] (by kernel_rfl) (fun ww => by kernel_rfl) (Calls.mono h ?_)
          rintro _ w29 ⟨v209, rfl, h⟩
          refine ⟨_, rfl, ?_⟩
          refine reg_run [.plain, .plain, .plain, .plain] 6 [(212, [], Value.bool (v209 == ((order.len : Nat) : Int))), (213, [(212, true)], Value.pointer g)] (by kernel_rfl) (by kernel_rfl) ?_
          refine reg_split 212 (v209 == ((order.len : Nat) : Int)) (by kernel_rfl) (fun hb => ?_) (fun hb => ?_)
          · replace h := h.1 hb
            refine reg_run [] 6 [(212, [], Value.bool true), (213, [], Value.pointer g)] (by kernel_rfl) (by kernel_rfl) ?_
            refine reg_run [] 6 [(212, [], Value.bool true), (213, [], Value.pointer g)] (by kernel_rfl) (by kernel_rfl) ?_
            refine reg_enter (op := (Go.Op.call (Go.Call.mk (Go.Callee.value (Go.Operand.func 33)) #[(Go.Operand.tmp 213)] #[44]))) (ty := 49) (dst := some 214) 33 #[Value.pointer g] (by kernel_rfl) (fun ww => by kernel_rfl) (Calls.mono h ?_)
            rintro _ w30 ⟨v214, rfl, h⟩
            refine ⟨_, rfl, ?_⟩
            refine reg_run [.sure, .sure, .plain, .plain] 11 [(2, [], Value.bool (((v214.len : Nat) : Int) == 0))] (by kernel_rfl) (by kernel_rfl) ?_
            refine reg_end [(2, Value.bool (((v214.len : Nat) : Int) == 0))] (by kernel_rfl) (by kernel_rfl) ?_
            change WpE _ _ c_towpathlaw12_GateOrders_198 _ _ _
            refine wpE_ret (by kernel_rfl) ?_
            repeat (first | refine seqQ_ret ?_ | refine blockQ_ret ?_ | refine loopQ_ret ?_ | refine cutQ_ret ?_)
            exact retS (rs := [(Go.ResultVar.tmp 2)]) (v := Value.bool (((v214.len : Nat) : Int) == 0)) (by kernel_rfl) (⟨by kernel_rfl, trivial⟩) ⟨(((v214.len : Nat) : Int) == 0), rfl, h⟩
          · replace h := h.2 hb
            refine reg_run [] 6 [(212, [], Value.bool false), (213, [], undef)] (by kernel_rfl) (by kernel_rfl) ?_
            refine reg_run [.skip, .skip, .skip, .plain, .plain] 11 [(2, [], Value.bool false)] (by kernel_rfl) (by kernel_rfl) ?_
            refine reg_end [(2, Value.bool false)] (by kernel_rfl) (by kernel_rfl) ?_
            change WpE _ _ c_towpathlaw12_GateOrders_198 _ _ _
            refine wpE_ret (by kernel_rfl) ?_
            repeat (first | refine seqQ_ret ?_ | refine blockQ_ret ?_ | refine loopQ_ret ?_ | refine cutQ_ret ?_)
            exact retS (rs := [(Go.ResultVar.tmp 2)]) (v := Value.bool false) (by kernel_rfl) (⟨by kernel_rfl, trivial⟩) ⟨false, rfl, h⟩
  · rintro e w' ⟨v, rfl, r0, rfl, h⟩; exact ⟨r0, rfl, h⟩
end Go.Proofs.Ytchcljkflklddaa
