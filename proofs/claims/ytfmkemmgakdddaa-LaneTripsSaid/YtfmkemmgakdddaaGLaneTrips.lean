/- WRITTEN BY PROGRAM (dec.py): for each Go function the clean formula F, the call's contract C, and the proof S that F gives C. -/
import Derived.Test.YtfmkemmgakdddaaRows
import Derived.Test.YtfmkemmgakdddaaGF
namespace Go.Proofs.Ytfmkemmgakdddaa
open Go
set_option linter.unusedVariables false

/-! ### towpath/towpathlaw14.LaneTrips (function 5) -/
noncomputable def c_towpathlaw14_LaneTrips_0 : Code := (Try.f5.body).getD Code.skip
noncomputable def c_towpathlaw14_LaneTrips_1 : Code := Code.l c_towpathlaw14_LaneTrips_0
noncomputable def r_towpathlaw14_LaneTrips_1 : Array Oper := Code.ops c_towpathlaw14_LaneTrips_1
noncomputable def c_towpathlaw14_LaneTrips_3 : Code := Code.r c_towpathlaw14_LaneTrips_0
noncomputable def c_towpathlaw14_LaneTrips_4 : Code := Code.l c_towpathlaw14_LaneTrips_3
noncomputable def c_towpathlaw14_LaneTrips_5 : Code := Code.l c_towpathlaw14_LaneTrips_4
noncomputable def r_towpathlaw14_LaneTrips_5 : Array Oper := Code.ops c_towpathlaw14_LaneTrips_5
noncomputable def c_towpathlaw14_LaneTrips_7 : Code := Code.r c_towpathlaw14_LaneTrips_4
noncomputable def c_towpathlaw14_LaneTrips_8 : Code := Code.l c_towpathlaw14_LaneTrips_7
noncomputable def c_towpathlaw14_LaneTrips_9 : Code := Code.l c_towpathlaw14_LaneTrips_8
noncomputable def r_towpathlaw14_LaneTrips_9 : Array Oper := Code.ops c_towpathlaw14_LaneTrips_9
noncomputable def c_towpathlaw14_LaneTrips_11 : Code := Code.r c_towpathlaw14_LaneTrips_8
noncomputable def c_towpathlaw14_LaneTrips_12 : Code := Code.r c_towpathlaw14_LaneTrips_7
noncomputable def c_towpathlaw14_LaneTrips_13 : Code := Code.r c_towpathlaw14_LaneTrips_3
noncomputable def c_towpathlaw14_LaneTrips_14 : Code := Code.l c_towpathlaw14_LaneTrips_13
noncomputable def r_towpathlaw14_LaneTrips_14 : Array Oper := Code.ops c_towpathlaw14_LaneTrips_14
noncomputable def c_towpathlaw14_LaneTrips_16 : Code := Code.r c_towpathlaw14_LaneTrips_13
noncomputable def c_towpathlaw14_LaneTrips_17 : Code := Code.l c_towpathlaw14_LaneTrips_16
noncomputable def c_towpathlaw14_LaneTrips_18 : Code := Code.l c_towpathlaw14_LaneTrips_17
noncomputable def r_towpathlaw14_LaneTrips_18 : Array Oper := Code.ops c_towpathlaw14_LaneTrips_18
noncomputable def c_towpathlaw14_LaneTrips_20 : Code := Code.r c_towpathlaw14_LaneTrips_17
noncomputable def c_towpathlaw14_LaneTrips_21 : Code := Code.l c_towpathlaw14_LaneTrips_20
noncomputable def c_towpathlaw14_LaneTrips_22 : Code := Code.l c_towpathlaw14_LaneTrips_21
noncomputable def r_towpathlaw14_LaneTrips_22 : Array Oper := Code.ops c_towpathlaw14_LaneTrips_22
noncomputable def c_towpathlaw14_LaneTrips_24 : Code := Code.r c_towpathlaw14_LaneTrips_21
noncomputable def c_towpathlaw14_LaneTrips_25 : Code := Code.r c_towpathlaw14_LaneTrips_20
noncomputable def c_towpathlaw14_LaneTrips_26 : Code := Code.r c_towpathlaw14_LaneTrips_16
noncomputable def c_towpathlaw14_LaneTrips_27 : Code := Code.l c_towpathlaw14_LaneTrips_26
noncomputable def r_towpathlaw14_LaneTrips_27 : Array Oper := Code.ops c_towpathlaw14_LaneTrips_27
noncomputable def c_towpathlaw14_LaneTrips_29 : Code := Code.r c_towpathlaw14_LaneTrips_26
noncomputable def c_towpathlaw14_LaneTrips_30 : Code := Code.l c_towpathlaw14_LaneTrips_29
noncomputable def c_towpathlaw14_LaneTrips_31 : Code := Code.l c_towpathlaw14_LaneTrips_30
noncomputable def r_towpathlaw14_LaneTrips_31 : Array Oper := Code.ops c_towpathlaw14_LaneTrips_31
noncomputable def c_towpathlaw14_LaneTrips_33 : Code := Code.r c_towpathlaw14_LaneTrips_30
noncomputable def c_towpathlaw14_LaneTrips_34 : Code := Code.l c_towpathlaw14_LaneTrips_33
noncomputable def c_towpathlaw14_LaneTrips_35 : Code := Code.l c_towpathlaw14_LaneTrips_34
noncomputable def c_towpathlaw14_LaneTrips_36 : Code := Code.l c_towpathlaw14_LaneTrips_35
noncomputable def c_towpathlaw14_LaneTrips_37 : Code := Code.l c_towpathlaw14_LaneTrips_36
noncomputable def r_towpathlaw14_LaneTrips_37 : Array Oper := Code.ops c_towpathlaw14_LaneTrips_37
noncomputable def c_towpathlaw14_LaneTrips_39 : Code := Code.r c_towpathlaw14_LaneTrips_36
noncomputable def c_towpathlaw14_LaneTrips_40 : Code := Code.l c_towpathlaw14_LaneTrips_39
noncomputable def c_towpathlaw14_LaneTrips_41 : Code := Code.r c_towpathlaw14_LaneTrips_39
noncomputable def c_towpathlaw14_LaneTrips_42 : Code := Code.r c_towpathlaw14_LaneTrips_35
noncomputable def c_towpathlaw14_LaneTrips_43 : Code := Code.l c_towpathlaw14_LaneTrips_42
noncomputable def c_towpathlaw14_LaneTrips_44 : Code := Code.l c_towpathlaw14_LaneTrips_43
noncomputable def c_towpathlaw14_LaneTrips_45 : Code := Code.l c_towpathlaw14_LaneTrips_44
noncomputable def r_towpathlaw14_LaneTrips_45 : Array Oper := Code.ops c_towpathlaw14_LaneTrips_45
noncomputable def c_towpathlaw14_LaneTrips_47 : Code := Code.r c_towpathlaw14_LaneTrips_44
noncomputable def c_towpathlaw14_LaneTrips_48 : Code := Code.l c_towpathlaw14_LaneTrips_47
noncomputable def c_towpathlaw14_LaneTrips_49 : Code := Code.l c_towpathlaw14_LaneTrips_48
noncomputable def r_towpathlaw14_LaneTrips_49 : Array Oper := Code.ops c_towpathlaw14_LaneTrips_49
noncomputable def c_towpathlaw14_LaneTrips_51 : Code := Code.r c_towpathlaw14_LaneTrips_48
noncomputable def c_towpathlaw14_LaneTrips_52 : Code := Code.l c_towpathlaw14_LaneTrips_51
noncomputable def c_towpathlaw14_LaneTrips_53 : Code := Code.l c_towpathlaw14_LaneTrips_52
noncomputable def r_towpathlaw14_LaneTrips_53 : Array Oper := Code.ops c_towpathlaw14_LaneTrips_53
noncomputable def c_towpathlaw14_LaneTrips_55 : Code := Code.r c_towpathlaw14_LaneTrips_52
noncomputable def c_towpathlaw14_LaneTrips_56 : Code := Code.r c_towpathlaw14_LaneTrips_51
noncomputable def c_towpathlaw14_LaneTrips_57 : Code := Code.r c_towpathlaw14_LaneTrips_47
noncomputable def c_towpathlaw14_LaneTrips_58 : Code := Code.l c_towpathlaw14_LaneTrips_57
noncomputable def c_towpathlaw14_LaneTrips_59 : Code := Code.l c_towpathlaw14_LaneTrips_58
noncomputable def r_towpathlaw14_LaneTrips_59 : Array Oper := Code.ops c_towpathlaw14_LaneTrips_59
noncomputable def c_towpathlaw14_LaneTrips_61 : Code := Code.r c_towpathlaw14_LaneTrips_58
noncomputable def c_towpathlaw14_LaneTrips_62 : Code := Code.l c_towpathlaw14_LaneTrips_61
noncomputable def c_towpathlaw14_LaneTrips_63 : Code := Code.l c_towpathlaw14_LaneTrips_62
noncomputable def c_towpathlaw14_LaneTrips_64 : Code := Code.l c_towpathlaw14_LaneTrips_63
noncomputable def r_towpathlaw14_LaneTrips_64 : Array Oper := Code.ops c_towpathlaw14_LaneTrips_64
noncomputable def c_towpathlaw14_LaneTrips_66 : Code := Code.r c_towpathlaw14_LaneTrips_63
noncomputable def c_towpathlaw14_LaneTrips_67 : Code := Code.l c_towpathlaw14_LaneTrips_66
noncomputable def c_towpathlaw14_LaneTrips_68 : Code := Code.l c_towpathlaw14_LaneTrips_67
noncomputable def r_towpathlaw14_LaneTrips_68 : Array Oper := Code.ops c_towpathlaw14_LaneTrips_68
noncomputable def c_towpathlaw14_LaneTrips_70 : Code := Code.r c_towpathlaw14_LaneTrips_67
noncomputable def c_towpathlaw14_LaneTrips_71 : Code := Code.r c_towpathlaw14_LaneTrips_66
noncomputable def c_towpathlaw14_LaneTrips_72 : Code := Code.r c_towpathlaw14_LaneTrips_62
noncomputable def c_towpathlaw14_LaneTrips_73 : Code := Code.r c_towpathlaw14_LaneTrips_61
noncomputable def c_towpathlaw14_LaneTrips_74 : Code := Code.r c_towpathlaw14_LaneTrips_57
noncomputable def c_towpathlaw14_LaneTrips_75 : Code := Code.l c_towpathlaw14_LaneTrips_74
noncomputable def r_towpathlaw14_LaneTrips_75 : Array Oper := Code.ops c_towpathlaw14_LaneTrips_75
noncomputable def c_towpathlaw14_LaneTrips_77 : Code := Code.r c_towpathlaw14_LaneTrips_74
noncomputable def c_towpathlaw14_LaneTrips_78 : Code := Code.l c_towpathlaw14_LaneTrips_77
noncomputable def c_towpathlaw14_LaneTrips_79 : Code := Code.l c_towpathlaw14_LaneTrips_78
noncomputable def r_towpathlaw14_LaneTrips_79 : Array Oper := Code.ops c_towpathlaw14_LaneTrips_79
noncomputable def c_towpathlaw14_LaneTrips_81 : Code := Code.r c_towpathlaw14_LaneTrips_78
noncomputable def c_towpathlaw14_LaneTrips_82 : Code := Code.l c_towpathlaw14_LaneTrips_81
noncomputable def c_towpathlaw14_LaneTrips_83 : Code := Code.l c_towpathlaw14_LaneTrips_82
noncomputable def c_towpathlaw14_LaneTrips_84 : Code := Code.l c_towpathlaw14_LaneTrips_83
noncomputable def c_towpathlaw14_LaneTrips_85 : Code := Code.l c_towpathlaw14_LaneTrips_84
noncomputable def r_towpathlaw14_LaneTrips_85 : Array Oper := Code.ops c_towpathlaw14_LaneTrips_85
noncomputable def c_towpathlaw14_LaneTrips_87 : Code := Code.r c_towpathlaw14_LaneTrips_84
noncomputable def c_towpathlaw14_LaneTrips_88 : Code := Code.l c_towpathlaw14_LaneTrips_87
noncomputable def c_towpathlaw14_LaneTrips_89 : Code := Code.r c_towpathlaw14_LaneTrips_87
noncomputable def c_towpathlaw14_LaneTrips_90 : Code := Code.r c_towpathlaw14_LaneTrips_83
noncomputable def c_towpathlaw14_LaneTrips_91 : Code := Code.l c_towpathlaw14_LaneTrips_90
noncomputable def c_towpathlaw14_LaneTrips_92 : Code := Code.l c_towpathlaw14_LaneTrips_91
noncomputable def c_towpathlaw14_LaneTrips_93 : Code := Code.l c_towpathlaw14_LaneTrips_92
noncomputable def r_towpathlaw14_LaneTrips_93 : Array Oper := Code.ops c_towpathlaw14_LaneTrips_93
noncomputable def c_towpathlaw14_LaneTrips_95 : Code := Code.r c_towpathlaw14_LaneTrips_92
noncomputable def c_towpathlaw14_LaneTrips_96 : Code := Code.l c_towpathlaw14_LaneTrips_95
noncomputable def c_towpathlaw14_LaneTrips_97 : Code := Code.l c_towpathlaw14_LaneTrips_96
noncomputable def r_towpathlaw14_LaneTrips_97 : Array Oper := Code.ops c_towpathlaw14_LaneTrips_97
noncomputable def c_towpathlaw14_LaneTrips_99 : Code := Code.r c_towpathlaw14_LaneTrips_96
noncomputable def c_towpathlaw14_LaneTrips_100 : Code := Code.l c_towpathlaw14_LaneTrips_99
noncomputable def c_towpathlaw14_LaneTrips_101 : Code := Code.l c_towpathlaw14_LaneTrips_100
noncomputable def c_towpathlaw14_LaneTrips_102 : Code := Code.l c_towpathlaw14_LaneTrips_101
noncomputable def c_towpathlaw14_LaneTrips_103 : Code := Code.l c_towpathlaw14_LaneTrips_102
noncomputable def r_towpathlaw14_LaneTrips_103 : Array Oper := Code.ops c_towpathlaw14_LaneTrips_103
noncomputable def c_towpathlaw14_LaneTrips_105 : Code := Code.r c_towpathlaw14_LaneTrips_102
noncomputable def c_towpathlaw14_LaneTrips_106 : Code := Code.l c_towpathlaw14_LaneTrips_105
noncomputable def c_towpathlaw14_LaneTrips_107 : Code := Code.r c_towpathlaw14_LaneTrips_105
noncomputable def c_towpathlaw14_LaneTrips_108 : Code := Code.r c_towpathlaw14_LaneTrips_101
noncomputable def c_towpathlaw14_LaneTrips_109 : Code := Code.l c_towpathlaw14_LaneTrips_108
noncomputable def c_towpathlaw14_LaneTrips_110 : Code := Code.l c_towpathlaw14_LaneTrips_109
noncomputable def r_towpathlaw14_LaneTrips_110 : Array Oper := Code.ops c_towpathlaw14_LaneTrips_110
noncomputable def c_towpathlaw14_LaneTrips_112 : Code := Code.r c_towpathlaw14_LaneTrips_108
noncomputable def r_towpathlaw14_LaneTrips_112 : Array Oper := Code.ops c_towpathlaw14_LaneTrips_112
noncomputable def c_towpathlaw14_LaneTrips_114 : Code := Code.r c_towpathlaw14_LaneTrips_95
noncomputable def c_towpathlaw14_LaneTrips_115 : Code := Code.l c_towpathlaw14_LaneTrips_114
noncomputable def c_towpathlaw14_LaneTrips_116 : Code := Code.l c_towpathlaw14_LaneTrips_115
noncomputable def r_towpathlaw14_LaneTrips_116 : Array Oper := Code.ops c_towpathlaw14_LaneTrips_116
noncomputable def c_towpathlaw14_LaneTrips_118 : Code := Code.r c_towpathlaw14_LaneTrips_115
noncomputable def c_towpathlaw14_LaneTrips_119 : Code := Code.l c_towpathlaw14_LaneTrips_118
noncomputable def c_towpathlaw14_LaneTrips_120 : Code := Code.r c_towpathlaw14_LaneTrips_118
noncomputable def c_towpathlaw14_LaneTrips_121 : Code := Code.r c_towpathlaw14_LaneTrips_114
noncomputable def c_towpathlaw14_LaneTrips_122 : Code := Code.l c_towpathlaw14_LaneTrips_121
noncomputable def r_towpathlaw14_LaneTrips_122 : Array Oper := Code.ops c_towpathlaw14_LaneTrips_122
noncomputable def c_towpathlaw14_LaneTrips_124 : Code := Code.r c_towpathlaw14_LaneTrips_121
noncomputable def c_towpathlaw14_LaneTrips_125 : Code := Code.l c_towpathlaw14_LaneTrips_124
noncomputable def r_towpathlaw14_LaneTrips_125 : Array Oper := Code.ops c_towpathlaw14_LaneTrips_125
noncomputable def c_towpathlaw14_LaneTrips_127 : Code := Code.r c_towpathlaw14_LaneTrips_124
noncomputable def c_towpathlaw14_LaneTrips_128 : Code := Code.l c_towpathlaw14_LaneTrips_127
noncomputable def c_towpathlaw14_LaneTrips_129 : Code := Code.l c_towpathlaw14_LaneTrips_128
noncomputable def r_towpathlaw14_LaneTrips_129 : Array Oper := Code.ops c_towpathlaw14_LaneTrips_129
noncomputable def c_towpathlaw14_LaneTrips_131 : Code := Code.r c_towpathlaw14_LaneTrips_128
noncomputable def c_towpathlaw14_LaneTrips_132 : Code := Code.l c_towpathlaw14_LaneTrips_131
noncomputable def c_towpathlaw14_LaneTrips_133 : Code := Code.l c_towpathlaw14_LaneTrips_132
noncomputable def r_towpathlaw14_LaneTrips_133 : Array Oper := Code.ops c_towpathlaw14_LaneTrips_133
noncomputable def c_towpathlaw14_LaneTrips_135 : Code := Code.r c_towpathlaw14_LaneTrips_132
noncomputable def c_towpathlaw14_LaneTrips_136 : Code := Code.r c_towpathlaw14_LaneTrips_131
noncomputable def c_towpathlaw14_LaneTrips_137 : Code := Code.r c_towpathlaw14_LaneTrips_127
noncomputable def c_towpathlaw14_LaneTrips_138 : Code := Code.l c_towpathlaw14_LaneTrips_137
noncomputable def r_towpathlaw14_LaneTrips_138 : Array Oper := Code.ops c_towpathlaw14_LaneTrips_138
noncomputable def c_towpathlaw14_LaneTrips_140 : Code := Code.r c_towpathlaw14_LaneTrips_137
noncomputable def c_towpathlaw14_LaneTrips_141 : Code := Code.l c_towpathlaw14_LaneTrips_140
noncomputable def c_towpathlaw14_LaneTrips_142 : Code := Code.l c_towpathlaw14_LaneTrips_141
noncomputable def c_towpathlaw14_LaneTrips_143 : Code := Code.l c_towpathlaw14_LaneTrips_142
noncomputable def c_towpathlaw14_LaneTrips_144 : Code := Code.l c_towpathlaw14_LaneTrips_143
noncomputable def c_towpathlaw14_LaneTrips_145 : Code := Code.l c_towpathlaw14_LaneTrips_144
noncomputable def r_towpathlaw14_LaneTrips_145 : Array Oper := Code.ops c_towpathlaw14_LaneTrips_145
noncomputable def c_towpathlaw14_LaneTrips_147 : Code := Code.r c_towpathlaw14_LaneTrips_144
noncomputable def c_towpathlaw14_LaneTrips_148 : Code := Code.l c_towpathlaw14_LaneTrips_147
noncomputable def c_towpathlaw14_LaneTrips_149 : Code := Code.r c_towpathlaw14_LaneTrips_147
noncomputable def c_towpathlaw14_LaneTrips_150 : Code := Code.r c_towpathlaw14_LaneTrips_143
noncomputable def c_towpathlaw14_LaneTrips_151 : Code := Code.l c_towpathlaw14_LaneTrips_150
noncomputable def c_towpathlaw14_LaneTrips_152 : Code := Code.l c_towpathlaw14_LaneTrips_151
noncomputable def c_towpathlaw14_LaneTrips_153 : Code := Code.l c_towpathlaw14_LaneTrips_152
noncomputable def r_towpathlaw14_LaneTrips_153 : Array Oper := Code.ops c_towpathlaw14_LaneTrips_153
noncomputable def c_towpathlaw14_LaneTrips_155 : Code := Code.r c_towpathlaw14_LaneTrips_152
noncomputable def c_towpathlaw14_LaneTrips_156 : Code := Code.l c_towpathlaw14_LaneTrips_155
noncomputable def c_towpathlaw14_LaneTrips_157 : Code := Code.l c_towpathlaw14_LaneTrips_156
noncomputable def r_towpathlaw14_LaneTrips_157 : Array Oper := Code.ops c_towpathlaw14_LaneTrips_157
noncomputable def c_towpathlaw14_LaneTrips_159 : Code := Code.r c_towpathlaw14_LaneTrips_156
noncomputable def c_towpathlaw14_LaneTrips_160 : Code := Code.r c_towpathlaw14_LaneTrips_155
noncomputable def c_towpathlaw14_LaneTrips_161 : Code := Code.r c_towpathlaw14_LaneTrips_151
noncomputable def c_towpathlaw14_LaneTrips_162 : Code := Code.l c_towpathlaw14_LaneTrips_161
noncomputable def r_towpathlaw14_LaneTrips_162 : Array Oper := Code.ops c_towpathlaw14_LaneTrips_162
noncomputable def c_towpathlaw14_LaneTrips_164 : Code := Code.r c_towpathlaw14_LaneTrips_161
noncomputable def r_towpathlaw14_LaneTrips_164 : Array Oper := Code.ops c_towpathlaw14_LaneTrips_164
noncomputable def c_towpathlaw14_LaneTrips_166 : Code := Code.r c_towpathlaw14_LaneTrips_140
noncomputable def r_towpathlaw14_LaneTrips_166 : Array Oper := Code.ops c_towpathlaw14_LaneTrips_166
noncomputable def c_towpathlaw14_LaneTrips_168 : Code := Code.r c_towpathlaw14_LaneTrips_90
noncomputable def r_towpathlaw14_LaneTrips_168 : Array Oper := Code.ops c_towpathlaw14_LaneTrips_168
noncomputable def c_towpathlaw14_LaneTrips_170 : Code := Code.r c_towpathlaw14_LaneTrips_77
noncomputable def c_towpathlaw14_LaneTrips_171 : Code := Code.l c_towpathlaw14_LaneTrips_170
noncomputable def r_towpathlaw14_LaneTrips_171 : Array Oper := Code.ops c_towpathlaw14_LaneTrips_171
noncomputable def c_towpathlaw14_LaneTrips_173 : Code := Code.r c_towpathlaw14_LaneTrips_170
noncomputable def c_towpathlaw14_LaneTrips_174 : Code := Code.l c_towpathlaw14_LaneTrips_173
noncomputable def c_towpathlaw14_LaneTrips_175 : Code := Code.l c_towpathlaw14_LaneTrips_174
noncomputable def r_towpathlaw14_LaneTrips_175 : Array Oper := Code.ops c_towpathlaw14_LaneTrips_175
noncomputable def c_towpathlaw14_LaneTrips_177 : Code := Code.r c_towpathlaw14_LaneTrips_174
noncomputable def c_towpathlaw14_LaneTrips_178 : Code := Code.l c_towpathlaw14_LaneTrips_177
noncomputable def c_towpathlaw14_LaneTrips_179 : Code := Code.l c_towpathlaw14_LaneTrips_178
noncomputable def r_towpathlaw14_LaneTrips_179 : Array Oper := Code.ops c_towpathlaw14_LaneTrips_179
noncomputable def c_towpathlaw14_LaneTrips_181 : Code := Code.r c_towpathlaw14_LaneTrips_178
noncomputable def c_towpathlaw14_LaneTrips_182 : Code := Code.r c_towpathlaw14_LaneTrips_177
noncomputable def c_towpathlaw14_LaneTrips_183 : Code := Code.r c_towpathlaw14_LaneTrips_173
noncomputable def c_towpathlaw14_LaneTrips_184 : Code := Code.l c_towpathlaw14_LaneTrips_183
noncomputable def c_towpathlaw14_LaneTrips_185 : Code := Code.l c_towpathlaw14_LaneTrips_184
noncomputable def c_towpathlaw14_LaneTrips_186 : Code := Code.l c_towpathlaw14_LaneTrips_185
noncomputable def c_towpathlaw14_LaneTrips_187 : Code := Code.l c_towpathlaw14_LaneTrips_186
noncomputable def c_towpathlaw14_LaneTrips_188 : Code := Code.l c_towpathlaw14_LaneTrips_187
noncomputable def r_towpathlaw14_LaneTrips_188 : Array Oper := Code.ops c_towpathlaw14_LaneTrips_188
noncomputable def c_towpathlaw14_LaneTrips_190 : Code := Code.r c_towpathlaw14_LaneTrips_187
noncomputable def c_towpathlaw14_LaneTrips_191 : Code := Code.l c_towpathlaw14_LaneTrips_190
noncomputable def c_towpathlaw14_LaneTrips_192 : Code := Code.r c_towpathlaw14_LaneTrips_190
noncomputable def c_towpathlaw14_LaneTrips_193 : Code := Code.r c_towpathlaw14_LaneTrips_186
noncomputable def c_towpathlaw14_LaneTrips_194 : Code := Code.l c_towpathlaw14_LaneTrips_193
noncomputable def c_towpathlaw14_LaneTrips_195 : Code := Code.l c_towpathlaw14_LaneTrips_194
noncomputable def c_towpathlaw14_LaneTrips_196 : Code := Code.l c_towpathlaw14_LaneTrips_195
noncomputable def r_towpathlaw14_LaneTrips_196 : Array Oper := Code.ops c_towpathlaw14_LaneTrips_196
noncomputable def c_towpathlaw14_LaneTrips_198 : Code := Code.r c_towpathlaw14_LaneTrips_195
noncomputable def c_towpathlaw14_LaneTrips_199 : Code := Code.l c_towpathlaw14_LaneTrips_198
noncomputable def r_towpathlaw14_LaneTrips_199 : Array Oper := Code.ops c_towpathlaw14_LaneTrips_199
noncomputable def c_towpathlaw14_LaneTrips_201 : Code := Code.r c_towpathlaw14_LaneTrips_198
noncomputable def c_towpathlaw14_LaneTrips_202 : Code := Code.l c_towpathlaw14_LaneTrips_201
noncomputable def c_towpathlaw14_LaneTrips_203 : Code := Code.l c_towpathlaw14_LaneTrips_202
noncomputable def r_towpathlaw14_LaneTrips_203 : Array Oper := Code.ops c_towpathlaw14_LaneTrips_203
noncomputable def c_towpathlaw14_LaneTrips_205 : Code := Code.r c_towpathlaw14_LaneTrips_202
noncomputable def c_towpathlaw14_LaneTrips_206 : Code := Code.r c_towpathlaw14_LaneTrips_201
noncomputable def c_towpathlaw14_LaneTrips_207 : Code := Code.r c_towpathlaw14_LaneTrips_193
noncomputable def r_towpathlaw14_LaneTrips_207 : Array Oper := Code.ops c_towpathlaw14_LaneTrips_207
noncomputable def c_towpathlaw14_LaneTrips_209 : Code := Code.r c_towpathlaw14_LaneTrips_183
noncomputable def c_towpathlaw14_LaneTrips_210 : Code := Code.l c_towpathlaw14_LaneTrips_209
noncomputable def r_towpathlaw14_LaneTrips_210 : Array Oper := Code.ops c_towpathlaw14_LaneTrips_210
noncomputable def c_towpathlaw14_LaneTrips_212 : Code := Code.r c_towpathlaw14_LaneTrips_209
noncomputable def c_towpathlaw14_LaneTrips_213 : Code := Code.l c_towpathlaw14_LaneTrips_212
noncomputable def r_towpathlaw14_LaneTrips_213 : Array Oper := Code.ops c_towpathlaw14_LaneTrips_213
noncomputable def c_towpathlaw14_LaneTrips_215 : Code := Code.r c_towpathlaw14_LaneTrips_212
noncomputable def c_towpathlaw14_LaneTrips_216 : Code := Code.l c_towpathlaw14_LaneTrips_215
noncomputable def r_towpathlaw14_LaneTrips_216 : Array Oper := Code.ops c_towpathlaw14_LaneTrips_216
noncomputable def c_towpathlaw14_LaneTrips_218 : Code := Code.r c_towpathlaw14_LaneTrips_215
noncomputable def c_towpathlaw14_LaneTrips_219 : Code := Code.l c_towpathlaw14_LaneTrips_218
noncomputable def c_towpathlaw14_LaneTrips_220 : Code := Code.l c_towpathlaw14_LaneTrips_219
noncomputable def r_towpathlaw14_LaneTrips_220 : Array Oper := Code.ops c_towpathlaw14_LaneTrips_220
noncomputable def c_towpathlaw14_LaneTrips_222 : Code := Code.r c_towpathlaw14_LaneTrips_219
noncomputable def c_towpathlaw14_LaneTrips_223 : Code := Code.r c_towpathlaw14_LaneTrips_218
noncomputable def c_towpathlaw14_LaneTrips_224 : Code := Code.r c_towpathlaw14_LaneTrips_42
noncomputable def r_towpathlaw14_LaneTrips_224 : Array Oper := Code.ops c_towpathlaw14_LaneTrips_224
noncomputable def c_towpathlaw14_LaneTrips_226 : Code := Code.r c_towpathlaw14_LaneTrips_29
noncomputable def c_towpathlaw14_LaneTrips_227 : Code := Code.l c_towpathlaw14_LaneTrips_226
noncomputable def r_towpathlaw14_LaneTrips_227 : Array Oper := Code.ops c_towpathlaw14_LaneTrips_227
noncomputable def c_towpathlaw14_LaneTrips_229 : Code := Code.r c_towpathlaw14_LaneTrips_226
def o_towpathlaw14_LaneTrips_49 : List Nat := [0, 1, 3, 2, 4, 5]
def o_towpathlaw14_LaneTrips_125 : List Nat := [0, 1, 2, 3, 4, 5, 6, 7, 8, 9, 10, 11, 12, 13]
def o_towpathlaw14_LaneTrips_129 : List Nat := [0, 1, 2, 3, 4, 5, 6, 7, 8, 9, 10, 11, 12, 13, 14, 15, 16, 17, 18, 19, 20, 21, 22, 23, 24, 25, 26, 27, 28, 29, 30, 31, 32, 33, 34, 35, 36, 37, 38, 39, 40, 41, 42, 43, 44, 45, 46, 48, 49, 47, 50, 51, 52, 53, 54, 55, 56]

set_option maxRecDepth 100000 in
set_option maxHeartbeats 4000000 in
theorem S_towpathlaw14_LaneTrips {x : T_towpathlaw14_Trip} {w : World} {R : Bool → World → Prop} (h : F_towpathlaw14_LaneTrips x R w) : C_towpathlaw14_LaneTrips x w R := by
  unfold F_towpathlaw14_LaneTrips at h
  unfold C_towpathlaw14_LaneTrips
  refine Calls.mono (calls_of_wpE (args := [Value.agg #[Value.int .i64 x.Config.Lanes, Value.int .i64 x.Config.Shards, Value.int .i64 x.Config.Window, Value.int .i64 x.Config.Queue, Value.slice x.Txns.ptr x.Txns.len x.Txns.cap, Value.slice x.Acks.ptr x.Acks.len x.Acks.cap]]) (R := fun v w' => ∃ (r0 : Bool), v = Value.bool r0 ∧ R r0 w') Try.func5 (c := c_towpathlaw14_LaneTrips_0) (by kernel_rfl) 280 (by kernel_rfl) (by kernel_rfl) [(0, Value.agg #[Value.int .i64 x.Config.Lanes, Value.int .i64 x.Config.Shards, Value.int .i64 x.Config.Window, Value.int .i64 x.Config.Queue, Value.slice x.Txns.ptr x.Txns.len x.Txns.cap, Value.slice x.Acks.ptr x.Acks.len x.Acks.cap])] (by kernel_rfl) ?_) ?_
  · refine wpE_seq (x := c_towpathlaw14_LaneTrips_1) (y := c_towpathlaw14_LaneTrips_3) (by kernel_rfl) ?_
    refine wpE_region (id := 0) (ops := r_towpathlaw14_LaneTrips_1) (by kernel_rfl) ?_
    refine reg_run [] 0 [(0, [], Value.agg #[Value.int .i64 x.Config.Lanes, Value.int .i64 x.Config.Shards, Value.int .i64 x.Config.Window, Value.int .i64 x.Config.Queue, Value.slice x.Txns.ptr x.Txns.len x.Txns.cap, Value.slice x.Acks.ptr x.Acks.len x.Acks.cap])] (by kernel_rfl) (by kernel_rfl) ?_
    refine reg_new (op := (Go.Op.box 54 (Go.Operand.tmp 0))) (ty := 0) (dst := some 1) (fun bb => Value.pointer (some ⟨bb, 0, none⟩)) (Obj.cells ([Value.int .i64 x.Config.Lanes, Value.int .i64 x.Config.Shards, Value.int .i64 x.Config.Window, Value.int .i64 x.Config.Queue, Value.slice x.Txns.ptr x.Txns.len x.Txns.cap, Value.slice x.Acks.ptr x.Acks.len x.Acks.cap]).toArray ty_towpathlaw14_Trip (0, 0)) (by kernel_rfl) (by kernel_rfl) (fun b_ w1 hb hw => ?_)
    replace h := h b_ w1 hb hw
    clear hb hw
    refine reg_run [.plain] 2 [(1, [], Value.pointer (some ⟨b_, 0, none⟩))] (by kernel_rfl) (by kernel_rfl) ?_
    refine reg_end [(1, Value.pointer (some ⟨b_, 0, none⟩))] (by kernel_rfl) (by kernel_rfl) ?_
    change WpE _ _ c_towpathlaw14_LaneTrips_3 _ _ _
    refine wpE_seq (x := c_towpathlaw14_LaneTrips_4) (y := c_towpathlaw14_LaneTrips_13) (by kernel_rfl) ?_
    refine wpE_seq_cut (x := c_towpathlaw14_LaneTrips_5) (y := c_towpathlaw14_LaneTrips_7) (by kernel_rfl) (fun l w => ∃ (t45 : Bool), l = [(1, Value.pointer (some ⟨b_, 0, none⟩)), (45, Value.bool t45)] ∧ F_towpathlaw14_LaneTrips_k0 R b_ t45 w) ?_ ?_
    · refine wpE_region (id := 1) (ops := r_towpathlaw14_LaneTrips_5) (by kernel_rfl) ?_
      refine reg_run [] 0 [(1, [], Value.pointer (some ⟨b_, 0, none⟩))] (by kernel_rfl) (by kernel_rfl) ?_
      refine reg_enter (op := (Go.Op.call (Go.Call.mk (Go.Callee.value (Go.Operand.func 20)) #[] #[]))) (ty := 4) (dst := some 25) 20 #[] (by kernel_rfl) (fun ww => by kernel_rfl) (Calls.mono h ?_)
      rintro _ w48 ⟨v25, rfl, h⟩
      refine ⟨_, rfl, ?_⟩
      refine reg_run [.plain, .plain, .plain] 4 [(1, [], Value.pointer (some ⟨b_, 0, none⟩)), (27, [], Value.bool (!v25)), (28, [(27, false)], Value.pointer (some ⟨b_, 0, none⟩))] (by kernel_rfl) (by kernel_rfl) ?_
      refine reg_split 27 (!v25) (by kernel_rfl) (fun hb => ?_) (fun hb => ?_)
      · replace h := h.1 hb
        refine reg_run [] 4 [(1, [], Value.pointer (some ⟨b_, 0, none⟩)), (27, [], Value.bool true), (28, [], undef)] (by kernel_rfl) (by kernel_rfl) ?_
        refine reg_run [.skip, .skip, .skip, .plain, .plain, .skip, .skip, .skip, .skip, .skip, .plain, .plain, .skip, .skip, .skip, .skip, .plain] 21 [(1, [], Value.pointer (some ⟨b_, 0, none⟩)), (45, [], Value.bool true)] (by kernel_rfl) (by kernel_rfl) ?_
        refine reg_end [(1, Value.pointer (some ⟨b_, 0, none⟩)), (45, Value.bool true)] (by kernel_rfl) (by kernel_rfl) ?_
        exact ⟨[(1, Value.pointer (some ⟨b_, 0, none⟩)), (45, Value.bool true)], Sub.mk (by kernel_rfl), true, rfl, h⟩
      · replace h := h.2 hb
        refine reg_run [] 4 [(1, [], Value.pointer (some ⟨b_, 0, none⟩)), (27, [], Value.bool false), (28, [], Value.pointer (some ⟨b_, 0, none⟩))] (by kernel_rfl) (by kernel_rfl) ?_
        refine reg_run [] 4 [(1, [], Value.pointer (some ⟨b_, 0, none⟩)), (27, [], Value.bool false), (28, [], Value.pointer (some ⟨b_, 0, none⟩))] (by kernel_rfl) (by kernel_rfl) ?_
        obtain ⟨v29, hc, h⟩ := h
        refine reg_loadN (t := 35) (a := (Go.Operand.tmp 28)) (b := b_) (o := 0) (ty := 35) (dst := some 29) [Value.int .i64 v29.Lanes, Value.int .i64 v29.Shards, Value.int .i64 v29.Window, Value.int .i64 v29.Queue] (by kernel_rfl) (by kernel_rfl) (by kernel_rfl) (k := 4) (by kernel_rfl) (by kernel_rfl) hc ?_
        refine reg_run [] 5 [(1, [], Value.pointer (some ⟨b_, 0, none⟩)), (27, [], Value.bool false), (29, [], Value.agg #[Value.int .i64 v29.Lanes, Value.int .i64 v29.Shards, Value.int .i64 v29.Window, Value.int .i64 v29.Queue])] (by kernel_rfl) (by kernel_rfl) ?_
        refine reg_enter (op := (Go.Op.call (Go.Call.mk (Go.Callee.value (Go.Operand.func 21)) #[(Go.Operand.tmp 29)] #[35]))) (ty := 28) (dst := some 30) 21 #[Value.agg #[Value.int .i64 v29.Lanes, Value.int .i64 v29.Shards, Value.int .i64 v29.Window, Value.int .i64 v29.Queue]] (by kernel_rfl) (fun ww => by kernel_rfl) (Calls.mono h ?_)
        rintro _ w49 ⟨v30, rfl, h⟩
        refine ⟨_, rfl, ?_⟩
        refine reg_run [.sure, .plain, .plain, .plain] 10 [(1, [], Value.pointer (some ⟨b_, 0, none⟩)), (33, [], Value.bool (v30 != 0)), (34, [(33, false)], Value.pointer (some ⟨b_, 4, none⟩))] (by kernel_rfl) (by kernel_rfl) ?_
        refine reg_split 33 (v30 != 0) (by kernel_rfl) (fun hb => ?_) (fun hb => ?_)
        · replace h := h.1 hb
          refine reg_run [] 10 [(1, [], Value.pointer (some ⟨b_, 0, none⟩)), (33, [], Value.bool true), (34, [], undef)] (by kernel_rfl) (by kernel_rfl) ?_
          refine reg_run [.skip, .skip, .skip, .skip, .plain, .plain, .skip, .skip, .skip, .skip, .plain] 21 [(1, [], Value.pointer (some ⟨b_, 0, none⟩)), (45, [], Value.bool true)] (by kernel_rfl) (by kernel_rfl) ?_
          refine reg_end [(1, Value.pointer (some ⟨b_, 0, none⟩)), (45, Value.bool true)] (by kernel_rfl) (by kernel_rfl) ?_
          exact ⟨[(1, Value.pointer (some ⟨b_, 0, none⟩)), (45, Value.bool true)], Sub.mk (by kernel_rfl), true, rfl, h⟩
        · replace h := h.2 hb
          refine reg_run [] 10 [(1, [], Value.pointer (some ⟨b_, 0, none⟩)), (33, [], Value.bool false), (34, [], Value.pointer (some ⟨b_, 4, none⟩))] (by kernel_rfl) (by kernel_rfl) ?_
          refine reg_run [] 10 [(1, [], Value.pointer (some ⟨b_, 0, none⟩)), (33, [], Value.bool false), (34, [], Value.pointer (some ⟨b_, 4, none⟩))] (by kernel_rfl) (by kernel_rfl) ?_
          obtain ⟨v35, hc, h⟩ := h
          refine reg_load1 (t := 52) (a := (Go.Operand.tmp 34)) (b := b_) (o := 4) (ty := 52) (dst := some 35) (by kernel_rfl) (by kernel_rfl) (by kernel_rfl) hc ?_
          refine reg_run [] 11 [(1, [], Value.pointer (some ⟨b_, 0, none⟩)), (33, [], Value.bool false), (35, [], Value.slice v35.ptr v35.len v35.cap)] (by kernel_rfl) (by kernel_rfl) ?_
          refine reg_enter (op := (Go.Op.call (Go.Call.mk (Go.Callee.value (Go.Operand.func 22)) #[(Go.Operand.tmp 35)] #[52]))) (ty := 3) (dst := some 36) 22 #[Value.slice v35.ptr v35.len v35.cap] (by kernel_rfl) (fun ww => by kernel_rfl) (Calls.mono h ?_)
          rintro _ w50 ⟨v36, rfl, h⟩
          refine ⟨_, rfl, ?_⟩
          refine reg_run [] 12 [(1, [], Value.pointer (some ⟨b_, 0, none⟩)), (33, [], Value.bool false), (36, [], Value.int .i64 v36)] (by kernel_rfl) (by kernel_rfl) ?_
          refine reg_new (op := (Go.Op.buildSlice 63 1 #[(0, (Go.Operand.tmp 36))])) (ty := 63) (dst := some 37) (fun bb => Value.slice (some ⟨bb, 0, none⟩) 1 1) (Obj.cells ([Value.int .i64 v36]).toArray ty_int (0, 0)) (by kernel_rfl) (by kernel_rfl) (fun b_4 w51 hb hw => ?_)
          replace h := h b_4 w51 hb hw
          clear hb hw
          refine reg_run [] 13 [(1, [], Value.pointer (some ⟨b_, 0, none⟩)), (33, [], Value.bool false), (37, [], Value.slice (some ⟨b_4, 0, none⟩) 1 1)] (by kernel_rfl) (by kernel_rfl) ?_
          refine reg_enter (op := (Go.Op.call (Go.Call.mk (Go.Callee.value (Go.Operand.func 10)) #[(Go.Operand.tmp 37)] #[63]))) (ty := 4) (dst := some 38) 10 #[Value.slice (some ⟨b_4, 0, none⟩) 1 1] (by kernel_rfl) (fun ww => by kernel_rfl) (Calls.mono h ?_)
          rintro _ w52 ⟨v38, rfl, h⟩
          refine ⟨_, rfl, ?_⟩
          refine reg_run [.plain, .plain, .plain] 17 [(1, [], Value.pointer (some ⟨b_, 0, none⟩)), (40, [], Value.bool v38), (41, [(40, false)], Value.pointer (some ⟨b_, 4, none⟩))] (by kernel_rfl) (by kernel_rfl) ?_
          refine reg_split 40 v38 (by kernel_rfl) (fun hb => ?_) (fun hb => ?_)
          · replace h := h.1 hb
            refine reg_run [] 17 [(1, [], Value.pointer (some ⟨b_, 0, none⟩)), (40, [], Value.bool true), (41, [], undef)] (by kernel_rfl) (by kernel_rfl) ?_
            refine reg_run [.skip, .skip, .skip, .plain] 21 [(1, [], Value.pointer (some ⟨b_, 0, none⟩)), (45, [], Value.bool true)] (by kernel_rfl) (by kernel_rfl) ?_
            refine reg_end [(1, Value.pointer (some ⟨b_, 0, none⟩)), (45, Value.bool true)] (by kernel_rfl) (by kernel_rfl) ?_
            exact ⟨[(1, Value.pointer (some ⟨b_, 0, none⟩)), (45, Value.bool true)], Sub.mk (by kernel_rfl), true, rfl, h⟩
          · replace h := h.2 hb
            refine reg_run [] 17 [(1, [], Value.pointer (some ⟨b_, 0, none⟩)), (40, [], Value.bool false), (41, [], Value.pointer (some ⟨b_, 4, none⟩))] (by kernel_rfl) (by kernel_rfl) ?_
            refine reg_run [] 17 [(1, [], Value.pointer (some ⟨b_, 0, none⟩)), (40, [], Value.bool false), (41, [], Value.pointer (some ⟨b_, 4, none⟩))] (by kernel_rfl) (by kernel_rfl) ?_
            obtain ⟨v42, hc, h⟩ := h
            refine reg_load1 (t := 52) (a := (Go.Operand.tmp 41)) (b := b_) (o := 4) (ty := 52) (dst := some 42) (by kernel_rfl) (by kernel_rfl) (by kernel_rfl) hc ?_
            refine reg_run [.sure, .sure, .plain] 21 [(1, [], Value.pointer (some ⟨b_, 0, none⟩)), (45, [], Value.bool (decide (((v42.len : Nat) : Int) > 100)))] (by kernel_rfl) (by kernel_rfl) ?_
            refine reg_end [(1, Value.pointer (some ⟨b_, 0, none⟩)), (45, Value.bool (decide (((v42.len : Nat) : Int) > 100)))] (by kernel_rfl) (by kernel_rfl) ?_
            exact ⟨[(1, Value.pointer (some ⟨b_, 0, none⟩)), (45, Value.bool (decide (((v42.len : Nat) : Int) > 100)))], Sub.mk (by kernel_rfl), (decide (((v42.len : Nat) : Int) > 100)), rfl, h⟩
    · rintro _ w2 ⟨t45, rfl, h⟩
      unfold F_towpathlaw14_LaneTrips_k0 at h
      refine wpE_cond (o := (Operand.tmp 45)) (b := t45) (x := c_towpathlaw14_LaneTrips_8) (y := c_towpathlaw14_LaneTrips_12) (by kernel_rfl) (by kernel_rfl) (fun hb => ?_) (fun hb => ?_)
      · replace h := h.1 hb
        refine wpE_seq (x := c_towpathlaw14_LaneTrips_9) (y := c_towpathlaw14_LaneTrips_11) (by kernel_rfl) ?_
        refine wpE_region (id := 2) (ops := r_towpathlaw14_LaneTrips_9) (by kernel_rfl) ?_
        refine reg_run [] 0 [] (by kernel_rfl) (by kernel_rfl) ?_
        refine reg_enter (op := (Go.Op.call (Go.Call.mk (Go.Callee.value (Go.Operand.func 20)) #[] #[]))) (ty := 4) (dst := some 46) 20 #[] (by kernel_rfl) (fun ww => by kernel_rfl) (Calls.mono h ?_)
        rintro _ w3 ⟨v46, rfl, h⟩
        refine ⟨_, rfl, ?_⟩
        refine reg_run [.plain] 2 [(2, [], Value.bool v46)] (by kernel_rfl) (by kernel_rfl) ?_
        refine reg_end [(2, Value.bool v46)] (by kernel_rfl) (by kernel_rfl) ?_
        change WpE _ _ c_towpathlaw14_LaneTrips_11 _ _ _
        refine wpE_ret (by kernel_rfl) ?_
        repeat (first | refine seqQ_ret ?_ | refine blockQ_ret ?_ | refine loopQ_ret ?_ | refine cutQ_ret ?_)
        exact retS (rs := [(Go.ResultVar.tmp 2)]) (v := Value.bool v46) (by kernel_rfl) (⟨by kernel_rfl, trivial⟩) ⟨v46, rfl, h⟩
      · replace h := h.2 hb
        refine wpE_skip (by kernel_rfl) ?_
        change WpE _ _ c_towpathlaw14_LaneTrips_13 _ _ _
        refine wpE_seq (x := c_towpathlaw14_LaneTrips_14) (y := c_towpathlaw14_LaneTrips_16) (by kernel_rfl) ?_
        refine wpE_region (id := 3) (ops := r_towpathlaw14_LaneTrips_14) (by kernel_rfl) ?_
        refine reg_run [.plain, .plain] 2 [(1, [], Value.pointer (some ⟨b_, 0, none⟩)), (49, [], Value.pointer (some ⟨b_, 0, none⟩))] (by kernel_rfl) (by kernel_rfl) ?_
        obtain ⟨v50, hc, h⟩ := h
        refine reg_load1 (t := 3) (a := (Go.Operand.tmp 49)) (b := b_) (o := 0) (ty := 3) (dst := some 50) (by kernel_rfl) (by kernel_rfl) (by kernel_rfl) hc ?_
        refine reg_run [.plain] 4 [(1, [], Value.pointer (some ⟨b_, 0, none⟩)), (50, [], Value.int .i64 v50), (51, [], Value.pointer (some ⟨b_, 0, none⟩))] (by kernel_rfl) (by kernel_rfl) ?_
        obtain ⟨v52, hc, h⟩ := h
        refine reg_loadN (t := 35) (a := (Go.Operand.tmp 51)) (b := b_) (o := 0) (ty := 35) (dst := some 52) [Value.int .i64 v52.Lanes, Value.int .i64 v52.Shards, Value.int .i64 v52.Window, Value.int .i64 v52.Queue] (by kernel_rfl) (by kernel_rfl) (by kernel_rfl) (k := 4) (by kernel_rfl) (by kernel_rfl) hc ?_
        refine reg_run [] 5 [(1, [], Value.pointer (some ⟨b_, 0, none⟩)), (50, [], Value.int .i64 v50), (52, [], Value.agg #[Value.int .i64 v52.Lanes, Value.int .i64 v52.Shards, Value.int .i64 v52.Window, Value.int .i64 v52.Queue])] (by kernel_rfl) (by kernel_rfl) ?_
        refine reg_enter (op := (Go.Op.call (Go.Call.mk (Go.Callee.value (Go.Operand.func 17)) #[(Go.Operand.tmp 50), (Go.Operand.tmp 52)] #[3, 35]))) (ty := 39) (dst := some 53) 17 #[Value.int .i64 v50, Value.agg #[Value.int .i64 v52.Lanes, Value.int .i64 v52.Shards, Value.int .i64 v52.Window, Value.int .i64 v52.Queue]] (by kernel_rfl) (fun ww => by kernel_rfl) (Calls.mono h ?_)
        rintro _ w4 ⟨l_, e, rfl, h⟩
        refine ⟨_, rfl, ?_⟩
        refine reg_run [.plain, .plain, .plain, .plain, .plain] 11 [(1, [], Value.pointer (some ⟨b_, 0, none⟩)), (3, [], Value.pointer l_), (4, [], Value.int .i64 e)] (by kernel_rfl) (by kernel_rfl) ?_
        refine reg_end [(1, Value.pointer (some ⟨b_, 0, none⟩)), (3, Value.pointer l_), (4, Value.int .i64 e)] (by kernel_rfl) (by kernel_rfl) ?_
        change WpE _ _ c_towpathlaw14_LaneTrips_16 _ _ _
        refine wpE_seq (x := c_towpathlaw14_LaneTrips_17) (y := c_towpathlaw14_LaneTrips_26) (by kernel_rfl) ?_
        refine wpE_seq (x := c_towpathlaw14_LaneTrips_18) (y := c_towpathlaw14_LaneTrips_20) (by kernel_rfl) ?_
        refine wpE_region (id := 4) (ops := r_towpathlaw14_LaneTrips_18) (by kernel_rfl) ?_
        refine reg_run [.plain, .plain] 2 [(1, [], Value.pointer (some ⟨b_, 0, none⟩)), (3, [], Value.pointer l_), (57, [], Value.bool (e != 0))] (by kernel_rfl) (by kernel_rfl) ?_
        refine reg_end [(1, Value.pointer (some ⟨b_, 0, none⟩)), (3, Value.pointer l_), (57, Value.bool (e != 0))] (by kernel_rfl) (by kernel_rfl) ?_
        change WpE _ _ c_towpathlaw14_LaneTrips_20 _ _ _
        refine wpE_cond (o := (Operand.tmp 57)) (b := (e != 0)) (x := c_towpathlaw14_LaneTrips_21) (y := c_towpathlaw14_LaneTrips_25) (by kernel_rfl) (by kernel_rfl) (fun hb => ?_) (fun hb => ?_)
        · replace h := h.1 hb
          refine wpE_seq (x := c_towpathlaw14_LaneTrips_22) (y := c_towpathlaw14_LaneTrips_24) (by kernel_rfl) ?_
          refine wpE_region (id := 5) (ops := r_towpathlaw14_LaneTrips_22) (by kernel_rfl) ?_
          refine reg_run [.plain] 1 [(2, [], Value.bool false)] (by kernel_rfl) (by kernel_rfl) ?_
          refine reg_end [(2, Value.bool false)] (by kernel_rfl) (by kernel_rfl) ?_
          change WpE _ _ c_towpathlaw14_LaneTrips_24 _ _ _
          refine wpE_ret (by kernel_rfl) ?_
          repeat (first | refine seqQ_ret ?_ | refine blockQ_ret ?_ | refine loopQ_ret ?_ | refine cutQ_ret ?_)
          exact retS (rs := [(Go.ResultVar.tmp 2)]) (v := Value.bool false) (by kernel_rfl) (⟨by kernel_rfl, trivial⟩) ⟨false, rfl, h⟩
        · replace h := h.2 hb
          refine wpE_skip (by kernel_rfl) ?_
          change WpE _ _ c_towpathlaw14_LaneTrips_26 _ _ _
          refine wpE_seq (x := c_towpathlaw14_LaneTrips_27) (y := c_towpathlaw14_LaneTrips_29) (by kernel_rfl) ?_
          refine wpE_region (id := 6) (ops := r_towpathlaw14_LaneTrips_27) (by kernel_rfl) ?_
          refine reg_run [.plain] 1 [(1, [], Value.pointer (some ⟨b_, 0, none⟩)), (3, [], Value.pointer l_), (5, [], Value.int .i64 0)] (by kernel_rfl) (by kernel_rfl) ?_
          refine reg_end [(1, Value.pointer (some ⟨b_, 0, none⟩)), (3, Value.pointer l_), (5, Value.int .i64 0)] (by kernel_rfl) (by kernel_rfl) ?_
          change WpE _ _ c_towpathlaw14_LaneTrips_29 _ _ _
          refine wpE_seq (x := c_towpathlaw14_LaneTrips_30) (y := c_towpathlaw14_LaneTrips_226) (by kernel_rfl) ?_
          refine wpE_seq (x := c_towpathlaw14_LaneTrips_31) (y := c_towpathlaw14_LaneTrips_33) (by kernel_rfl) ?_
          refine wpE_region (id := 7) (ops := r_towpathlaw14_LaneTrips_31) (by kernel_rfl) ?_
          refine reg_run [.plain] 1 [(1, [], Value.pointer (some ⟨b_, 0, none⟩)), (3, [], Value.pointer l_), (5, [], Value.int .i64 0), (6, [], Value.int .i64 0)] (by kernel_rfl) (by kernel_rfl) ?_
          refine reg_end [(1, Value.pointer (some ⟨b_, 0, none⟩)), (3, Value.pointer l_), (5, Value.int .i64 0), (6, Value.int .i64 0)] (by kernel_rfl) (by kernel_rfl) ?_
          change WpE _ _ c_towpathlaw14_LaneTrips_33 _ _ _
          refine wpE_block (id := 0) (x := c_towpathlaw14_LaneTrips_34) (by kernel_rfl) ?_
          obtain ⟨I, μ, h0, hr⟩ := h
          refine wpE_loop (x := c_towpathlaw14_LaneTrips_35) (by kernel_rfl) (fun m l w => ∃ (at_ : Int) (i : Int), l = [(1, Value.pointer (some ⟨b_, 0, none⟩)), (3, Value.pointer l_), (5, Value.int .i64 at_), (6, Value.int .i64 i)] ∧ I at_ i w ∧ μ at_ i w = m) (l' := [(1, Value.pointer (some ⟨b_, 0, none⟩)), (3, Value.pointer l_), (5, Value.int .i64 0), (6, Value.int .i64 0)]) (Sub.mk (by kernel_rfl)) ⟨0, 0, rfl, h0, rfl⟩ ?_
          rintro _ _ w5 ⟨at_, i, rfl, hI, rfl⟩
          obtain ⟨again_, again__h, h⟩ : ∃ again_ : Int → Int → World → Prop, (∀ at_' i' w', again_ at_' i' w' → I at_' i' w' ∧ μ at_' i' w' < μ at_ i w5) ∧ F_towpathlaw14_LaneTrips_L1 R b_ l_ again_ at_ i w5 := ⟨_, fun _ _ _ h => h, hr at_ i w5 hI⟩
          clear h0 hI
          unfold F_towpathlaw14_LaneTrips_L1 at h
          refine wpE_seq (x := c_towpathlaw14_LaneTrips_36) (y := c_towpathlaw14_LaneTrips_42) (by kernel_rfl) ?_
          refine wpE_seq (x := c_towpathlaw14_LaneTrips_37) (y := c_towpathlaw14_LaneTrips_39) (by kernel_rfl) ?_
          refine wpE_region (id := 8) (ops := r_towpathlaw14_LaneTrips_37) (by kernel_rfl) ?_
          refine reg_run [.plain, .plain] 2 [(1, [], Value.pointer (some ⟨b_, 0, none⟩)), (3, [], Value.pointer l_), (5, [], Value.int .i64 at_), (6, [], Value.int .i64 i), (58, [], Value.int .i64 i), (59, [], Value.pointer (some ⟨b_, 4, none⟩))] (by kernel_rfl) (by kernel_rfl) ?_
          obtain ⟨v60, hc, h⟩ := h
          refine reg_load1 (t := 52) (a := (Go.Operand.tmp 59)) (b := b_) (o := 4) (ty := 52) (dst := some 60) (by kernel_rfl) (by kernel_rfl) (by kernel_rfl) hc ?_
          refine reg_run [.plain, .plain] 5 [(1, [], Value.pointer (some ⟨b_, 0, none⟩)), (3, [], Value.pointer l_), (5, [], Value.int .i64 at_), (6, [], Value.int .i64 i), (62, [], Value.bool (decide (i < ((v60.len : Nat) : Int))))] (by kernel_rfl) (by kernel_rfl) ?_
          refine reg_end [(1, Value.pointer (some ⟨b_, 0, none⟩)), (3, Value.pointer l_), (5, Value.int .i64 at_), (6, Value.int .i64 i), (62, Value.bool (decide (i < ((v60.len : Nat) : Int))))] (by kernel_rfl) (by kernel_rfl) ?_
          change WpE _ _ c_towpathlaw14_LaneTrips_39 _ _ _
          refine wpE_cond (o := (Operand.tmp 62)) (b := (decide (i < ((v60.len : Nat) : Int)))) (x := c_towpathlaw14_LaneTrips_40) (y := c_towpathlaw14_LaneTrips_41) (by kernel_rfl) (by kernel_rfl) (fun hb => ?_) (fun hb => ?_)
          · replace h := h.1 hb
            refine wpE_skip (by kernel_rfl) ?_
            change WpE _ _ c_towpathlaw14_LaneTrips_42 _ _ _
            refine wpE_seq_cut (x := c_towpathlaw14_LaneTrips_43) (y := c_towpathlaw14_LaneTrips_224) (by kernel_rfl) (fun l w => ∃ (at_1 : Int), l = [(1, Value.pointer (some ⟨b_, 0, none⟩)), (3, Value.pointer l_), (5, Value.int .i64 at_1), (6, Value.int .i64 i)] ∧ F_towpathlaw14_LaneTrips_k2 i again_ at_1 w) ?_ ?_
            · refine wpE_block (id := 1) (x := c_towpathlaw14_LaneTrips_44) (by kernel_rfl) ?_
              refine wpE_seq (x := c_towpathlaw14_LaneTrips_45) (y := c_towpathlaw14_LaneTrips_47) (by kernel_rfl) ?_
              refine wpE_region (id := 10) (ops := r_towpathlaw14_LaneTrips_45) (by kernel_rfl) ?_
              refine reg_run [.plain] 1 [(1, [], Value.pointer (some ⟨b_, 0, none⟩)), (3, [], Value.pointer l_), (5, [], Value.int .i64 at_), (6, [], Value.int .i64 i), (65, [], Value.pointer (some ⟨b_, 4, none⟩))] (by kernel_rfl) (by kernel_rfl) ?_
              obtain ⟨v66, hc, h⟩ := h
              refine reg_load1 (t := 52) (a := (Go.Operand.tmp 65)) (b := b_) (o := 4) (ty := 52) (dst := some 66) (by kernel_rfl) (by kernel_rfl) (by kernel_rfl) hc ?_
              refine reg_run [.plain] 3 [(1, [], Value.pointer (some ⟨b_, 0, none⟩)), (3, [], Value.pointer l_), (5, [], Value.int .i64 at_), (6, [], Value.int .i64 i), (66, [], Value.slice v66.ptr v66.len v66.cap), (67, [], Value.int .i64 i)] (by kernel_rfl) (by kernel_rfl) ?_
              obtain ⟨hp_271, h⟩ := h
              refine reg_conv [(1, [], Value.pointer (some ⟨b_, 0, none⟩)), (3, [], Value.pointer l_), (5, [], Value.int .i64 at_), (6, [], Value.int .i64 i), (66, [], Value.slice (some ⟨(pblk v66.ptr), (poff v66.ptr), none⟩) v66.len v66.cap), (67, [], Value.int .i64 i)] (congrArg (fun pp => ([(1, [], Value.pointer (some ⟨b_, 0, none⟩)), (3, [], Value.pointer l_), (5, [], Value.int .i64 at_), (6, [], Value.int .i64 i), (66, [], Value.slice pp v66.len v66.cap), (67, [], Value.int .i64 i)] : GEnv)) hp_271) ?_
              obtain ⟨h0, h1, h⟩ := h
              refine reg_indexS (t := 52) (e := 27) (x := (Go.Operand.tmp 66)) (ix := (Go.Operand.tmp 67)) (b := (pblk v66.ptr)) (o := (poff v66.ptr)) (l := v66.len) (c := v66.cap) (k := .i64) (j := i) (ty := 0) (dst := some 68) (sz := 2) (by kernel_rfl) (by kernel_rfl) (by kernel_rfl) (by kernel_rfl) (by kernel_rfl) h0 h1 ?_
              refine reg_run [] 4 [(1, [], Value.pointer (some ⟨b_, 0, none⟩)), (3, [], Value.pointer l_), (5, [], Value.int .i64 at_), (6, [], Value.int .i64 i), (68, [], Value.pointer (some ⟨(pblk v66.ptr), (poff v66.ptr) + i.toNat * 2, none⟩))] (by kernel_rfl) (by kernel_rfl) ?_
              obtain ⟨v69, hc, h⟩ := h
              refine reg_loadN (t := 27) (a := (Go.Operand.tmp 68)) (b := (pblk v66.ptr)) (o := ((poff v66.ptr) + i.toNat * 2)) (ty := 27) (dst := some 69) [Value.int .i64 v69.Number, Value.slice v69.Writes.ptr v69.Writes.len v69.Writes.cap] (by kernel_rfl) (by kernel_rfl) (by kernel_rfl) (k := 2) (by kernel_rfl) (by kernel_rfl) hc ?_
              refine reg_run [] 5 [(1, [], Value.pointer (some ⟨b_, 0, none⟩)), (3, [], Value.pointer l_), (5, [], Value.int .i64 at_), (6, [], Value.int .i64 i), (69, [], Value.agg #[Value.int .i64 v69.Number, Value.slice v69.Writes.ptr v69.Writes.len v69.Writes.cap])] (by kernel_rfl) (by kernel_rfl) ?_
              refine reg_new (op := (Go.Op.alloc 27)) (ty := 0) (dst := some 7) (fun bb => Value.pointer (some ⟨bb, 0, none⟩)) (Obj.cells ([Value.int .i64 0, Value.slice none 0 0]).toArray ty_api_Txn (0, 0)) (by kernel_rfl) (by kernel_rfl) (fun b_1 w7 hb hw => ?_)
              replace h := h b_1 w7 hb hw
              clear hb hw
              refine reg_run [] 6 [(1, [], Value.pointer (some ⟨b_, 0, none⟩)), (3, [], Value.pointer l_), (5, [], Value.int .i64 at_), (6, [], Value.int .i64 i), (7, [], Value.pointer (some ⟨b_1, 0, none⟩)), (69, [], Value.agg #[Value.int .i64 v69.Number, Value.slice v69.Writes.ptr v69.Writes.len v69.Writes.cap])] (by kernel_rfl) (by kernel_rfl) ?_
              obtain ⟨hc, h⟩ := h
              refine reg_store (t := 27) (a := (Go.Operand.tmp 7)) (x := (Go.Operand.tmp 69)) (b := b_1) (o := 0) (ty := 0) (dst := none) [Value.int .i64 v69.Number, Value.slice v69.Writes.ptr v69.Writes.len v69.Writes.cap] (by kernel_rfl) (by kernel_rfl) (by kernel_rfl) (k := 2) (by kernel_rfl) (by kernel_rfl) (by kernel_rfl) hc (fun w8 hw => ?_)
              replace h := h w8 hw
              clear hw
              refine reg_end [(1, Value.pointer (some ⟨b_, 0, none⟩)), (3, Value.pointer l_), (5, Value.int .i64 at_), (6, Value.int .i64 i), (7, Value.pointer (some ⟨b_1, 0, none⟩))] (by kernel_rfl) (by kernel_rfl) ?_
              change WpE _ _ c_towpathlaw14_LaneTrips_47 _ _ _
              refine wpE_seq (x := c_towpathlaw14_LaneTrips_48) (y := c_towpathlaw14_LaneTrips_57) (by kernel_rfl) ?_
              refine wpE_seq (x := c_towpathlaw14_LaneTrips_49) (y := c_towpathlaw14_LaneTrips_51) (by kernel_rfl) ?_
              refine wpE_mixregion (id := 11) (ops := r_towpathlaw14_LaneTrips_49) o_towpathlaw14_LaneTrips_49 (by kernel_rfl) (by kernel_rfl) (by kernel_rfl) (by kernel_rfl) (fun w9 hw => ?_)
              replace h := h w9 hw
              clear hw
              refine mreg_run [.plain] 1 [(1, [], Value.pointer (some ⟨b_, 0, none⟩)), (3, [], Value.pointer l_), (5, [], Value.int .i64 at_), (6, [], Value.int .i64 i), (7, [], Value.pointer (some ⟨b_1, 0, none⟩)), (70, [], Value.pointer l_)] (by kernel_rfl) (by kernel_rfl) ?_
              obtain ⟨v71, hc, h⟩ := h
              refine mreg_loadN (i := 1) (by kernel_rfl) (t := 27) (a := (Go.Operand.tmp 7)) (b := b_1) (o := 0) (ty := 27) (dst := some 71) [Value.int .i64 v71.Number, Value.slice v71.Writes.ptr v71.Writes.len v71.Writes.cap] (by kernel_rfl) (by kernel_rfl) (by kernel_rfl) (k := 2) (by kernel_rfl) (by kernel_rfl) hc ?_
              refine mreg_run [] 2 [(1, [], Value.pointer (some ⟨b_, 0, none⟩)), (3, [], Value.pointer l_), (5, [], Value.int .i64 at_), (6, [], Value.int .i64 i), (7, [], Value.pointer (some ⟨b_1, 0, none⟩)), (70, [], Value.pointer l_), (71, [], Value.agg #[Value.int .i64 v71.Number, Value.slice v71.Writes.ptr v71.Writes.len v71.Writes.cap])] (by kernel_rfl) (by kernel_rfl) ?_
              obtain ⟨v73, hc, h⟩ := h
              refine mreg_loadN (i := 3) (by kernel_rfl) (t := 27) (a := (Go.Operand.tmp 7)) (b := b_1) (o := 0) (ty := 27) (dst := some 73) [Value.int .i64 v73.Number, Value.slice v73.Writes.ptr v73.Writes.len v73.Writes.cap] (by kernel_rfl) (by kernel_rfl) (by kernel_rfl) (k := 2) (by kernel_rfl) (by kernel_rfl) hc ?_
              refine mreg_run [] 3 [(1, [], Value.pointer (some ⟨b_, 0, none⟩)), (3, [], Value.pointer l_), (5, [], Value.int .i64 at_), (6, [], Value.int .i64 i), (7, [], Value.pointer (some ⟨b_1, 0, none⟩)), (70, [], Value.pointer l_), (71, [], Value.agg #[Value.int .i64 v71.Number, Value.slice v71.Writes.ptr v71.Writes.len v71.Writes.cap]), (73, [], Value.agg #[Value.int .i64 v73.Number, Value.slice v73.Writes.ptr v73.Writes.len v73.Writes.cap])] (by kernel_rfl) (by kernel_rfl) ?_
              refine mreg_enter (op := (Go.Op.call (Go.Call.mk (Go.Callee.value (Go.Operand.func 23)) #[(Go.Operand.tmp 70), (Go.Operand.tmp 71)] #[38, 27]))) (ty := 28) (dst := some 72) 2 [0, 1] [(3, fun w' => CellsAt w' b_1 0 [Value.int .i64 v73.Number, Value.slice v73.Writes.ptr v73.Writes.len v73.Writes.cap])] 23 #[Value.pointer l_, Value.agg #[Value.int .i64 v71.Number, Value.slice v71.Writes.ptr v71.Writes.len v71.Writes.cap]] (by kernel_rfl) (by kernel_rfl) (by kernel_rfl) (by kernel_rfl) (by kernel_rfl) (fun ww => by kernel_rfl) (Calls.mono h ?_)
              rintro _ w10 ⟨v72, rfl, h⟩
              obtain ⟨hk0, h⟩ := h
              refine ⟨_, rfl, ⟨hk0, trivial⟩, ?_⟩
              refine mreg_run [] 4 [(1, [], Value.pointer (some ⟨b_, 0, none⟩)), (3, [], Value.pointer l_), (5, [], Value.int .i64 at_), (6, [], Value.int .i64 i), (7, [], Value.pointer (some ⟨b_1, 0, none⟩)), (72, [], Value.int .i64 v72), (73, [], Value.agg #[Value.int .i64 v73.Number, Value.slice v73.Writes.ptr v73.Writes.len v73.Writes.cap])] (by kernel_rfl) (by kernel_rfl) ?_
              refine mreg_enter (op := (Go.Op.call (Go.Call.mk (Go.Callee.value (Go.Operand.func 24)) #[(Go.Operand.tmp 73)] #[27]))) (ty := 28) (dst := some 74) 4 [2, 3, 0, 1] [] 24 #[Value.agg #[Value.int .i64 v73.Number, Value.slice v73.Writes.ptr v73.Writes.len v73.Writes.cap]] (by kernel_rfl) (by kernel_rfl) (by kernel_rfl) (by kernel_rfl) (by kernel_rfl) (fun ww => by kernel_rfl) (Calls.mono h ?_)
              rintro _ w11 ⟨v74, rfl, h⟩
              refine ⟨_, rfl, trivial, ?_⟩
              refine mreg_run [.plain] 6 [(1, [], Value.pointer (some ⟨b_, 0, none⟩)), (3, [], Value.pointer l_), (5, [], Value.int .i64 at_), (6, [], Value.int .i64 i), (7, [], Value.pointer (some ⟨b_1, 0, none⟩)), (75, [], Value.bool (v72 != v74))] (by kernel_rfl) (by kernel_rfl) ?_
              refine mreg_end [(1, Value.pointer (some ⟨b_, 0, none⟩)), (3, Value.pointer l_), (5, Value.int .i64 at_), (6, Value.int .i64 i), (7, Value.pointer (some ⟨b_1, 0, none⟩)), (75, Value.bool (v72 != v74))] (by kernel_rfl) (by kernel_rfl) (by kernel_rfl) ?_
              change WpE _ _ c_towpathlaw14_LaneTrips_51 _ _ _
              refine wpE_cond (o := (Operand.tmp 75)) (b := (v72 != v74)) (x := c_towpathlaw14_LaneTrips_52) (y := c_towpathlaw14_LaneTrips_56) (by kernel_rfl) (by kernel_rfl) (fun hb => ?_) (fun hb => ?_)
              · replace h := h.1 hb
                refine wpE_seq (x := c_towpathlaw14_LaneTrips_53) (y := c_towpathlaw14_LaneTrips_55) (by kernel_rfl) ?_
                refine wpE_region (id := 12) (ops := r_towpathlaw14_LaneTrips_53) (by kernel_rfl) ?_
                refine reg_run [.plain] 1 [(2, [], Value.bool false)] (by kernel_rfl) (by kernel_rfl) ?_
                refine reg_end [(2, Value.bool false)] (by kernel_rfl) (by kernel_rfl) ?_
                change WpE _ _ c_towpathlaw14_LaneTrips_55 _ _ _
                refine wpE_ret (by kernel_rfl) ?_
                repeat (first | refine seqQ_ret ?_ | refine blockQ_ret ?_ | refine loopQ_ret ?_ | refine cutQ_ret ?_)
                exact retS (rs := [(Go.ResultVar.tmp 2)]) (v := Value.bool false) (by kernel_rfl) (⟨by kernel_rfl, trivial⟩) ⟨false, rfl, h⟩
              · replace h := h.2 hb
                refine wpE_skip (by kernel_rfl) ?_
                change WpE _ _ c_towpathlaw14_LaneTrips_57 _ _ _
                refine wpE_seq (x := c_towpathlaw14_LaneTrips_58) (y := c_towpathlaw14_LaneTrips_74) (by kernel_rfl) ?_
                refine wpE_seq (x := c_towpathlaw14_LaneTrips_59) (y := c_towpathlaw14_LaneTrips_61) (by kernel_rfl) ?_
                refine wpE_region (id := 13) (ops := r_towpathlaw14_LaneTrips_59) (by kernel_rfl) ?_
                refine reg_run [] 0 [(1, [], Value.pointer (some ⟨b_, 0, none⟩)), (3, [], Value.pointer l_), (5, [], Value.int .i64 at_), (6, [], Value.int .i64 i), (7, [], Value.pointer (some ⟨b_1, 0, none⟩))] (by kernel_rfl) (by kernel_rfl) ?_
                obtain ⟨v76, hc, h⟩ := h
                refine reg_loadN (t := 27) (a := (Go.Operand.tmp 7)) (b := b_1) (o := 0) (ty := 27) (dst := some 76) [Value.int .i64 v76.Number, Value.slice v76.Writes.ptr v76.Writes.len v76.Writes.cap] (by kernel_rfl) (by kernel_rfl) (by kernel_rfl) (k := 2) (by kernel_rfl) (by kernel_rfl) hc ?_
                refine reg_run [] 1 [(1, [], Value.pointer (some ⟨b_, 0, none⟩)), (3, [], Value.pointer l_), (5, [], Value.int .i64 at_), (6, [], Value.int .i64 i), (7, [], Value.pointer (some ⟨b_1, 0, none⟩)), (76, [], Value.agg #[Value.int .i64 v76.Number, Value.slice v76.Writes.ptr v76.Writes.len v76.Writes.cap])] (by kernel_rfl) (by kernel_rfl) ?_
                refine reg_enter (op := (Go.Op.call (Go.Call.mk (Go.Callee.value (Go.Operand.func 24)) #[(Go.Operand.tmp 76)] #[27]))) (ty := 28) (dst := some 77) 24 #[Value.agg #[Value.int .i64 v76.Number, Value.slice v76.Writes.ptr v76.Writes.len v76.Writes.cap]] (by kernel_rfl) (fun ww => by kernel_rfl) (Calls.mono h ?_)
                rintro _ w12 ⟨v77, rfl, h⟩
                refine ⟨_, rfl, ?_⟩
                refine reg_run [.plain] 3 [(1, [], Value.pointer (some ⟨b_, 0, none⟩)), (3, [], Value.pointer l_), (5, [], Value.int .i64 at_), (6, [], Value.int .i64 i), (7, [], Value.pointer (some ⟨b_1, 0, none⟩)), (78, [], Value.bool (v77 != 0))] (by kernel_rfl) (by kernel_rfl) ?_
                refine reg_end [(1, Value.pointer (some ⟨b_, 0, none⟩)), (3, Value.pointer l_), (5, Value.int .i64 at_), (6, Value.int .i64 i), (7, Value.pointer (some ⟨b_1, 0, none⟩)), (78, Value.bool (v77 != 0))] (by kernel_rfl) (by kernel_rfl) ?_
                change WpE _ _ c_towpathlaw14_LaneTrips_61 _ _ _
                refine wpE_cond (o := (Operand.tmp 78)) (b := (v77 != 0)) (x := c_towpathlaw14_LaneTrips_62) (y := c_towpathlaw14_LaneTrips_73) (by kernel_rfl) (by kernel_rfl) (fun hb => ?_) (fun hb => ?_)
                · replace h := h.1 hb
                  refine wpE_seq (x := c_towpathlaw14_LaneTrips_63) (y := c_towpathlaw14_LaneTrips_72) (by kernel_rfl) ?_
                  refine wpE_seq (x := c_towpathlaw14_LaneTrips_64) (y := c_towpathlaw14_LaneTrips_66) (by kernel_rfl) ?_
                  refine wpE_region (id := 14) (ops := r_towpathlaw14_LaneTrips_64) (by kernel_rfl) ?_
                  refine reg_run [.plain] 1 [(1, [], Value.pointer (some ⟨b_, 0, none⟩)), (3, [], Value.pointer l_), (5, [], Value.int .i64 at_), (6, [], Value.int .i64 i), (79, [], Value.pointer l_)] (by kernel_rfl) (by kernel_rfl) ?_
                  refine reg_enter (op := (Go.Op.call (Go.Call.mk (Go.Callee.value (Go.Operand.func 25)) #[(Go.Operand.tmp 79)] #[38]))) (ty := 3) (dst := some 80) 25 #[Value.pointer l_] (by kernel_rfl) (fun ww => by kernel_rfl) (Calls.mono h ?_)
                  rintro _ w13 ⟨v80, rfl, h⟩
                  refine ⟨_, rfl, ?_⟩
                  refine reg_run [.plain] 3 [(1, [], Value.pointer (some ⟨b_, 0, none⟩)), (3, [], Value.pointer l_), (5, [], Value.int .i64 at_), (6, [], Value.int .i64 i), (81, [], Value.bool (v80 != 0))] (by kernel_rfl) (by kernel_rfl) ?_
                  refine reg_end [(1, Value.pointer (some ⟨b_, 0, none⟩)), (3, Value.pointer l_), (5, Value.int .i64 at_), (6, Value.int .i64 i), (81, Value.bool (v80 != 0))] (by kernel_rfl) (by kernel_rfl) ?_
                  change WpE _ _ c_towpathlaw14_LaneTrips_66 _ _ _
                  refine wpE_cond (o := (Operand.tmp 81)) (b := (v80 != 0)) (x := c_towpathlaw14_LaneTrips_67) (y := c_towpathlaw14_LaneTrips_71) (by kernel_rfl) (by kernel_rfl) (fun hb => ?_) (fun hb => ?_)
                  · replace h := h.1 hb
                    refine wpE_seq (x := c_towpathlaw14_LaneTrips_68) (y := c_towpathlaw14_LaneTrips_70) (by kernel_rfl) ?_
                    refine wpE_region (id := 15) (ops := r_towpathlaw14_LaneTrips_68) (by kernel_rfl) ?_
                    refine reg_run [.plain] 1 [(2, [], Value.bool false)] (by kernel_rfl) (by kernel_rfl) ?_
                    refine reg_end [(2, Value.bool false)] (by kernel_rfl) (by kernel_rfl) ?_
                    change WpE _ _ c_towpathlaw14_LaneTrips_70 _ _ _
                    refine wpE_ret (by kernel_rfl) ?_
                    repeat (first | refine seqQ_ret ?_ | refine blockQ_ret ?_ | refine loopQ_ret ?_ | refine cutQ_ret ?_)
                    exact retS (rs := [(Go.ResultVar.tmp 2)]) (v := Value.bool false) (by kernel_rfl) (⟨by kernel_rfl, trivial⟩) ⟨false, rfl, h⟩
                  · replace h := h.2 hb
                    refine wpE_skip (by kernel_rfl) ?_
                    change WpE _ _ c_towpathlaw14_LaneTrips_72 _ _ _
                    refine wpE_exit (id := 1) (by kernel_rfl) ?_
                    exact ⟨[(1, Value.pointer (some ⟨b_, 0, none⟩)), (3, Value.pointer l_), (5, Value.int .i64 at_), (6, Value.int .i64 i)], Sub.mk (by kernel_rfl), at_, rfl, h⟩
                · replace h := h.2 hb
                  refine wpE_skip (by kernel_rfl) ?_
                  change WpE _ _ c_towpathlaw14_LaneTrips_74 _ _ _
                  refine wpE_seq (x := c_towpathlaw14_LaneTrips_75) (y := c_towpathlaw14_LaneTrips_77) (by kernel_rfl) ?_
                  refine wpE_region (id := 16) (ops := r_towpathlaw14_LaneTrips_75) (by kernel_rfl) ?_
                  refine reg_run [.plain] 1 [(1, [], Value.pointer (some ⟨b_, 0, none⟩)), (3, [], Value.pointer l_), (5, [], Value.int .i64 at_), (6, [], Value.int .i64 i), (7, [], Value.pointer (some ⟨b_1, 0, none⟩)), (8, [], Value.int .i64 0)] (by kernel_rfl) (by kernel_rfl) ?_
                  refine reg_end [(1, Value.pointer (some ⟨b_, 0, none⟩)), (3, Value.pointer l_), (5, Value.int .i64 at_), (6, Value.int .i64 i), (7, Value.pointer (some ⟨b_1, 0, none⟩)), (8, Value.int .i64 0)] (by kernel_rfl) (by kernel_rfl) ?_
                  change WpE _ _ c_towpathlaw14_LaneTrips_77 _ _ _
                  refine wpE_seq (x := c_towpathlaw14_LaneTrips_78) (y := c_towpathlaw14_LaneTrips_170) (by kernel_rfl) ?_
                  refine wpE_seq (x := c_towpathlaw14_LaneTrips_79) (y := c_towpathlaw14_LaneTrips_81) (by kernel_rfl) ?_
                  refine wpE_region (id := 17) (ops := r_towpathlaw14_LaneTrips_79) (by kernel_rfl) ?_
                  refine reg_run [.plain] 1 [(1, [], Value.pointer (some ⟨b_, 0, none⟩)), (3, [], Value.pointer l_), (5, [], Value.int .i64 at_), (6, [], Value.int .i64 i), (7, [], Value.pointer (some ⟨b_1, 0, none⟩)), (8, [], Value.int .i64 0), (9, [], Value.int .i64 0)] (by kernel_rfl) (by kernel_rfl) ?_
                  refine reg_end [(1, Value.pointer (some ⟨b_, 0, none⟩)), (3, Value.pointer l_), (5, Value.int .i64 at_), (6, Value.int .i64 i), (7, Value.pointer (some ⟨b_1, 0, none⟩)), (8, Value.int .i64 0), (9, Value.int .i64 0)] (by kernel_rfl) (by kernel_rfl) ?_
                  change WpE _ _ c_towpathlaw14_LaneTrips_81 _ _ _
                  refine wpE_block (id := 2) (x := c_towpathlaw14_LaneTrips_82) (by kernel_rfl) ?_
                  obtain ⟨I, μ, h0, hr⟩ := h
                  refine wpE_loop (x := c_towpathlaw14_LaneTrips_83) (by kernel_rfl) (fun m l w => ∃ (at_2 : Int) (out : Int) (k : Int), l = [(1, Value.pointer (some ⟨b_, 0, none⟩)), (3, Value.pointer l_), (5, Value.int .i64 at_2), (6, Value.int .i64 i), (7, Value.pointer (some ⟨b_1, 0, none⟩)), (8, Value.int .i64 out), (9, Value.int .i64 k)] ∧ I at_2 out k w ∧ μ at_2 out k w = m) (l' := [(1, Value.pointer (some ⟨b_, 0, none⟩)), (3, Value.pointer l_), (5, Value.int .i64 at_), (6, Value.int .i64 i), (7, Value.pointer (some ⟨b_1, 0, none⟩)), (8, Value.int .i64 0), (9, Value.int .i64 0)]) (Sub.mk (by kernel_rfl)) ⟨at_, 0, 0, rfl, h0, rfl⟩ ?_
                  rintro _ _ w14 ⟨at_2, out, k, rfl, hI, rfl⟩
                  obtain ⟨again_1, again_1_h, h⟩ : ∃ again_1 : Int → Int → Int → World → Prop, (∀ at_2' out' k' w', again_1 at_2' out' k' w' → I at_2' out' k' w' ∧ μ at_2' out' k' w' < μ at_2 out k w14) ∧ F_towpathlaw14_LaneTrips_L3 R b_ l_ i again_ b_1 again_1 at_2 out k w14 := ⟨_, fun _ _ _ _ h => h, hr at_2 out k w14 hI⟩
                  clear h0 hI
                  unfold F_towpathlaw14_LaneTrips_L3 at h
                  refine wpE_seq (x := c_towpathlaw14_LaneTrips_84) (y := c_towpathlaw14_LaneTrips_90) (by kernel_rfl) ?_
                  refine wpE_seq (x := c_towpathlaw14_LaneTrips_85) (y := c_towpathlaw14_LaneTrips_87) (by kernel_rfl) ?_
                  refine wpE_region (id := 18) (ops := r_towpathlaw14_LaneTrips_85) (by kernel_rfl) ?_
                  refine reg_run [.plain, .plain] 2 [(1, [], Value.pointer (some ⟨b_, 0, none⟩)), (3, [], Value.pointer l_), (5, [], Value.int .i64 at_2), (6, [], Value.int .i64 i), (7, [], Value.pointer (some ⟨b_1, 0, none⟩)), (8, [], Value.int .i64 out), (9, [], Value.int .i64 k), (82, [], Value.int .i64 k), (83, [], Value.pointer (some ⟨b_1, 1, none⟩))] (by kernel_rfl) (by kernel_rfl) ?_
                  obtain ⟨v84, hc, h⟩ := h
                  refine reg_load1 (t := 25) (a := (Go.Operand.tmp 83)) (b := b_1) (o := 1) (ty := 25) (dst := some 84) (by kernel_rfl) (by kernel_rfl) (by kernel_rfl) hc ?_
                  refine reg_run [.plain, .plain] 5 [(1, [], Value.pointer (some ⟨b_, 0, none⟩)), (3, [], Value.pointer l_), (5, [], Value.int .i64 at_2), (6, [], Value.int .i64 i), (7, [], Value.pointer (some ⟨b_1, 0, none⟩)), (8, [], Value.int .i64 out), (9, [], Value.int .i64 k), (86, [], Value.bool (decide (k < ((v84.len : Nat) : Int))))] (by kernel_rfl) (by kernel_rfl) ?_
                  refine reg_end [(1, Value.pointer (some ⟨b_, 0, none⟩)), (3, Value.pointer l_), (5, Value.int .i64 at_2), (6, Value.int .i64 i), (7, Value.pointer (some ⟨b_1, 0, none⟩)), (8, Value.int .i64 out), (9, Value.int .i64 k), (86, Value.bool (decide (k < ((v84.len : Nat) : Int))))] (by kernel_rfl) (by kernel_rfl) ?_
                  change WpE _ _ c_towpathlaw14_LaneTrips_87 _ _ _
                  refine wpE_cond (o := (Operand.tmp 86)) (b := (decide (k < ((v84.len : Nat) : Int)))) (x := c_towpathlaw14_LaneTrips_88) (y := c_towpathlaw14_LaneTrips_89) (by kernel_rfl) (by kernel_rfl) (fun hb => ?_) (fun hb => ?_)
                  · replace h := h.1 hb
                    refine wpE_skip (by kernel_rfl) ?_
                    change WpE _ _ c_towpathlaw14_LaneTrips_90 _ _ _
                    refine wpE_seq_cut (x := c_towpathlaw14_LaneTrips_91) (y := c_towpathlaw14_LaneTrips_168) (by kernel_rfl) (fun l w => ∃ (at_3 : Int) (out1 : Int), l = [(1, Value.pointer (some ⟨b_, 0, none⟩)), (3, Value.pointer l_), (5, Value.int .i64 at_3), (6, Value.int .i64 i), (7, Value.pointer (some ⟨b_1, 0, none⟩)), (8, Value.int .i64 out1), (9, Value.int .i64 k)] ∧ F_towpathlaw14_LaneTrips_k4 k again_1 at_3 out1 w) ?_ ?_
                    · refine wpE_block (id := 3) (x := c_towpathlaw14_LaneTrips_92) (by kernel_rfl) ?_
                      refine wpE_seq (x := c_towpathlaw14_LaneTrips_93) (y := c_towpathlaw14_LaneTrips_95) (by kernel_rfl) ?_
                      refine wpE_region (id := 20) (ops := r_towpathlaw14_LaneTrips_93) (by kernel_rfl) ?_
                      refine reg_run [.plain] 1 [(1, [], Value.pointer (some ⟨b_, 0, none⟩)), (3, [], Value.pointer l_), (5, [], Value.int .i64 at_2), (6, [], Value.int .i64 i), (7, [], Value.pointer (some ⟨b_1, 0, none⟩)), (8, [], Value.int .i64 out), (9, [], Value.int .i64 k), (10, [], Value.bool false)] (by kernel_rfl) (by kernel_rfl) ?_
                      refine reg_end [(1, Value.pointer (some ⟨b_, 0, none⟩)), (3, Value.pointer l_), (5, Value.int .i64 at_2), (6, Value.int .i64 i), (7, Value.pointer (some ⟨b_1, 0, none⟩)), (8, Value.int .i64 out), (9, Value.int .i64 k), (10, Value.bool false)] (by kernel_rfl) (by kernel_rfl) ?_
                      change WpE _ _ c_towpathlaw14_LaneTrips_95 _ _ _
                      refine wpE_seq (x := c_towpathlaw14_LaneTrips_96) (y := c_towpathlaw14_LaneTrips_114) (by kernel_rfl) ?_
                      refine wpE_seq (x := c_towpathlaw14_LaneTrips_97) (y := c_towpathlaw14_LaneTrips_99) (by kernel_rfl) ?_
                      refine wpE_region (id := 21) (ops := r_towpathlaw14_LaneTrips_97) (by kernel_rfl) ?_
                      refine reg_run [.plain, .plain, .plain] 3 [(1, [], Value.pointer (some ⟨b_, 0, none⟩)), (3, [], Value.pointer l_), (5, [], Value.int .i64 at_2), (6, [], Value.int .i64 i), (7, [], Value.pointer (some ⟨b_1, 0, none⟩)), (8, [], Value.int .i64 out), (9, [], Value.int .i64 k), (10, [], Value.bool false), (11, [], Value.int .i64 (IntKind.i64.wrap (k + 1)))] (by kernel_rfl) (by kernel_rfl) ?_
                      refine reg_end [(1, Value.pointer (some ⟨b_, 0, none⟩)), (3, Value.pointer l_), (5, Value.int .i64 at_2), (6, Value.int .i64 i), (7, Value.pointer (some ⟨b_1, 0, none⟩)), (8, Value.int .i64 out), (9, Value.int .i64 k), (10, Value.bool false), (11, Value.int .i64 (IntKind.i64.wrap (k + 1)))] (by kernel_rfl) (by kernel_rfl) ?_
                      change WpE _ _ c_towpathlaw14_LaneTrips_99 _ _ _
                      refine wpE_block (id := 4) (x := c_towpathlaw14_LaneTrips_100) (by kernel_rfl) ?_
                      obtain ⟨I, μ, h0, hr⟩ := h
                      refine wpE_loop (x := c_towpathlaw14_LaneTrips_101) (by kernel_rfl) (fun m l w => ∃ (later : Bool) (m_ : Int), l = [(1, Value.pointer (some ⟨b_, 0, none⟩)), (3, Value.pointer l_), (5, Value.int .i64 at_2), (6, Value.int .i64 i), (7, Value.pointer (some ⟨b_1, 0, none⟩)), (8, Value.int .i64 out), (9, Value.int .i64 k), (10, Value.bool later), (11, Value.int .i64 m_)] ∧ I later m_ w ∧ μ later m_ w = m) (l' := [(1, Value.pointer (some ⟨b_, 0, none⟩)), (3, Value.pointer l_), (5, Value.int .i64 at_2), (6, Value.int .i64 i), (7, Value.pointer (some ⟨b_1, 0, none⟩)), (8, Value.int .i64 out), (9, Value.int .i64 k), (10, Value.bool false), (11, Value.int .i64 (IntKind.i64.wrap (k + 1)))]) (Sub.mk (by kernel_rfl)) ⟨false, (IntKind.i64.wrap (k + 1)), rfl, h0, rfl⟩ ?_
                      rintro _ _ w16 ⟨later, m_, rfl, hI, rfl⟩
                      obtain ⟨again_2, again_2_h, h⟩ : ∃ again_2 : Bool → Int → World → Prop, (∀ later' m_' w', again_2 later' m_' w' → I later' m_' w' ∧ μ later' m_' w' < μ later m_ w16) ∧ F_towpathlaw14_LaneTrips_L5 R b_ l_ b_1 at_2 out k again_1 again_2 later m_ w16 := ⟨_, fun _ _ _ h => h, hr later m_ w16 hI⟩
                      clear h0 hI
                      unfold F_towpathlaw14_LaneTrips_L5 at h
                      refine wpE_seq (x := c_towpathlaw14_LaneTrips_102) (y := c_towpathlaw14_LaneTrips_108) (by kernel_rfl) ?_
                      refine wpE_seq (x := c_towpathlaw14_LaneTrips_103) (y := c_towpathlaw14_LaneTrips_105) (by kernel_rfl) ?_
                      refine wpE_region (id := 22) (ops := r_towpathlaw14_LaneTrips_103) (by kernel_rfl) ?_
                      refine reg_run [.plain, .plain] 2 [(1, [], Value.pointer (some ⟨b_, 0, none⟩)), (3, [], Value.pointer l_), (5, [], Value.int .i64 at_2), (6, [], Value.int .i64 i), (7, [], Value.pointer (some ⟨b_1, 0, none⟩)), (8, [], Value.int .i64 out), (9, [], Value.int .i64 k), (10, [], Value.bool later), (11, [], Value.int .i64 m_), (91, [], Value.int .i64 m_), (92, [], Value.pointer (some ⟨b_1, 1, none⟩))] (by kernel_rfl) (by kernel_rfl) ?_
                      obtain ⟨v93, hc, h⟩ := h
                      refine reg_load1 (t := 25) (a := (Go.Operand.tmp 92)) (b := b_1) (o := 1) (ty := 25) (dst := some 93) (by kernel_rfl) (by kernel_rfl) (by kernel_rfl) hc ?_
                      refine reg_run [.plain, .plain] 5 [(1, [], Value.pointer (some ⟨b_, 0, none⟩)), (3, [], Value.pointer l_), (5, [], Value.int .i64 at_2), (6, [], Value.int .i64 i), (7, [], Value.pointer (some ⟨b_1, 0, none⟩)), (8, [], Value.int .i64 out), (9, [], Value.int .i64 k), (10, [], Value.bool later), (11, [], Value.int .i64 m_), (95, [], Value.bool (decide (m_ < ((v93.len : Nat) : Int))))] (by kernel_rfl) (by kernel_rfl) ?_
                      refine reg_end [(1, Value.pointer (some ⟨b_, 0, none⟩)), (3, Value.pointer l_), (5, Value.int .i64 at_2), (6, Value.int .i64 i), (7, Value.pointer (some ⟨b_1, 0, none⟩)), (8, Value.int .i64 out), (9, Value.int .i64 k), (10, Value.bool later), (11, Value.int .i64 m_), (95, Value.bool (decide (m_ < ((v93.len : Nat) : Int))))] (by kernel_rfl) (by kernel_rfl) ?_
                      change WpE _ _ c_towpathlaw14_LaneTrips_105 _ _ _
                      refine wpE_cond (o := (Operand.tmp 95)) (b := (decide (m_ < ((v93.len : Nat) : Int)))) (x := c_towpathlaw14_LaneTrips_106) (y := c_towpathlaw14_LaneTrips_107) (by kernel_rfl) (by kernel_rfl) (fun hb => ?_) (fun hb => ?_)
                      · replace h := h.1 hb
                        refine wpE_skip (by kernel_rfl) ?_
                        change WpE _ _ c_towpathlaw14_LaneTrips_108 _ _ _
                        refine wpE_seq_cut (x := c_towpathlaw14_LaneTrips_109) (y := c_towpathlaw14_LaneTrips_112) (by kernel_rfl) (fun l w => ∃ (later1 : Bool), l = [(1, Value.pointer (some ⟨b_, 0, none⟩)), (3, Value.pointer l_), (5, Value.int .i64 at_2), (6, Value.int .i64 i), (7, Value.pointer (some ⟨b_1, 0, none⟩)), (8, Value.int .i64 out), (9, Value.int .i64 k), (10, Value.bool later1), (11, Value.int .i64 m_)] ∧ F_towpathlaw14_LaneTrips_k6 m_ again_2 later1 w) ?_ ?_
                        · refine wpE_block (id := 5) (x := c_towpathlaw14_LaneTrips_110) (by kernel_rfl) ?_
                          refine wpE_drawregion (id := 24) (ops := r_towpathlaw14_LaneTrips_110) (by kernel_rfl) (by kernel_rfl) (by kernel_rfl) ?_
                          refine qreg_run [.plain, .plain, .plain] 3 [(1, [], Value.pointer (some ⟨b_, 0, none⟩)), (3, [], Value.pointer l_), (5, [], Value.int .i64 at_2), (6, [], Value.int .i64 i), (7, [], Value.pointer (some ⟨b_1, 0, none⟩)), (8, [], Value.int .i64 out), (9, [], Value.int .i64 k), (10, [], Value.bool later), (11, [], Value.int .i64 m_), (99, [], Value.bool later), (100, [(99, false)], Value.pointer (some ⟨b_1, 1, none⟩))] (by kernel_rfl) (by kernel_rfl) ?_
                          refine qreg_split 99 later (by kernel_rfl) (fun hb => ?_) (fun hb => ?_)
                          · replace h := h.1 hb
                            refine qreg_run [] 3 [(1, [], Value.pointer (some ⟨b_, 0, none⟩)), (3, [], Value.pointer l_), (5, [], Value.int .i64 at_2), (6, [], Value.int .i64 i), (7, [], Value.pointer (some ⟨b_1, 0, none⟩)), (8, [], Value.int .i64 out), (9, [], Value.int .i64 k), (10, [], Value.bool later), (11, [], Value.int .i64 m_), (99, [], Value.bool true), (100, [], undef)] (by kernel_rfl) (by kernel_rfl) ?_
                            refine qreg_run [.skip, .skip, .skip, .skip, .skip, .skip, .skip, .skip, .skip, .skip, .skip, .skip, .plain, .plain] 17 [(1, [], Value.pointer (some ⟨b_, 0, none⟩)), (3, [], Value.pointer l_), (5, [], Value.int .i64 at_2), (6, [], Value.int .i64 i), (7, [], Value.pointer (some ⟨b_1, 0, none⟩)), (8, [], Value.int .i64 out), (9, [], Value.int .i64 k), (10, [], Value.bool true), (11, [], Value.int .i64 m_)] (by kernel_rfl) (by kernel_rfl) ?_
                            refine qreg_end [(1, Value.pointer (some ⟨b_, 0, none⟩)), (3, Value.pointer l_), (5, Value.int .i64 at_2), (6, Value.int .i64 i), (7, Value.pointer (some ⟨b_1, 0, none⟩)), (8, Value.int .i64 out), (9, Value.int .i64 k), (10, Value.bool true), (11, Value.int .i64 m_)] (by kernel_rfl) (by kernel_rfl) (fun w18 hw => ?_)
                            replace h := h w18 hw
                            clear hw
                            exact ⟨[(1, Value.pointer (some ⟨b_, 0, none⟩)), (3, Value.pointer l_), (5, Value.int .i64 at_2), (6, Value.int .i64 i), (7, Value.pointer (some ⟨b_1, 0, none⟩)), (8, Value.int .i64 out), (9, Value.int .i64 k), (10, Value.bool true), (11, Value.int .i64 m_)], Sub.mk (by kernel_rfl), true, rfl, h⟩
                          · replace h := h.2 hb
                            refine qreg_run [] 3 [(1, [], Value.pointer (some ⟨b_, 0, none⟩)), (3, [], Value.pointer l_), (5, [], Value.int .i64 at_2), (6, [], Value.int .i64 i), (7, [], Value.pointer (some ⟨b_1, 0, none⟩)), (8, [], Value.int .i64 out), (9, [], Value.int .i64 k), (10, [], Value.bool later), (11, [], Value.int .i64 m_), (99, [], Value.bool false), (100, [], Value.pointer (some ⟨b_1, 1, none⟩))] (by kernel_rfl) (by kernel_rfl) ?_
                            refine qreg_run [] 3 [(1, [], Value.pointer (some ⟨b_, 0, none⟩)), (3, [], Value.pointer l_), (5, [], Value.int .i64 at_2), (6, [], Value.int .i64 i), (7, [], Value.pointer (some ⟨b_1, 0, none⟩)), (8, [], Value.int .i64 out), (9, [], Value.int .i64 k), (10, [], Value.bool later), (11, [], Value.int .i64 m_), (99, [], Value.bool false), (100, [], Value.pointer (some ⟨b_1, 1, none⟩))] (by kernel_rfl) (by kernel_rfl) ?_
                            obtain ⟨v101, hc, h⟩ := h
                            refine qreg_load1 (t := 25) (a := (Go.Operand.tmp 100)) (b := b_1) (o := 1) (ty := 25) (dst := some 101) (by kernel_rfl) (by kernel_rfl) (by kernel_rfl) hc ?_
                            refine qreg_run [.sure] 5 [(1, [], Value.pointer (some ⟨b_, 0, none⟩)), (3, [], Value.pointer l_), (5, [], Value.int .i64 at_2), (6, [], Value.int .i64 i), (7, [], Value.pointer (some ⟨b_1, 0, none⟩)), (8, [], Value.int .i64 out), (9, [], Value.int .i64 k), (10, [], Value.bool later), (11, [], Value.int .i64 m_), (99, [], Value.bool false), (101, [], Value.slice v101.ptr v101.len v101.cap), (102, [], Value.int .i64 m_)] (by kernel_rfl) (by kernel_rfl) ?_
                            obtain ⟨hp_344, h⟩ := h
                            refine qreg_conv [(1, [], Value.pointer (some ⟨b_, 0, none⟩)), (3, [], Value.pointer l_), (5, [], Value.int .i64 at_2), (6, [], Value.int .i64 i), (7, [], Value.pointer (some ⟨b_1, 0, none⟩)), (8, [], Value.int .i64 out), (9, [], Value.int .i64 k), (10, [], Value.bool later), (11, [], Value.int .i64 m_), (99, [], Value.bool false), (101, [], Value.slice (some ⟨(pblk v101.ptr), (poff v101.ptr), none⟩) v101.len v101.cap), (102, [], Value.int .i64 m_)] (congrArg (fun pp => ([(1, [], Value.pointer (some ⟨b_, 0, none⟩)), (3, [], Value.pointer l_), (5, [], Value.int .i64 at_2), (6, [], Value.int .i64 i), (7, [], Value.pointer (some ⟨b_1, 0, none⟩)), (8, [], Value.int .i64 out), (9, [], Value.int .i64 k), (10, [], Value.bool later), (11, [], Value.int .i64 m_), (99, [], Value.bool false), (101, [], Value.slice pp v101.len v101.cap), (102, [], Value.int .i64 m_)] : GEnv)) hp_344) ?_
                            obtain ⟨h0, h1, h⟩ := h
                            refine qreg_indexS (t := 25) (e := 61) (x := (Go.Operand.tmp 101)) (ix := (Go.Operand.tmp 102)) (b := (pblk v101.ptr)) (o := (poff v101.ptr)) (l := v101.len) (c := v101.cap) (k := .i64) (j := m_) (ty := 0) (dst := some 103) (sz := 3) (by kernel_rfl) (by kernel_rfl) (by kernel_rfl) (by kernel_rfl) (by kernel_rfl) h0 h1 ?_
                            refine qreg_run [.sure] 7 [(1, [], Value.pointer (some ⟨b_, 0, none⟩)), (3, [], Value.pointer l_), (5, [], Value.int .i64 at_2), (6, [], Value.int .i64 i), (7, [], Value.pointer (some ⟨b_1, 0, none⟩)), (8, [], Value.int .i64 out), (9, [], Value.int .i64 k), (10, [], Value.bool later), (11, [], Value.int .i64 m_), (99, [], Value.bool false), (104, [], Value.pointer (some ⟨(pblk v101.ptr), (poff v101.ptr) + m_.toNat * 3, none⟩))] (by kernel_rfl) (by kernel_rfl) ?_
                            obtain ⟨v105, hc, h⟩ := h
                            refine qreg_load1 (t := 9) (a := (Go.Operand.tmp 104)) (b := (pblk v101.ptr)) (o := ((poff v101.ptr) + m_.toNat * 3)) (ty := 9) (dst := some 105) (by kernel_rfl) (by kernel_rfl) (by kernel_rfl) hc ?_
                            refine qreg_run [.sure] 9 [(1, [], Value.pointer (some ⟨b_, 0, none⟩)), (3, [], Value.pointer l_), (5, [], Value.int .i64 at_2), (6, [], Value.int .i64 i), (7, [], Value.pointer (some ⟨b_1, 0, none⟩)), (8, [], Value.int .i64 out), (9, [], Value.int .i64 k), (10, [], Value.bool later), (11, [], Value.int .i64 m_), (99, [], Value.bool false), (105, [], Value.string v105), (106, [], Value.pointer (some ⟨b_1, 1, none⟩))] (by kernel_rfl) (by kernel_rfl) ?_
                            obtain ⟨v107, hc, h⟩ := h
                            refine qreg_load1 (t := 25) (a := (Go.Operand.tmp 106)) (b := b_1) (o := 1) (ty := 25) (dst := some 107) (by kernel_rfl) (by kernel_rfl) (by kernel_rfl) hc ?_
                            refine qreg_run [.sure] 11 [(1, [], Value.pointer (some ⟨b_, 0, none⟩)), (3, [], Value.pointer l_), (5, [], Value.int .i64 at_2), (6, [], Value.int .i64 i), (7, [], Value.pointer (some ⟨b_1, 0, none⟩)), (8, [], Value.int .i64 out), (9, [], Value.int .i64 k), (10, [], Value.bool later), (11, [], Value.int .i64 m_), (99, [], Value.bool false), (105, [], Value.string v105), (107, [], Value.slice v107.ptr v107.len v107.cap), (108, [], Value.int .i64 k)] (by kernel_rfl) (by kernel_rfl) ?_
                            obtain ⟨hp_345, h⟩ := h
                            refine qreg_conv [(1, [], Value.pointer (some ⟨b_, 0, none⟩)), (3, [], Value.pointer l_), (5, [], Value.int .i64 at_2), (6, [], Value.int .i64 i), (7, [], Value.pointer (some ⟨b_1, 0, none⟩)), (8, [], Value.int .i64 out), (9, [], Value.int .i64 k), (10, [], Value.bool later), (11, [], Value.int .i64 m_), (99, [], Value.bool false), (105, [], Value.string v105), (107, [], Value.slice (some ⟨(pblk v107.ptr), (poff v107.ptr), none⟩) v107.len v107.cap), (108, [], Value.int .i64 k)] (congrArg (fun pp => ([(1, [], Value.pointer (some ⟨b_, 0, none⟩)), (3, [], Value.pointer l_), (5, [], Value.int .i64 at_2), (6, [], Value.int .i64 i), (7, [], Value.pointer (some ⟨b_1, 0, none⟩)), (8, [], Value.int .i64 out), (9, [], Value.int .i64 k), (10, [], Value.bool later), (11, [], Value.int .i64 m_), (99, [], Value.bool false), (105, [], Value.string v105), (107, [], Value.slice pp v107.len v107.cap), (108, [], Value.int .i64 k)] : GEnv)) hp_345) ?_
                            obtain ⟨h0, h1, h⟩ := h
                            refine qreg_indexS (t := 25) (e := 61) (x := (Go.Operand.tmp 107)) (ix := (Go.Operand.tmp 108)) (b := (pblk v107.ptr)) (o := (poff v107.ptr)) (l := v107.len) (c := v107.cap) (k := .i64) (j := k) (ty := 0) (dst := some 109) (sz := 3) (by kernel_rfl) (by kernel_rfl) (by kernel_rfl) (by kernel_rfl) (by kernel_rfl) h0 h1 ?_
                            refine qreg_run [.sure] 13 [(1, [], Value.pointer (some ⟨b_, 0, none⟩)), (3, [], Value.pointer l_), (5, [], Value.int .i64 at_2), (6, [], Value.int .i64 i), (7, [], Value.pointer (some ⟨b_1, 0, none⟩)), (8, [], Value.int .i64 out), (9, [], Value.int .i64 k), (10, [], Value.bool later), (11, [], Value.int .i64 m_), (99, [], Value.bool false), (105, [], Value.string v105), (110, [], Value.pointer (some ⟨(pblk v107.ptr), (poff v107.ptr) + k.toNat * 3, none⟩))] (by kernel_rfl) (by kernel_rfl) ?_
                            obtain ⟨v111, hc, h⟩ := h
                            refine qreg_load1 (t := 9) (a := (Go.Operand.tmp 110)) (b := (pblk v107.ptr)) (o := ((poff v107.ptr) + k.toNat * 3)) (ty := 9) (dst := some 111) (by kernel_rfl) (by kernel_rfl) (by kernel_rfl) hc ?_
                            refine qreg_run [.sure, .plain, .plain] 17 [(1, [], Value.pointer (some ⟨b_, 0, none⟩)), (3, [], Value.pointer l_), (5, [], Value.int .i64 at_2), (6, [], Value.int .i64 i), (7, [], Value.pointer (some ⟨b_1, 0, none⟩)), (8, [], Value.int .i64 out), (9, [], Value.int .i64 k), (10, [], Value.bool (v105.toList == v111.toList)), (11, [], Value.int .i64 m_)] (by kernel_rfl) (by kernel_rfl) ?_
                            refine qreg_end [(1, Value.pointer (some ⟨b_, 0, none⟩)), (3, Value.pointer l_), (5, Value.int .i64 at_2), (6, Value.int .i64 i), (7, Value.pointer (some ⟨b_1, 0, none⟩)), (8, Value.int .i64 out), (9, Value.int .i64 k), (10, Value.bool (v105.toList == v111.toList)), (11, Value.int .i64 m_)] (by kernel_rfl) (by kernel_rfl) (fun w19 hw => ?_)
                            replace h := h w19 hw
                            clear hw
                            exact ⟨[(1, Value.pointer (some ⟨b_, 0, none⟩)), (3, Value.pointer l_), (5, Value.int .i64 at_2), (6, Value.int .i64 i), (7, Value.pointer (some ⟨b_1, 0, none⟩)), (8, Value.int .i64 out), (9, Value.int .i64 k), (10, Value.bool (v105.toList == v111.toList)), (11, Value.int .i64 m_)], Sub.mk (by kernel_rfl), (v105.toList == v111.toList), rfl, h⟩
                        · rintro _ w17 ⟨later1, rfl, h⟩
                          unfold F_towpathlaw14_LaneTrips_k6 at h
                          refine wpE_region (id := 23) (ops := r_towpathlaw14_LaneTrips_112) (by kernel_rfl) ?_
                          refine reg_run [.plain, .plain, .plain] 3 [(1, [], Value.pointer (some ⟨b_, 0, none⟩)), (3, [], Value.pointer l_), (5, [], Value.int .i64 at_2), (6, [], Value.int .i64 i), (7, [], Value.pointer (some ⟨b_1, 0, none⟩)), (8, [], Value.int .i64 out), (9, [], Value.int .i64 k), (10, [], Value.bool later1), (11, [], Value.int .i64 (IntKind.i64.wrap (m_ + 1)))] (by kernel_rfl) (by kernel_rfl) ?_
                          refine reg_end [(1, Value.pointer (some ⟨b_, 0, none⟩)), (3, Value.pointer l_), (5, Value.int .i64 at_2), (6, Value.int .i64 i), (7, Value.pointer (some ⟨b_1, 0, none⟩)), (8, Value.int .i64 out), (9, Value.int .i64 k), (10, Value.bool later1), (11, Value.int .i64 (IntKind.i64.wrap (m_ + 1)))] (by kernel_rfl) (by kernel_rfl) ?_
                          have hb_ := again_2_h _ _ _ h
                          exact ⟨_, hb_.2, [(1, Value.pointer (some ⟨b_, 0, none⟩)), (3, Value.pointer l_), (5, Value.int .i64 at_2), (6, Value.int .i64 i), (7, Value.pointer (some ⟨b_1, 0, none⟩)), (8, Value.int .i64 out), (9, Value.int .i64 k), (10, Value.bool later1), (11, Value.int .i64 (IntKind.i64.wrap (m_ + 1)))], Sub.mk (by kernel_rfl), later1, (IntKind.i64.wrap (m_ + 1)), rfl, hb_.1, rfl⟩
                      · replace h := h.2 hb
                        refine wpE_exit (id := 4) (by kernel_rfl) ?_
                        change WpE _ _ c_towpathlaw14_LaneTrips_114 _ _ _
                        refine wpE_seq (x := c_towpathlaw14_LaneTrips_115) (y := c_towpathlaw14_LaneTrips_121) (by kernel_rfl) ?_
                        refine wpE_seq (x := c_towpathlaw14_LaneTrips_116) (y := c_towpathlaw14_LaneTrips_118) (by kernel_rfl) ?_
                        refine wpE_region (id := 25) (ops := r_towpathlaw14_LaneTrips_116) (by kernel_rfl) ?_
                        refine reg_run [.plain] 1 [(1, [], Value.pointer (some ⟨b_, 0, none⟩)), (3, [], Value.pointer l_), (5, [], Value.int .i64 at_2), (6, [], Value.int .i64 i), (7, [], Value.pointer (some ⟨b_1, 0, none⟩)), (8, [], Value.int .i64 out), (9, [], Value.int .i64 k), (114, [], Value.bool later)] (by kernel_rfl) (by kernel_rfl) ?_
                        refine reg_end [(1, Value.pointer (some ⟨b_, 0, none⟩)), (3, Value.pointer l_), (5, Value.int .i64 at_2), (6, Value.int .i64 i), (7, Value.pointer (some ⟨b_1, 0, none⟩)), (8, Value.int .i64 out), (9, Value.int .i64 k), (114, Value.bool later)] (by kernel_rfl) (by kernel_rfl) ?_
                        change WpE _ _ c_towpathlaw14_LaneTrips_118 _ _ _
                        refine wpE_cond (o := (Operand.tmp 114)) (b := later) (x := c_towpathlaw14_LaneTrips_119) (y := c_towpathlaw14_LaneTrips_120) (by kernel_rfl) (by kernel_rfl) (fun hb => ?_) (fun hb => ?_)
                        · replace h := h.1 hb
                          refine wpE_exit (id := 3) (by kernel_rfl) ?_
                          exact ⟨[(1, Value.pointer (some ⟨b_, 0, none⟩)), (3, Value.pointer l_), (5, Value.int .i64 at_2), (6, Value.int .i64 i), (7, Value.pointer (some ⟨b_1, 0, none⟩)), (8, Value.int .i64 out), (9, Value.int .i64 k)], Sub.mk (by kernel_rfl), at_2, out, rfl, h⟩
                        · replace h := h.2 hb
                          refine wpE_skip (by kernel_rfl) ?_
                          change WpE _ _ c_towpathlaw14_LaneTrips_121 _ _ _
                          refine wpE_seq (x := c_towpathlaw14_LaneTrips_122) (y := c_towpathlaw14_LaneTrips_124) (by kernel_rfl) ?_
                          refine wpE_region (id := 26) (ops := r_towpathlaw14_LaneTrips_122) (by kernel_rfl) ?_
                          refine reg_run [.plain] 1 [(1, [], Value.pointer (some ⟨b_, 0, none⟩)), (3, [], Value.pointer l_), (5, [], Value.int .i64 at_2), (6, [], Value.int .i64 i), (7, [], Value.pointer (some ⟨b_1, 0, none⟩)), (8, [], Value.int .i64 out), (9, [], Value.int .i64 k), (116, [], Value.pointer l_)] (by kernel_rfl) (by kernel_rfl) ?_
                          refine reg_enter (op := (Go.Op.call (Go.Call.mk (Go.Callee.value (Go.Operand.func 26)) #[(Go.Operand.tmp 116)] #[38]))) (ty := 66) (dst := some 117) 26 #[Value.pointer l_] (by kernel_rfl) (fun ww => by kernel_rfl) (Calls.mono h ?_)
                          rintro _ w20 ⟨s, v117_1, ok, rfl, h⟩
                          refine ⟨_, rfl, ?_⟩
                          refine reg_run [.plain, .plain, .plain, .plain] 6 [(1, [], Value.pointer (some ⟨b_, 0, none⟩)), (3, [], Value.pointer l_), (5, [], Value.int .i64 at_2), (6, [], Value.int .i64 i), (7, [], Value.pointer (some ⟨b_1, 0, none⟩)), (8, [], Value.int .i64 out), (9, [], Value.int .i64 k), (118, [], Value.int .i64 s), (119, [], Value.agg #[Value.int .u8 v117_1.Kind, Value.int .i64 v117_1.From, Value.int .i64 v117_1.Number, Value.string v117_1.Write.Key, Value.string v117_1.Write.Val, Value.bool v117_1.Write.Drop, Value.string v117_1.Key, Value.string v117_1.End, Value.slice v117_1.Beyond.ptr v117_1.Beyond.len v117_1.Beyond.cap]), (120, [], Value.bool ok)] (by kernel_rfl) (by kernel_rfl) ?_
                          refine reg_new (op := (Go.Op.alloc 65)) (ty := 0) (dst := some 13) (fun bb => Value.pointer (some ⟨bb, 0, none⟩)) (Obj.cells ([Value.int .u8 0, Value.int .i64 0, Value.int .i64 0, Value.string ByteArray.empty, Value.string ByteArray.empty, Value.bool false, Value.string ByteArray.empty, Value.string ByteArray.empty, Value.slice none 0 0]).toArray ty_api_Req (0, 0)) (by kernel_rfl) (by kernel_rfl) (fun b_2 w21 hb hw => ?_)
                          replace h := h b_2 w21 hb hw
                          clear hb hw
                          refine reg_run [.plain] 8 [(1, [], Value.pointer (some ⟨b_, 0, none⟩)), (3, [], Value.pointer l_), (5, [], Value.int .i64 at_2), (6, [], Value.int .i64 i), (7, [], Value.pointer (some ⟨b_1, 0, none⟩)), (8, [], Value.int .i64 out), (9, [], Value.int .i64 k), (12, [], Value.int .i64 s), (13, [], Value.pointer (some ⟨b_2, 0, none⟩)), (119, [], Value.agg #[Value.int .u8 v117_1.Kind, Value.int .i64 v117_1.From, Value.int .i64 v117_1.Number, Value.string v117_1.Write.Key, Value.string v117_1.Write.Val, Value.bool v117_1.Write.Drop, Value.string v117_1.Key, Value.string v117_1.End, Value.slice v117_1.Beyond.ptr v117_1.Beyond.len v117_1.Beyond.cap]), (120, [], Value.bool ok)] (by kernel_rfl) (by kernel_rfl) ?_
                          obtain ⟨hc, h⟩ := h
                          refine reg_store (t := 65) (a := (Go.Operand.tmp 13)) (x := (Go.Operand.tmp 119)) (b := b_2) (o := 0) (ty := 0) (dst := none) [Value.int .u8 v117_1.Kind, Value.int .i64 v117_1.From, Value.int .i64 v117_1.Number, Value.string v117_1.Write.Key, Value.string v117_1.Write.Val, Value.bool v117_1.Write.Drop, Value.string v117_1.Key, Value.string v117_1.End, Value.slice v117_1.Beyond.ptr v117_1.Beyond.len v117_1.Beyond.cap] (by kernel_rfl) (by kernel_rfl) (by kernel_rfl) (k := 9) (by kernel_rfl) (by kernel_rfl) (by kernel_rfl) hc (fun w22 hw => ?_)
                          replace h := h w22 hw
                          clear hw
                          refine reg_run [.plain] 10 [(1, [], Value.pointer (some ⟨b_, 0, none⟩)), (3, [], Value.pointer l_), (5, [], Value.int .i64 at_2), (6, [], Value.int .i64 i), (7, [], Value.pointer (some ⟨b_1, 0, none⟩)), (8, [], Value.int .i64 out), (9, [], Value.int .i64 k), (12, [], Value.int .i64 s), (13, [], Value.pointer (some ⟨b_2, 0, none⟩)), (14, [], Value.bool ok)] (by kernel_rfl) (by kernel_rfl) ?_
                          refine reg_end [(1, Value.pointer (some ⟨b_, 0, none⟩)), (3, Value.pointer l_), (5, Value.int .i64 at_2), (6, Value.int .i64 i), (7, Value.pointer (some ⟨b_1, 0, none⟩)), (8, Value.int .i64 out), (9, Value.int .i64 k), (12, Value.int .i64 s), (13, Value.pointer (some ⟨b_2, 0, none⟩)), (14, Value.bool ok)] (by kernel_rfl) (by kernel_rfl) ?_
                          change WpE _ _ c_towpathlaw14_LaneTrips_124 _ _ _
                          refine wpE_seq (x := c_towpathlaw14_LaneTrips_125) (y := c_towpathlaw14_LaneTrips_127) (by kernel_rfl) ?_
                          refine wpE_mixregion (id := 27) (ops := r_towpathlaw14_LaneTrips_125) o_towpathlaw14_LaneTrips_125 (by kernel_rfl) (by kernel_rfl) (by kernel_rfl) (by kernel_rfl) (fun w23 hw => ?_)
                          replace h := h w23 hw
                          clear hw
                          refine mreg_run [.plain] 1 [(1, [], Value.pointer (some ⟨b_, 0, none⟩)), (3, [], Value.pointer l_), (5, [], Value.int .i64 at_2), (6, [], Value.int .i64 i), (7, [], Value.pointer (some ⟨b_1, 0, none⟩)), (8, [], Value.int .i64 out), (9, [], Value.int .i64 k), (12, [], Value.int .i64 s), (13, [], Value.pointer (some ⟨b_2, 0, none⟩)), (14, [], Value.bool ok), (122, [], Value.pointer (some ⟨b_, 0, none⟩))] (by kernel_rfl) (by kernel_rfl) ?_
                          obtain ⟨v123, hc, h⟩ := h
                          refine mreg_loadN (i := 1) (by kernel_rfl) (t := 35) (a := (Go.Operand.tmp 122)) (b := b_) (o := 0) (ty := 35) (dst := some 123) [Value.int .i64 v123.Lanes, Value.int .i64 v123.Shards, Value.int .i64 v123.Window, Value.int .i64 v123.Queue] (by kernel_rfl) (by kernel_rfl) (by kernel_rfl) (k := 4) (by kernel_rfl) (by kernel_rfl) hc ?_
                          refine mreg_run [.plain] 3 [(1, [], Value.pointer (some ⟨b_, 0, none⟩)), (3, [], Value.pointer l_), (5, [], Value.int .i64 at_2), (6, [], Value.int .i64 i), (7, [], Value.pointer (some ⟨b_1, 0, none⟩)), (8, [], Value.int .i64 out), (9, [], Value.int .i64 k), (12, [], Value.int .i64 s), (13, [], Value.pointer (some ⟨b_2, 0, none⟩)), (14, [], Value.bool ok), (123, [], Value.agg #[Value.int .i64 v123.Lanes, Value.int .i64 v123.Shards, Value.int .i64 v123.Window, Value.int .i64 v123.Queue]), (124, [], Value.pointer (some ⟨b_1, 1, none⟩))] (by kernel_rfl) (by kernel_rfl) ?_
                          obtain ⟨v125, hc, h⟩ := h
                          refine mreg_load1 (i := 3) (by kernel_rfl) (t := 25) (a := (Go.Operand.tmp 124)) (b := b_1) (o := 1) (ty := 25) (dst := some 125) (by kernel_rfl) (by kernel_rfl) (by kernel_rfl) hc ?_
                          refine mreg_run [.plain] 5 [(1, [], Value.pointer (some ⟨b_, 0, none⟩)), (3, [], Value.pointer l_), (5, [], Value.int .i64 at_2), (6, [], Value.int .i64 i), (7, [], Value.pointer (some ⟨b_1, 0, none⟩)), (8, [], Value.int .i64 out), (9, [], Value.int .i64 k), (12, [], Value.int .i64 s), (13, [], Value.pointer (some ⟨b_2, 0, none⟩)), (14, [], Value.bool ok), (123, [], Value.agg #[Value.int .i64 v123.Lanes, Value.int .i64 v123.Shards, Value.int .i64 v123.Window, Value.int .i64 v123.Queue]), (125, [], Value.slice v125.ptr v125.len v125.cap), (126, [], Value.int .i64 k)] (by kernel_rfl) (by kernel_rfl) ?_
                          obtain ⟨hp_347, h⟩ := h
                          refine mreg_conv [(1, [], Value.pointer (some ⟨b_, 0, none⟩)), (3, [], Value.pointer l_), (5, [], Value.int .i64 at_2), (6, [], Value.int .i64 i), (7, [], Value.pointer (some ⟨b_1, 0, none⟩)), (8, [], Value.int .i64 out), (9, [], Value.int .i64 k), (12, [], Value.int .i64 s), (13, [], Value.pointer (some ⟨b_2, 0, none⟩)), (14, [], Value.bool ok), (123, [], Value.agg #[Value.int .i64 v123.Lanes, Value.int .i64 v123.Shards, Value.int .i64 v123.Window, Value.int .i64 v123.Queue]), (125, [], Value.slice (some ⟨(pblk v125.ptr), (poff v125.ptr), none⟩) v125.len v125.cap), (126, [], Value.int .i64 k)] (congrArg (fun pp => ([(1, [], Value.pointer (some ⟨b_, 0, none⟩)), (3, [], Value.pointer l_), (5, [], Value.int .i64 at_2), (6, [], Value.int .i64 i), (7, [], Value.pointer (some ⟨b_1, 0, none⟩)), (8, [], Value.int .i64 out), (9, [], Value.int .i64 k), (12, [], Value.int .i64 s), (13, [], Value.pointer (some ⟨b_2, 0, none⟩)), (14, [], Value.bool ok), (123, [], Value.agg #[Value.int .i64 v123.Lanes, Value.int .i64 v123.Shards, Value.int .i64 v123.Window, Value.int .i64 v123.Queue]), (125, [], Value.slice pp v125.len v125.cap), (126, [], Value.int .i64 k)] : GEnv)) hp_347) ?_
                          obtain ⟨h0, h1, h⟩ := h
                          refine mreg_indexS (i := 5) (by kernel_rfl) (t := 25) (e := 61) (x := (Go.Operand.tmp 125)) (ix := (Go.Operand.tmp 126)) (b := (pblk v125.ptr)) (o := (poff v125.ptr)) (l := v125.len) (c := v125.cap) (k := .i64) (j := k) (ty := 0) (dst := some 127) (sz := 3) (by kernel_rfl) (by kernel_rfl) (by kernel_rfl) (by kernel_rfl) (by kernel_rfl) h0 h1 ?_
                          refine mreg_run [.plain] 7 [(1, [], Value.pointer (some ⟨b_, 0, none⟩)), (3, [], Value.pointer l_), (5, [], Value.int .i64 at_2), (6, [], Value.int .i64 i), (7, [], Value.pointer (some ⟨b_1, 0, none⟩)), (8, [], Value.int .i64 out), (9, [], Value.int .i64 k), (12, [], Value.int .i64 s), (13, [], Value.pointer (some ⟨b_2, 0, none⟩)), (14, [], Value.bool ok), (123, [], Value.agg #[Value.int .i64 v123.Lanes, Value.int .i64 v123.Shards, Value.int .i64 v123.Window, Value.int .i64 v123.Queue]), (128, [], Value.pointer (some ⟨(pblk v125.ptr), (poff v125.ptr) + k.toNat * 3, none⟩))] (by kernel_rfl) (by kernel_rfl) ?_
                          obtain ⟨v129, hc, h⟩ := h
                          refine mreg_load1 (i := 7) (by kernel_rfl) (t := 9) (a := (Go.Operand.tmp 128)) (b := (pblk v125.ptr)) (o := ((poff v125.ptr) + k.toNat * 3)) (ty := 9) (dst := some 129) (by kernel_rfl) (by kernel_rfl) (by kernel_rfl) hc ?_
                          refine mreg_run [] 8 [(1, [], Value.pointer (some ⟨b_, 0, none⟩)), (3, [], Value.pointer l_), (5, [], Value.int .i64 at_2), (6, [], Value.int .i64 i), (7, [], Value.pointer (some ⟨b_1, 0, none⟩)), (8, [], Value.int .i64 out), (9, [], Value.int .i64 k), (12, [], Value.int .i64 s), (13, [], Value.pointer (some ⟨b_2, 0, none⟩)), (14, [], Value.bool ok), (123, [], Value.agg #[Value.int .i64 v123.Lanes, Value.int .i64 v123.Shards, Value.int .i64 v123.Window, Value.int .i64 v123.Queue]), (129, [], Value.string v129)] (by kernel_rfl) (by kernel_rfl) ?_
                          refine mreg_enter (op := (Go.Op.call (Go.Call.mk (Go.Callee.value (Go.Operand.func 27)) #[(Go.Operand.tmp 123), (Go.Operand.tmp 129)] #[35, 9]))) (ty := 68) (dst := some 130) 8 [1, 7, 0, 6, 5, 3, 4, 2] [] 27 #[Value.agg #[Value.int .i64 v123.Lanes, Value.int .i64 v123.Shards, Value.int .i64 v123.Window, Value.int .i64 v123.Queue], Value.string v129] (by kernel_rfl) (by kernel_rfl) (by kernel_rfl) (by kernel_rfl) (by kernel_rfl) (fun ww => by kernel_rfl) (Calls.mono h ?_)
                          rintro _ w24 ⟨shard, f, rfl, h⟩
                          refine ⟨_, rfl, trivial, ?_⟩
                          refine mreg_run [.plain, .plain, .plain, .plain, .plain] 14 [(1, [], Value.pointer (some ⟨b_, 0, none⟩)), (3, [], Value.pointer l_), (5, [], Value.int .i64 at_2), (6, [], Value.int .i64 i), (7, [], Value.pointer (some ⟨b_1, 0, none⟩)), (8, [], Value.int .i64 out), (9, [], Value.int .i64 k), (12, [], Value.int .i64 s), (13, [], Value.pointer (some ⟨b_2, 0, none⟩)), (14, [], Value.bool ok), (15, [], Value.int .i64 shard), (16, [], Value.int .i64 f)] (by kernel_rfl) (by kernel_rfl) ?_
                          refine mreg_end [(1, Value.pointer (some ⟨b_, 0, none⟩)), (3, Value.pointer l_), (5, Value.int .i64 at_2), (6, Value.int .i64 i), (7, Value.pointer (some ⟨b_1, 0, none⟩)), (8, Value.int .i64 out), (9, Value.int .i64 k), (12, Value.int .i64 s), (13, Value.pointer (some ⟨b_2, 0, none⟩)), (14, Value.bool ok), (15, Value.int .i64 shard), (16, Value.int .i64 f)] (by kernel_rfl) (by kernel_rfl) (by kernel_rfl) ?_
                          change WpE _ _ c_towpathlaw14_LaneTrips_127 _ _ _
                          refine wpE_seq (x := c_towpathlaw14_LaneTrips_128) (y := c_towpathlaw14_LaneTrips_137) (by kernel_rfl) ?_
                          refine wpE_seq_cut (x := c_towpathlaw14_LaneTrips_129) (y := c_towpathlaw14_LaneTrips_131) (by kernel_rfl) (fun l w => ∃ (t189 : Bool), l = [(1, Value.pointer (some ⟨b_, 0, none⟩)), (3, Value.pointer l_), (5, Value.int .i64 at_2), (6, Value.int .i64 i), (7, Value.pointer (some ⟨b_1, 0, none⟩)), (8, Value.int .i64 out), (9, Value.int .i64 k), (189, Value.bool t189)] ∧ F_towpathlaw14_LaneTrips_k7 R b_ l_ at_2 out k again_1 t189 w) ?_ ?_
                          · refine wpE_mixregion (id := 28) (ops := r_towpathlaw14_LaneTrips_129) o_towpathlaw14_LaneTrips_129 (by kernel_rfl) (by kernel_rfl) (by kernel_rfl) (by kernel_rfl) (fun w29 hw => ?_)
                            replace h := h w29 hw
                            clear hw
                            refine mreg_run [.plain, .plain, .plain, .plain, .plain, .pick, .plain, .plain, .plain, .plain, .pick, .plain, .plain] 13 [(1, [], Value.pointer (some ⟨b_, 0, none⟩)), (3, [], Value.pointer l_), (5, [], Value.int .i64 at_2), (6, [], Value.int .i64 i), (7, [], Value.pointer (some ⟨b_1, 0, none⟩)), (8, [], Value.int .i64 out), (9, [], Value.int .i64 k), (13, [], Value.pointer (some ⟨b_2, 0, none⟩)), (144, [], Value.bool (((!ok) || (f != 0)) || (s != shard))), (145, [(144, false)], Value.pointer (some ⟨b_2, 0, none⟩))] (by kernel_rfl) (by kernel_rfl) ?_
                            refine mreg_split 144 (((!ok) || (f != 0)) || (s != shard)) (by kernel_rfl) (fun hb => ?_) (fun hb => ?_)
                            · replace h := h.1 hb
                              refine mreg_run [] 13 [(1, [], Value.pointer (some ⟨b_, 0, none⟩)), (3, [], Value.pointer l_), (5, [], Value.int .i64 at_2), (6, [], Value.int .i64 i), (7, [], Value.pointer (some ⟨b_1, 0, none⟩)), (8, [], Value.int .i64 out), (9, [], Value.int .i64 k), (13, [], Value.pointer (some ⟨b_2, 0, none⟩)), (144, [], Value.bool true), (145, [], undef)] (by kernel_rfl) (by kernel_rfl) ?_
                              refine mreg_run [.skip, .skip, .plain, .plain, .skip, .skip, .skip, .skip, .skip, .skip, .plain, .plain, .skip, .skip, .skip, .skip, .skip, .plain, .plain, .skip, .skip, .skip, .skip, .skip, .skip, .skip, .skip, .plain, .plain, .skip, .skip, .plain, .plain, .skip, .skip, .skip, .skip, .skip, .plain, .plain, .skip, .skip, .skip, .plain] 57 [(1, [], Value.pointer (some ⟨b_, 0, none⟩)), (3, [], Value.pointer l_), (5, [], Value.int .i64 at_2), (6, [], Value.int .i64 i), (7, [], Value.pointer (some ⟨b_1, 0, none⟩)), (8, [], Value.int .i64 out), (9, [], Value.int .i64 k), (189, [], Value.bool true)] (by kernel_rfl) (by kernel_rfl) ?_
                              refine mreg_end [(1, Value.pointer (some ⟨b_, 0, none⟩)), (3, Value.pointer l_), (5, Value.int .i64 at_2), (6, Value.int .i64 i), (7, Value.pointer (some ⟨b_1, 0, none⟩)), (8, Value.int .i64 out), (9, Value.int .i64 k), (189, Value.bool true)] (by kernel_rfl) (by kernel_rfl) (by kernel_rfl) ?_
                              exact ⟨[(1, Value.pointer (some ⟨b_, 0, none⟩)), (3, Value.pointer l_), (5, Value.int .i64 at_2), (6, Value.int .i64 i), (7, Value.pointer (some ⟨b_1, 0, none⟩)), (8, Value.int .i64 out), (9, Value.int .i64 k), (189, Value.bool true)], Sub.mk (by kernel_rfl), true, rfl, h⟩
                            · replace h := h.2 hb
                              refine mreg_run [] 13 [(1, [], Value.pointer (some ⟨b_, 0, none⟩)), (3, [], Value.pointer l_), (5, [], Value.int .i64 at_2), (6, [], Value.int .i64 i), (7, [], Value.pointer (some ⟨b_1, 0, none⟩)), (8, [], Value.int .i64 out), (9, [], Value.int .i64 k), (13, [], Value.pointer (some ⟨b_2, 0, none⟩)), (144, [], Value.bool false), (145, [], Value.pointer (some ⟨b_2, 0, none⟩))] (by kernel_rfl) (by kernel_rfl) ?_
                              refine mreg_run [] 13 [(1, [], Value.pointer (some ⟨b_, 0, none⟩)), (3, [], Value.pointer l_), (5, [], Value.int .i64 at_2), (6, [], Value.int .i64 i), (7, [], Value.pointer (some ⟨b_1, 0, none⟩)), (8, [], Value.int .i64 out), (9, [], Value.int .i64 k), (13, [], Value.pointer (some ⟨b_2, 0, none⟩)), (144, [], Value.bool false), (145, [], Value.pointer (some ⟨b_2, 0, none⟩))] (by kernel_rfl) (by kernel_rfl) ?_
                              obtain ⟨v146, hc, h⟩ := h
                              refine mreg_load1 (i := 13) (by kernel_rfl) (t := 62) (a := (Go.Operand.tmp 145)) (b := b_2) (o := 0) (ty := 62) (dst := some 146) (by kernel_rfl) (by kernel_rfl) (by kernel_rfl) hc ?_
                              refine mreg_run [.sure, .plain, .plain, .plain] 18 [(1, [], Value.pointer (some ⟨b_, 0, none⟩)), (3, [], Value.pointer l_), (5, [], Value.int .i64 at_2), (6, [], Value.int .i64 i), (7, [], Value.pointer (some ⟨b_1, 0, none⟩)), (8, [], Value.int .i64 out), (9, [], Value.int .i64 k), (13, [], Value.pointer (some ⟨b_2, 0, none⟩)), (149, [], Value.bool (v146 != 1)), (150, [(149, false)], Value.pointer (some ⟨b_2, 1, none⟩))] (by kernel_rfl) (by kernel_rfl) ?_
                              refine mreg_split 149 (v146 != 1) (by kernel_rfl) (fun hb => ?_) (fun hb => ?_)
                              · replace h := h.1 hb
                                refine mreg_run [] 18 [(1, [], Value.pointer (some ⟨b_, 0, none⟩)), (3, [], Value.pointer l_), (5, [], Value.int .i64 at_2), (6, [], Value.int .i64 i), (7, [], Value.pointer (some ⟨b_1, 0, none⟩)), (8, [], Value.int .i64 out), (9, [], Value.int .i64 k), (13, [], Value.pointer (some ⟨b_2, 0, none⟩)), (149, [], Value.bool true), (150, [], undef)] (by kernel_rfl) (by kernel_rfl) ?_
                                refine mreg_run [.skip, .skip, .skip, .skip, .skip, .plain, .plain, .skip, .skip, .skip, .skip, .skip, .plain, .plain, .skip, .skip, .skip, .skip, .skip, .skip, .skip, .skip, .plain, .plain, .skip, .skip, .plain, .plain, .skip, .skip, .skip, .skip, .skip, .plain, .plain, .skip, .skip, .skip, .plain] 57 [(1, [], Value.pointer (some ⟨b_, 0, none⟩)), (3, [], Value.pointer l_), (5, [], Value.int .i64 at_2), (6, [], Value.int .i64 i), (7, [], Value.pointer (some ⟨b_1, 0, none⟩)), (8, [], Value.int .i64 out), (9, [], Value.int .i64 k), (189, [], Value.bool true)] (by kernel_rfl) (by kernel_rfl) ?_
                                refine mreg_end [(1, Value.pointer (some ⟨b_, 0, none⟩)), (3, Value.pointer l_), (5, Value.int .i64 at_2), (6, Value.int .i64 i), (7, Value.pointer (some ⟨b_1, 0, none⟩)), (8, Value.int .i64 out), (9, Value.int .i64 k), (189, Value.bool true)] (by kernel_rfl) (by kernel_rfl) (by kernel_rfl) ?_
                                exact ⟨[(1, Value.pointer (some ⟨b_, 0, none⟩)), (3, Value.pointer l_), (5, Value.int .i64 at_2), (6, Value.int .i64 i), (7, Value.pointer (some ⟨b_1, 0, none⟩)), (8, Value.int .i64 out), (9, Value.int .i64 k), (189, Value.bool true)], Sub.mk (by kernel_rfl), true, rfl, h⟩
                              · replace h := h.2 hb
                                refine mreg_run [] 18 [(1, [], Value.pointer (some ⟨b_, 0, none⟩)), (3, [], Value.pointer l_), (5, [], Value.int .i64 at_2), (6, [], Value.int .i64 i), (7, [], Value.pointer (some ⟨b_1, 0, none⟩)), (8, [], Value.int .i64 out), (9, [], Value.int .i64 k), (13, [], Value.pointer (some ⟨b_2, 0, none⟩)), (149, [], Value.bool false), (150, [], Value.pointer (some ⟨b_2, 1, none⟩))] (by kernel_rfl) (by kernel_rfl) ?_
                                refine mreg_run [] 18 [(1, [], Value.pointer (some ⟨b_, 0, none⟩)), (3, [], Value.pointer l_), (5, [], Value.int .i64 at_2), (6, [], Value.int .i64 i), (7, [], Value.pointer (some ⟨b_1, 0, none⟩)), (8, [], Value.int .i64 out), (9, [], Value.int .i64 k), (13, [], Value.pointer (some ⟨b_2, 0, none⟩)), (149, [], Value.bool false), (150, [], Value.pointer (some ⟨b_2, 1, none⟩))] (by kernel_rfl) (by kernel_rfl) ?_
                                obtain ⟨v151, hc, h⟩ := h
                                refine mreg_load1 (i := 18) (by kernel_rfl) (t := 3) (a := (Go.Operand.tmp 150)) (b := b_2) (o := 1) (ty := 3) (dst := some 151) (by kernel_rfl) (by kernel_rfl) (by kernel_rfl) hc ?_
                                refine mreg_run [.sure, .sure] 21 [(1, [], Value.pointer (some ⟨b_, 0, none⟩)), (3, [], Value.pointer l_), (5, [], Value.int .i64 at_2), (6, [], Value.int .i64 i), (7, [], Value.pointer (some ⟨b_1, 0, none⟩)), (8, [], Value.int .i64 out), (9, [], Value.int .i64 k), (13, [], Value.pointer (some ⟨b_2, 0, none⟩)), (149, [], Value.bool false), (151, [], Value.int .i64 v151), (153, [], Value.pointer (some ⟨b_, 0, none⟩))] (by kernel_rfl) (by kernel_rfl) ?_
                                obtain ⟨v154, hc, h⟩ := h
                                refine mreg_load1 (i := 21) (by kernel_rfl) (t := 3) (a := (Go.Operand.tmp 153)) (b := b_) (o := 0) (ty := 3) (dst := some 154) (by kernel_rfl) (by kernel_rfl) (by kernel_rfl) hc ?_
                                refine mreg_run [.sure, .plain, .plain, .plain] 26 [(1, [], Value.pointer (some ⟨b_, 0, none⟩)), (3, [], Value.pointer l_), (5, [], Value.int .i64 at_2), (6, [], Value.int .i64 i), (7, [], Value.pointer (some ⟨b_1, 0, none⟩)), (8, [], Value.int .i64 out), (9, [], Value.int .i64 k), (13, [], Value.pointer (some ⟨b_2, 0, none⟩)), (157, [], Value.bool (v151 != v154)), (158, [(157, false)], Value.pointer (some ⟨b_2, 2, none⟩))] (by kernel_rfl) (by kernel_rfl) ?_
                                refine mreg_split 157 (v151 != v154) (by kernel_rfl) (fun hb => ?_) (fun hb => ?_)
                                · replace h := h.1 hb
                                  refine mreg_run [] 26 [(1, [], Value.pointer (some ⟨b_, 0, none⟩)), (3, [], Value.pointer l_), (5, [], Value.int .i64 at_2), (6, [], Value.int .i64 i), (7, [], Value.pointer (some ⟨b_1, 0, none⟩)), (8, [], Value.int .i64 out), (9, [], Value.int .i64 k), (13, [], Value.pointer (some ⟨b_2, 0, none⟩)), (157, [], Value.bool true), (158, [], undef)] (by kernel_rfl) (by kernel_rfl) ?_
                                  refine mreg_run [.skip, .skip, .skip, .skip, .plain, .plain, .skip, .skip, .skip, .skip, .skip, .skip, .skip, .skip, .plain, .plain, .skip, .skip, .plain, .plain, .skip, .skip, .skip, .skip, .skip, .plain, .plain, .skip, .skip, .skip, .plain] 57 [(1, [], Value.pointer (some ⟨b_, 0, none⟩)), (3, [], Value.pointer l_), (5, [], Value.int .i64 at_2), (6, [], Value.int .i64 i), (7, [], Value.pointer (some ⟨b_1, 0, none⟩)), (8, [], Value.int .i64 out), (9, [], Value.int .i64 k), (189, [], Value.bool true)] (by kernel_rfl) (by kernel_rfl) ?_
                                  refine mreg_end [(1, Value.pointer (some ⟨b_, 0, none⟩)), (3, Value.pointer l_), (5, Value.int .i64 at_2), (6, Value.int .i64 i), (7, Value.pointer (some ⟨b_1, 0, none⟩)), (8, Value.int .i64 out), (9, Value.int .i64 k), (189, Value.bool true)] (by kernel_rfl) (by kernel_rfl) (by kernel_rfl) ?_
                                  exact ⟨[(1, Value.pointer (some ⟨b_, 0, none⟩)), (3, Value.pointer l_), (5, Value.int .i64 at_2), (6, Value.int .i64 i), (7, Value.pointer (some ⟨b_1, 0, none⟩)), (8, Value.int .i64 out), (9, Value.int .i64 k), (189, Value.bool true)], Sub.mk (by kernel_rfl), true, rfl, h⟩
                                · replace h := h.2 hb
                                  refine mreg_run [] 26 [(1, [], Value.pointer (some ⟨b_, 0, none⟩)), (3, [], Value.pointer l_), (5, [], Value.int .i64 at_2), (6, [], Value.int .i64 i), (7, [], Value.pointer (some ⟨b_1, 0, none⟩)), (8, [], Value.int .i64 out), (9, [], Value.int .i64 k), (13, [], Value.pointer (some ⟨b_2, 0, none⟩)), (157, [], Value.bool false), (158, [], Value.pointer (some ⟨b_2, 2, none⟩))] (by kernel_rfl) (by kernel_rfl) ?_
                                  refine mreg_run [] 26 [(1, [], Value.pointer (some ⟨b_, 0, none⟩)), (3, [], Value.pointer l_), (5, [], Value.int .i64 at_2), (6, [], Value.int .i64 i), (7, [], Value.pointer (some ⟨b_1, 0, none⟩)), (8, [], Value.int .i64 out), (9, [], Value.int .i64 k), (13, [], Value.pointer (some ⟨b_2, 0, none⟩)), (157, [], Value.bool false), (158, [], Value.pointer (some ⟨b_2, 2, none⟩))] (by kernel_rfl) (by kernel_rfl) ?_
                                  obtain ⟨v159, hc, h⟩ := h
                                  refine mreg_load1 (i := 26) (by kernel_rfl) (t := 3) (a := (Go.Operand.tmp 158)) (b := b_2) (o := 2) (ty := 3) (dst := some 159) (by kernel_rfl) (by kernel_rfl) (by kernel_rfl) hc ?_
                                  refine mreg_run [.sure] 28 [(1, [], Value.pointer (some ⟨b_, 0, none⟩)), (3, [], Value.pointer l_), (5, [], Value.int .i64 at_2), (6, [], Value.int .i64 i), (7, [], Value.pointer (some ⟨b_1, 0, none⟩)), (8, [], Value.int .i64 out), (9, [], Value.int .i64 k), (13, [], Value.pointer (some ⟨b_2, 0, none⟩)), (157, [], Value.bool false), (159, [], Value.int .i64 v159), (160, [], Value.pointer (some ⟨b_1, 0, none⟩))] (by kernel_rfl) (by kernel_rfl) ?_
                                  obtain ⟨v161, hc, h⟩ := h
                                  refine mreg_load1 (i := 28) (by kernel_rfl) (t := 3) (a := (Go.Operand.tmp 160)) (b := b_1) (o := 0) (ty := 3) (dst := some 161) (by kernel_rfl) (by kernel_rfl) (by kernel_rfl) hc ?_
                                  refine mreg_run [.sure, .plain, .plain, .plain] 33 [(1, [], Value.pointer (some ⟨b_, 0, none⟩)), (3, [], Value.pointer l_), (5, [], Value.int .i64 at_2), (6, [], Value.int .i64 i), (7, [], Value.pointer (some ⟨b_1, 0, none⟩)), (8, [], Value.int .i64 out), (9, [], Value.int .i64 k), (164, [], Value.bool (v159 != v161)), (165, [(164, false)], Value.pointer (some ⟨b_2, 3, none⟩))] (by kernel_rfl) (by kernel_rfl) ?_
                                  refine mreg_split 164 (v159 != v161) (by kernel_rfl) (fun hb => ?_) (fun hb => ?_)
                                  · replace h := h.1 hb
                                    refine mreg_run [] 33 [(1, [], Value.pointer (some ⟨b_, 0, none⟩)), (3, [], Value.pointer l_), (5, [], Value.int .i64 at_2), (6, [], Value.int .i64 i), (7, [], Value.pointer (some ⟨b_1, 0, none⟩)), (8, [], Value.int .i64 out), (9, [], Value.int .i64 k), (164, [], Value.bool true), (165, [], undef)] (by kernel_rfl) (by kernel_rfl) ?_
                                    refine mreg_run [.skip, .skip, .skip, .skip, .skip, .skip, .skip, .plain, .plain, .skip, .skip, .plain, .plain, .skip, .skip, .skip, .skip, .skip, .plain, .plain, .skip, .skip, .skip, .plain] 57 [(1, [], Value.pointer (some ⟨b_, 0, none⟩)), (3, [], Value.pointer l_), (5, [], Value.int .i64 at_2), (6, [], Value.int .i64 i), (7, [], Value.pointer (some ⟨b_1, 0, none⟩)), (8, [], Value.int .i64 out), (9, [], Value.int .i64 k), (189, [], Value.bool true)] (by kernel_rfl) (by kernel_rfl) ?_
                                    refine mreg_end [(1, Value.pointer (some ⟨b_, 0, none⟩)), (3, Value.pointer l_), (5, Value.int .i64 at_2), (6, Value.int .i64 i), (7, Value.pointer (some ⟨b_1, 0, none⟩)), (8, Value.int .i64 out), (9, Value.int .i64 k), (189, Value.bool true)] (by kernel_rfl) (by kernel_rfl) (by kernel_rfl) ?_
                                    exact ⟨[(1, Value.pointer (some ⟨b_, 0, none⟩)), (3, Value.pointer l_), (5, Value.int .i64 at_2), (6, Value.int .i64 i), (7, Value.pointer (some ⟨b_1, 0, none⟩)), (8, Value.int .i64 out), (9, Value.int .i64 k), (189, Value.bool true)], Sub.mk (by kernel_rfl), true, rfl, h⟩
                                  · replace h := h.2 hb
                                    refine mreg_run [] 33 [(1, [], Value.pointer (some ⟨b_, 0, none⟩)), (3, [], Value.pointer l_), (5, [], Value.int .i64 at_2), (6, [], Value.int .i64 i), (7, [], Value.pointer (some ⟨b_1, 0, none⟩)), (8, [], Value.int .i64 out), (9, [], Value.int .i64 k), (164, [], Value.bool false), (165, [], Value.pointer (some ⟨b_2, 3, none⟩))] (by kernel_rfl) (by kernel_rfl) ?_
                                    refine mreg_run [] 33 [(1, [], Value.pointer (some ⟨b_, 0, none⟩)), (3, [], Value.pointer l_), (5, [], Value.int .i64 at_2), (6, [], Value.int .i64 i), (7, [], Value.pointer (some ⟨b_1, 0, none⟩)), (8, [], Value.int .i64 out), (9, [], Value.int .i64 k), (164, [], Value.bool false), (165, [], Value.pointer (some ⟨b_2, 3, none⟩))] (by kernel_rfl) (by kernel_rfl) ?_
                                    obtain ⟨v166, hc, h⟩ := h
                                    refine mreg_loadN (i := 33) (by kernel_rfl) (t := 61) (a := (Go.Operand.tmp 165)) (b := b_2) (o := 3) (ty := 61) (dst := some 166) [Value.string v166.Key, Value.string v166.Val, Value.bool v166.Drop] (by kernel_rfl) (by kernel_rfl) (by kernel_rfl) (k := 3) (by kernel_rfl) (by kernel_rfl) hc ?_
                                    refine mreg_run [.sure] 35 [(1, [], Value.pointer (some ⟨b_, 0, none⟩)), (3, [], Value.pointer l_), (5, [], Value.int .i64 at_2), (6, [], Value.int .i64 i), (7, [], Value.pointer (some ⟨b_1, 0, none⟩)), (8, [], Value.int .i64 out), (9, [], Value.int .i64 k), (164, [], Value.bool false), (166, [], Value.agg #[Value.string v166.Key, Value.string v166.Val, Value.bool v166.Drop]), (167, [], Value.pointer (some ⟨b_1, 1, none⟩))] (by kernel_rfl) (by kernel_rfl) ?_
                                    obtain ⟨v168, hc, h⟩ := h
                                    refine mreg_load1 (i := 35) (by kernel_rfl) (t := 25) (a := (Go.Operand.tmp 167)) (b := b_1) (o := 1) (ty := 25) (dst := some 168) (by kernel_rfl) (by kernel_rfl) (by kernel_rfl) hc ?_
                                    refine mreg_run [.sure] 37 [(1, [], Value.pointer (some ⟨b_, 0, none⟩)), (3, [], Value.pointer l_), (5, [], Value.int .i64 at_2), (6, [], Value.int .i64 i), (7, [], Value.pointer (some ⟨b_1, 0, none⟩)), (8, [], Value.int .i64 out), (9, [], Value.int .i64 k), (164, [], Value.bool false), (166, [], Value.agg #[Value.string v166.Key, Value.string v166.Val, Value.bool v166.Drop]), (168, [], Value.slice v168.ptr v168.len v168.cap), (169, [], Value.int .i64 k)] (by kernel_rfl) (by kernel_rfl) ?_
                                    obtain ⟨hp_359, h⟩ := h
                                    refine mreg_conv [(1, [], Value.pointer (some ⟨b_, 0, none⟩)), (3, [], Value.pointer l_), (5, [], Value.int .i64 at_2), (6, [], Value.int .i64 i), (7, [], Value.pointer (some ⟨b_1, 0, none⟩)), (8, [], Value.int .i64 out), (9, [], Value.int .i64 k), (164, [], Value.bool false), (166, [], Value.agg #[Value.string v166.Key, Value.string v166.Val, Value.bool v166.Drop]), (168, [], Value.slice (some ⟨(pblk v168.ptr), (poff v168.ptr), none⟩) v168.len v168.cap), (169, [], Value.int .i64 k)] (congrArg (fun pp => ([(1, [], Value.pointer (some ⟨b_, 0, none⟩)), (3, [], Value.pointer l_), (5, [], Value.int .i64 at_2), (6, [], Value.int .i64 i), (7, [], Value.pointer (some ⟨b_1, 0, none⟩)), (8, [], Value.int .i64 out), (9, [], Value.int .i64 k), (164, [], Value.bool false), (166, [], Value.agg #[Value.string v166.Key, Value.string v166.Val, Value.bool v166.Drop]), (168, [], Value.slice pp v168.len v168.cap), (169, [], Value.int .i64 k)] : GEnv)) hp_359) ?_
                                    obtain ⟨h0, h1, h⟩ := h
                                    refine mreg_indexS (i := 37) (by kernel_rfl) (t := 25) (e := 61) (x := (Go.Operand.tmp 168)) (ix := (Go.Operand.tmp 169)) (b := (pblk v168.ptr)) (o := (poff v168.ptr)) (l := v168.len) (c := v168.cap) (k := .i64) (j := k) (ty := 0) (dst := some 170) (sz := 3) (by kernel_rfl) (by kernel_rfl) (by kernel_rfl) (by kernel_rfl) (by kernel_rfl) h0 h1 ?_
                                    refine mreg_run [] 38 [(1, [], Value.pointer (some ⟨b_, 0, none⟩)), (3, [], Value.pointer l_), (5, [], Value.int .i64 at_2), (6, [], Value.int .i64 i), (7, [], Value.pointer (some ⟨b_1, 0, none⟩)), (8, [], Value.int .i64 out), (9, [], Value.int .i64 k), (164, [], Value.bool false), (166, [], Value.agg #[Value.string v166.Key, Value.string v166.Val, Value.bool v166.Drop]), (170, [], Value.pointer (some ⟨(pblk v168.ptr), (poff v168.ptr) + k.toNat * 3, none⟩))] (by kernel_rfl) (by kernel_rfl) ?_
                                    obtain ⟨v171, hc, h⟩ := h
                                    refine mreg_loadN (i := 38) (by kernel_rfl) (t := 61) (a := (Go.Operand.tmp 170)) (b := (pblk v168.ptr)) (o := ((poff v168.ptr) + k.toNat * 3)) (ty := 61) (dst := some 171) [Value.string v171.Key, Value.string v171.Val, Value.bool v171.Drop] (by kernel_rfl) (by kernel_rfl) (by kernel_rfl) (k := 3) (by kernel_rfl) (by kernel_rfl) hc ?_
                                    refine mreg_run [] 39 [(1, [], Value.pointer (some ⟨b_, 0, none⟩)), (3, [], Value.pointer l_), (5, [], Value.int .i64 at_2), (6, [], Value.int .i64 i), (7, [], Value.pointer (some ⟨b_1, 0, none⟩)), (8, [], Value.int .i64 out), (9, [], Value.int .i64 k), (164, [], Value.bool false), (166, [], Value.agg #[Value.string v166.Key, Value.string v166.Val, Value.bool v166.Drop]), (171, [], Value.agg #[Value.string v171.Key, Value.string v171.Val, Value.bool v171.Drop])] (by kernel_rfl) (by kernel_rfl) ?_
                                    refine mreg_val (i := 39) (by kernel_rfl) (op := (Go.Op.binOp Go.BinOp.neq 61 (Go.Operand.tmp 166) (Go.Operand.tmp 171) 61)) (ty := 4) (dst := some 172) (Value.bool (!(((v166.Key == v171.Key) && (v166.Val == v171.Val)) && (v166.Drop == v171.Drop)))) (by kernel_rfl) (fun ww => run_struct_neq (xs := [Value.string v166.Key, Value.string v166.Val, Value.bool v166.Drop]) (ys := [Value.string v171.Key, Value.string v171.Val, Value.bool v171.Drop]) (by kernel_rfl) (by kernel_rfl) (by kernel_rfl) (by kernel_rfl) (by kernel_rfl) ww) ?_
                                    refine mreg_run [.plain, .plain, .plain] 43 [(1, [], Value.pointer (some ⟨b_, 0, none⟩)), (3, [], Value.pointer l_), (5, [], Value.int .i64 at_2), (6, [], Value.int .i64 i), (7, [], Value.pointer (some ⟨b_1, 0, none⟩)), (8, [], Value.int .i64 out), (9, [], Value.int .i64 k), (174, [], Value.bool (!(((v166.Key == v171.Key) && (v166.Val == v171.Val)) && (v166.Drop == v171.Drop)))), (175, [(174, false)], Value.pointer l_)] (by kernel_rfl) (by kernel_rfl) ?_
                                    refine mreg_split 174 (!(((v166.Key == v171.Key) && (v166.Val == v171.Val)) && (v166.Drop == v171.Drop))) (by kernel_rfl) (fun hb => ?_) (fun hb => ?_)
                                    · replace h := h.1 hb
                                      refine mreg_run [] 43 [(1, [], Value.pointer (some ⟨b_, 0, none⟩)), (3, [], Value.pointer l_), (5, [], Value.int .i64 at_2), (6, [], Value.int .i64 i), (7, [], Value.pointer (some ⟨b_1, 0, none⟩)), (8, [], Value.int .i64 out), (9, [], Value.int .i64 k), (174, [], Value.bool true), (175, [], undef)] (by kernel_rfl) (by kernel_rfl) ?_
                                      refine mreg_run [.skip, .plain, .plain, .skip, .skip, .skip, .skip, .skip, .plain, .plain, .skip, .skip, .skip, .plain] 57 [(1, [], Value.pointer (some ⟨b_, 0, none⟩)), (3, [], Value.pointer l_), (5, [], Value.int .i64 at_2), (6, [], Value.int .i64 i), (7, [], Value.pointer (some ⟨b_1, 0, none⟩)), (8, [], Value.int .i64 out), (9, [], Value.int .i64 k), (189, [], Value.bool true)] (by kernel_rfl) (by kernel_rfl) ?_
                                      refine mreg_end [(1, Value.pointer (some ⟨b_, 0, none⟩)), (3, Value.pointer l_), (5, Value.int .i64 at_2), (6, Value.int .i64 i), (7, Value.pointer (some ⟨b_1, 0, none⟩)), (8, Value.int .i64 out), (9, Value.int .i64 k), (189, Value.bool true)] (by kernel_rfl) (by kernel_rfl) (by kernel_rfl) ?_
                                      exact ⟨[(1, Value.pointer (some ⟨b_, 0, none⟩)), (3, Value.pointer l_), (5, Value.int .i64 at_2), (6, Value.int .i64 i), (7, Value.pointer (some ⟨b_1, 0, none⟩)), (8, Value.int .i64 out), (9, Value.int .i64 k), (189, Value.bool true)], Sub.mk (by kernel_rfl), true, rfl, h⟩
                                    · replace h := h.2 hb
                                      refine mreg_run [] 43 [(1, [], Value.pointer (some ⟨b_, 0, none⟩)), (3, [], Value.pointer l_), (5, [], Value.int .i64 at_2), (6, [], Value.int .i64 i), (7, [], Value.pointer (some ⟨b_1, 0, none⟩)), (8, [], Value.int .i64 out), (9, [], Value.int .i64 k), (174, [], Value.bool false), (175, [], Value.pointer l_)] (by kernel_rfl) (by kernel_rfl) ?_
                                      refine mreg_run [] 43 [(1, [], Value.pointer (some ⟨b_, 0, none⟩)), (3, [], Value.pointer l_), (5, [], Value.int .i64 at_2), (6, [], Value.int .i64 i), (7, [], Value.pointer (some ⟨b_1, 0, none⟩)), (8, [], Value.int .i64 out), (9, [], Value.int .i64 k), (174, [], Value.bool false), (175, [], Value.pointer l_)] (by kernel_rfl) (by kernel_rfl) ?_
                                      refine mreg_enter (op := (Go.Op.call (Go.Call.mk (Go.Callee.value (Go.Operand.func 28)) #[(Go.Operand.tmp 175)] #[38]))) (ty := 4) (dst := some 176) 43 [41, 42, 31, 40, 24, 30, 39, 16, 23, 29, 33, 38, 11, 15, 22, 26, 28, 32, 37, 6, 10, 14, 18, 21, 25, 27, 35, 36, 2, 5, 9, 13, 17, 20, 34, 1, 4, 7, 8, 12, 19, 0, 3] [] 28 #[Value.pointer l_] (by kernel_rfl) (by kernel_rfl) (by kernel_rfl) (by kernel_rfl) (by kernel_rfl) (fun ww => by kernel_rfl) (Calls.mono h ?_)
                                      rintro _ w30 ⟨v176, rfl, h⟩
                                      refine ⟨_, rfl, trivial, ?_⟩
                                      refine mreg_run [.plain, .plain, .plain, .plain] 48 [(1, [], Value.pointer (some ⟨b_, 0, none⟩)), (3, [], Value.pointer l_), (5, [], Value.int .i64 at_2), (6, [], Value.int .i64 i), (7, [], Value.pointer (some ⟨b_1, 0, none⟩)), (8, [], Value.int .i64 out), (9, [], Value.int .i64 k), (178, [], Value.bool v176), (179, [(178, false)], Value.pointer l_), (181, [(178, false)], Value.pointer (some ⟨b_1, 0, none⟩))] (by kernel_rfl) (by kernel_rfl) ?_
                                      refine mreg_split 178 v176 (by kernel_rfl) (fun hb => ?_) (fun hb => ?_)
                                      · replace h := h.1 hb
                                        refine mreg_run [] 48 [(1, [], Value.pointer (some ⟨b_, 0, none⟩)), (3, [], Value.pointer l_), (5, [], Value.int .i64 at_2), (6, [], Value.int .i64 i), (7, [], Value.pointer (some ⟨b_1, 0, none⟩)), (8, [], Value.int .i64 out), (9, [], Value.int .i64 k), (178, [], Value.bool true), (179, [], undef), (181, [], undef)] (by kernel_rfl) (by kernel_rfl) ?_
                                        refine mreg_run [.skip, .skip, .skip, .plain, .plain, .skip, .skip, .skip, .plain] 57 [(1, [], Value.pointer (some ⟨b_, 0, none⟩)), (3, [], Value.pointer l_), (5, [], Value.int .i64 at_2), (6, [], Value.int .i64 i), (7, [], Value.pointer (some ⟨b_1, 0, none⟩)), (8, [], Value.int .i64 out), (9, [], Value.int .i64 k), (189, [], Value.bool true)] (by kernel_rfl) (by kernel_rfl) ?_
                                        refine mreg_end [(1, Value.pointer (some ⟨b_, 0, none⟩)), (3, Value.pointer l_), (5, Value.int .i64 at_2), (6, Value.int .i64 i), (7, Value.pointer (some ⟨b_1, 0, none⟩)), (8, Value.int .i64 out), (9, Value.int .i64 k), (189, Value.bool true)] (by kernel_rfl) (by kernel_rfl) (by kernel_rfl) ?_
                                        exact ⟨[(1, Value.pointer (some ⟨b_, 0, none⟩)), (3, Value.pointer l_), (5, Value.int .i64 at_2), (6, Value.int .i64 i), (7, Value.pointer (some ⟨b_1, 0, none⟩)), (8, Value.int .i64 out), (9, Value.int .i64 k), (189, Value.bool true)], Sub.mk (by kernel_rfl), true, rfl, h⟩
                                      · replace h := h.2 hb
                                        refine mreg_run [] 48 [(1, [], Value.pointer (some ⟨b_, 0, none⟩)), (3, [], Value.pointer l_), (5, [], Value.int .i64 at_2), (6, [], Value.int .i64 i), (7, [], Value.pointer (some ⟨b_1, 0, none⟩)), (8, [], Value.int .i64 out), (9, [], Value.int .i64 k), (178, [], Value.bool false), (179, [], Value.pointer l_), (181, [], Value.pointer (some ⟨b_1, 0, none⟩))] (by kernel_rfl) (by kernel_rfl) ?_
                                        refine mreg_run [] 48 [(1, [], Value.pointer (some ⟨b_, 0, none⟩)), (3, [], Value.pointer l_), (5, [], Value.int .i64 at_2), (6, [], Value.int .i64 i), (7, [], Value.pointer (some ⟨b_1, 0, none⟩)), (8, [], Value.int .i64 out), (9, [], Value.int .i64 k), (178, [], Value.bool false), (179, [], Value.pointer l_), (181, [], Value.pointer (some ⟨b_1, 0, none⟩))] (by kernel_rfl) (by kernel_rfl) ?_
                                        obtain ⟨v182, hc, h⟩ := h
                                        refine mreg_load1 (i := 49) (by kernel_rfl) (t := 3) (a := (Go.Operand.tmp 181)) (b := b_1) (o := 0) (ty := 3) (dst := some 182) (by kernel_rfl) (by kernel_rfl) (by kernel_rfl) hc ?_
                                        refine mreg_run [] 49 [(1, [], Value.pointer (some ⟨b_, 0, none⟩)), (3, [], Value.pointer l_), (5, [], Value.int .i64 at_2), (6, [], Value.int .i64 i), (7, [], Value.pointer (some ⟨b_1, 0, none⟩)), (8, [], Value.int .i64 out), (9, [], Value.int .i64 k), (178, [], Value.bool false), (179, [], Value.pointer l_), (182, [], Value.int .i64 v182)] (by kernel_rfl) (by kernel_rfl) ?_
                                        refine mreg_enter (op := (Go.Op.call (Go.Call.mk (Go.Callee.value (Go.Operand.func 25)) #[(Go.Operand.tmp 179)] #[38]))) (ty := 3) (dst := some 180) 47 [45, 46, 43, 44, 41, 42, 31, 40, 24, 30, 39, 16, 23, 29, 33, 38, 11, 15, 22, 26, 28, 32, 37, 6, 10, 14, 18, 21, 25, 27, 35, 36, 2, 5, 9, 13, 17, 20, 34, 1, 4, 7, 8, 12, 19, 0, 3] [(49, fun w' => w'.cell? ⟨b_1, 0, none⟩ = some (Value.int .i64 v182))] 25 #[Value.pointer l_] (by kernel_rfl) (by kernel_rfl) (by kernel_rfl) (by kernel_rfl) (by kernel_rfl) (fun ww => by kernel_rfl) (Calls.mono h ?_)
                                        rintro _ w31 ⟨v180, rfl, h⟩
                                        obtain ⟨hk0, h⟩ := h
                                        refine ⟨_, rfl, ⟨hk0, trivial⟩, ?_⟩
                                        refine mreg_run [.sure, .plain, .plain, .plain] 54 [(1, [], Value.pointer (some ⟨b_, 0, none⟩)), (3, [], Value.pointer l_), (5, [], Value.int .i64 at_2), (6, [], Value.int .i64 i), (7, [], Value.pointer (some ⟨b_1, 0, none⟩)), (8, [], Value.int .i64 out), (9, [], Value.int .i64 k), (185, [], Value.bool (v180 != v182)), (186, [(185, false)], Value.pointer l_)] (by kernel_rfl) (by kernel_rfl) ?_
                                        refine mreg_split 185 (v180 != v182) (by kernel_rfl) (fun hb => ?_) (fun hb => ?_)
                                        · replace h := h.1 hb
                                          refine mreg_run [] 54 [(1, [], Value.pointer (some ⟨b_, 0, none⟩)), (3, [], Value.pointer l_), (5, [], Value.int .i64 at_2), (6, [], Value.int .i64 i), (7, [], Value.pointer (some ⟨b_1, 0, none⟩)), (8, [], Value.int .i64 out), (9, [], Value.int .i64 k), (185, [], Value.bool true), (186, [], undef)] (by kernel_rfl) (by kernel_rfl) ?_
                                          refine mreg_run [.skip, .skip, .plain] 57 [(1, [], Value.pointer (some ⟨b_, 0, none⟩)), (3, [], Value.pointer l_), (5, [], Value.int .i64 at_2), (6, [], Value.int .i64 i), (7, [], Value.pointer (some ⟨b_1, 0, none⟩)), (8, [], Value.int .i64 out), (9, [], Value.int .i64 k), (189, [], Value.bool true)] (by kernel_rfl) (by kernel_rfl) ?_
                                          refine mreg_end [(1, Value.pointer (some ⟨b_, 0, none⟩)), (3, Value.pointer l_), (5, Value.int .i64 at_2), (6, Value.int .i64 i), (7, Value.pointer (some ⟨b_1, 0, none⟩)), (8, Value.int .i64 out), (9, Value.int .i64 k), (189, Value.bool true)] (by kernel_rfl) (by kernel_rfl) (by kernel_rfl) ?_
                                          exact ⟨[(1, Value.pointer (some ⟨b_, 0, none⟩)), (3, Value.pointer l_), (5, Value.int .i64 at_2), (6, Value.int .i64 i), (7, Value.pointer (some ⟨b_1, 0, none⟩)), (8, Value.int .i64 out), (9, Value.int .i64 k), (189, Value.bool true)], Sub.mk (by kernel_rfl), true, rfl, h⟩
                                        · replace h := h.2 hb
                                          refine mreg_run [] 54 [(1, [], Value.pointer (some ⟨b_, 0, none⟩)), (3, [], Value.pointer l_), (5, [], Value.int .i64 at_2), (6, [], Value.int .i64 i), (7, [], Value.pointer (some ⟨b_1, 0, none⟩)), (8, [], Value.int .i64 out), (9, [], Value.int .i64 k), (185, [], Value.bool false), (186, [], Value.pointer l_)] (by kernel_rfl) (by kernel_rfl) ?_
                                          refine mreg_run [] 54 [(1, [], Value.pointer (some ⟨b_, 0, none⟩)), (3, [], Value.pointer l_), (5, [], Value.int .i64 at_2), (6, [], Value.int .i64 i), (7, [], Value.pointer (some ⟨b_1, 0, none⟩)), (8, [], Value.int .i64 out), (9, [], Value.int .i64 k), (185, [], Value.bool false), (186, [], Value.pointer l_)] (by kernel_rfl) (by kernel_rfl) ?_
                                          refine mreg_enter (op := (Go.Op.call (Go.Call.mk (Go.Callee.value (Go.Operand.func 29)) #[(Go.Operand.tmp 186)] #[38]))) (ty := 28) (dst := some 187) 54 [52, 53, 47, 51, 45, 46, 50, 43, 44, 49, 41, 42, 48, 31, 40, 24, 30, 39, 16, 23, 29, 33, 38, 11, 15, 22, 26, 28, 32, 37, 6, 10, 14, 18, 21, 25, 27, 35, 36, 2, 5, 9, 13, 17, 20, 34, 1, 4, 7, 8, 12, 19, 0, 3] [] 29 #[Value.pointer l_] (by kernel_rfl) (by kernel_rfl) (by kernel_rfl) (by kernel_rfl) (by kernel_rfl) (fun ww => by kernel_rfl) (Calls.mono h ?_)
                                          rintro _ w32 ⟨v187, rfl, h⟩
                                          refine ⟨_, rfl, trivial, ?_⟩
                                          refine mreg_run [.sure, .plain] 57 [(1, [], Value.pointer (some ⟨b_, 0, none⟩)), (3, [], Value.pointer l_), (5, [], Value.int .i64 at_2), (6, [], Value.int .i64 i), (7, [], Value.pointer (some ⟨b_1, 0, none⟩)), (8, [], Value.int .i64 out), (9, [], Value.int .i64 k), (189, [], Value.bool (v187 != 0))] (by kernel_rfl) (by kernel_rfl) ?_
                                          refine mreg_end [(1, Value.pointer (some ⟨b_, 0, none⟩)), (3, Value.pointer l_), (5, Value.int .i64 at_2), (6, Value.int .i64 i), (7, Value.pointer (some ⟨b_1, 0, none⟩)), (8, Value.int .i64 out), (9, Value.int .i64 k), (189, Value.bool (v187 != 0))] (by kernel_rfl) (by kernel_rfl) (by kernel_rfl) ?_
                                          exact ⟨[(1, Value.pointer (some ⟨b_, 0, none⟩)), (3, Value.pointer l_), (5, Value.int .i64 at_2), (6, Value.int .i64 i), (7, Value.pointer (some ⟨b_1, 0, none⟩)), (8, Value.int .i64 out), (9, Value.int .i64 k), (189, Value.bool (v187 != 0))], Sub.mk (by kernel_rfl), (v187 != 0), rfl, h⟩
                          · rintro _ w25 ⟨t189, rfl, h⟩
                            unfold F_towpathlaw14_LaneTrips_k7 at h
                            refine wpE_cond (o := (Operand.tmp 189)) (b := t189) (x := c_towpathlaw14_LaneTrips_132) (y := c_towpathlaw14_LaneTrips_136) (by kernel_rfl) (by kernel_rfl) (fun hb => ?_) (fun hb => ?_)
                            · replace h := h.1 hb
                              refine wpE_seq (x := c_towpathlaw14_LaneTrips_133) (y := c_towpathlaw14_LaneTrips_135) (by kernel_rfl) ?_
                              refine wpE_region (id := 29) (ops := r_towpathlaw14_LaneTrips_133) (by kernel_rfl) ?_
                              refine reg_run [.plain] 1 [(2, [], Value.bool false)] (by kernel_rfl) (by kernel_rfl) ?_
                              refine reg_end [(2, Value.bool false)] (by kernel_rfl) (by kernel_rfl) ?_
                              change WpE _ _ c_towpathlaw14_LaneTrips_135 _ _ _
                              refine wpE_ret (by kernel_rfl) ?_
                              repeat (first | refine seqQ_ret ?_ | refine blockQ_ret ?_ | refine loopQ_ret ?_ | refine cutQ_ret ?_)
                              exact retS (rs := [(Go.ResultVar.tmp 2)]) (v := Value.bool false) (by kernel_rfl) (⟨by kernel_rfl, trivial⟩) ⟨false, rfl, h⟩
                            · replace h := h.2 hb
                              refine wpE_skip (by kernel_rfl) ?_
                              change WpE _ _ c_towpathlaw14_LaneTrips_137 _ _ _
                              refine wpE_seq (x := c_towpathlaw14_LaneTrips_138) (y := c_towpathlaw14_LaneTrips_140) (by kernel_rfl) ?_
                              refine wpE_region (id := 30) (ops := r_towpathlaw14_LaneTrips_138) (by kernel_rfl) ?_
                              refine reg_run [.plain, .plain, .plain] 3 [(1, [], Value.pointer (some ⟨b_, 0, none⟩)), (3, [], Value.pointer l_), (5, [], Value.int .i64 at_2), (6, [], Value.int .i64 i), (7, [], Value.pointer (some ⟨b_1, 0, none⟩)), (8, [], Value.int .i64 (IntKind.i64.wrap (out + 1))), (9, [], Value.int .i64 k)] (by kernel_rfl) (by kernel_rfl) ?_
                              refine reg_end [(1, Value.pointer (some ⟨b_, 0, none⟩)), (3, Value.pointer l_), (5, Value.int .i64 at_2), (6, Value.int .i64 i), (7, Value.pointer (some ⟨b_1, 0, none⟩)), (8, Value.int .i64 (IntKind.i64.wrap (out + 1))), (9, Value.int .i64 k)] (by kernel_rfl) (by kernel_rfl) ?_
                              change WpE _ _ c_towpathlaw14_LaneTrips_140 _ _ _
                              refine wpE_seq (x := c_towpathlaw14_LaneTrips_141) (y := c_towpathlaw14_LaneTrips_166) (by kernel_rfl) ?_
                              refine wpE_block (id := 6) (x := c_towpathlaw14_LaneTrips_142) (by kernel_rfl) ?_
                              obtain ⟨I, μ, h0, hr⟩ := h
                              refine wpE_loop (x := c_towpathlaw14_LaneTrips_143) (by kernel_rfl) (fun m l w => ∃ (at_4 : Int) (out2 : Int), l = [(1, Value.pointer (some ⟨b_, 0, none⟩)), (3, Value.pointer l_), (5, Value.int .i64 at_4), (6, Value.int .i64 i), (7, Value.pointer (some ⟨b_1, 0, none⟩)), (8, Value.int .i64 out2), (9, Value.int .i64 k)] ∧ I at_4 out2 w ∧ μ at_4 out2 w = m) (l' := [(1, Value.pointer (some ⟨b_, 0, none⟩)), (3, Value.pointer l_), (5, Value.int .i64 at_2), (6, Value.int .i64 i), (7, Value.pointer (some ⟨b_1, 0, none⟩)), (8, Value.int .i64 (IntKind.i64.wrap (out + 1))), (9, Value.int .i64 k)]) (Sub.mk (by kernel_rfl)) ⟨at_2, (IntKind.i64.wrap (out + 1)), rfl, h0, rfl⟩ ?_
                              rintro _ _ w26 ⟨at_4, out2, rfl, hI, rfl⟩
                              obtain ⟨again_3, again_3_h, h⟩ : ∃ again_3 : Int → Int → World → Prop, (∀ at_4' out2' w', again_3 at_4' out2' w' → I at_4' out2' w' ∧ μ at_4' out2' w' < μ at_4 out2 w26) ∧ F_towpathlaw14_LaneTrips_L8 R b_ l_ k again_1 again_3 at_4 out2 w26 := ⟨_, fun _ _ _ h => h, hr at_4 out2 w26 hI⟩
                              clear h0 hI
                              unfold F_towpathlaw14_LaneTrips_L8 at h
                              refine wpE_seq (x := c_towpathlaw14_LaneTrips_144) (y := c_towpathlaw14_LaneTrips_150) (by kernel_rfl) ?_
                              refine wpE_seq_cut (x := c_towpathlaw14_LaneTrips_145) (y := c_towpathlaw14_LaneTrips_147) (by kernel_rfl) (fun l w => ∃ (t209 : Bool), l = [(1, Value.pointer (some ⟨b_, 0, none⟩)), (3, Value.pointer l_), (5, Value.int .i64 at_4), (6, Value.int .i64 i), (7, Value.pointer (some ⟨b_1, 0, none⟩)), (8, Value.int .i64 out2), (9, Value.int .i64 k), (209, Value.bool t209)] ∧ F_towpathlaw14_LaneTrips_k9 R l_ k again_1 at_4 out2 again_3 t209 w) ?_ ?_
                              · refine wpE_region (id := 31) (ops := r_towpathlaw14_LaneTrips_145) (by kernel_rfl) ?_
                                refine reg_run [.plain, .plain] 2 [(1, [], Value.pointer (some ⟨b_, 0, none⟩)), (3, [], Value.pointer l_), (5, [], Value.int .i64 at_4), (6, [], Value.int .i64 i), (7, [], Value.pointer (some ⟨b_1, 0, none⟩)), (8, [], Value.int .i64 out2), (9, [], Value.int .i64 k), (192, [], Value.int .i64 at_4), (193, [], Value.pointer (some ⟨b_, 5, none⟩))] (by kernel_rfl) (by kernel_rfl) ?_
                                obtain ⟨v194, hc, h⟩ := h
                                refine reg_load1 (t := 22) (a := (Go.Operand.tmp 193)) (b := b_) (o := 5) (ty := 22) (dst := some 194) (by kernel_rfl) (by kernel_rfl) (by kernel_rfl) hc ?_
                                refine reg_run [.plain, .plain, .plain, .plain] 7 [(1, [], Value.pointer (some ⟨b_, 0, none⟩)), (3, [], Value.pointer l_), (5, [], Value.int .i64 at_4), (6, [], Value.int .i64 i), (7, [], Value.pointer (some ⟨b_1, 0, none⟩)), (8, [], Value.int .i64 out2), (9, [], Value.int .i64 k), (197, [], Value.bool (decide (at_4 < ((v194.len : Nat) : Int)))), (198, [(197, true)], Value.pointer (some ⟨b_, 5, none⟩))] (by kernel_rfl) (by kernel_rfl) ?_
                                refine reg_split 197 (decide (at_4 < ((v194.len : Nat) : Int))) (by kernel_rfl) (fun hb => ?_) (fun hb => ?_)
                                · replace h := h.1 hb
                                  refine reg_run [] 7 [(1, [], Value.pointer (some ⟨b_, 0, none⟩)), (3, [], Value.pointer l_), (5, [], Value.int .i64 at_4), (6, [], Value.int .i64 i), (7, [], Value.pointer (some ⟨b_1, 0, none⟩)), (8, [], Value.int .i64 out2), (9, [], Value.int .i64 k), (197, [], Value.bool true), (198, [], Value.pointer (some ⟨b_, 5, none⟩))] (by kernel_rfl) (by kernel_rfl) ?_
                                  refine reg_run [] 7 [(1, [], Value.pointer (some ⟨b_, 0, none⟩)), (3, [], Value.pointer l_), (5, [], Value.int .i64 at_4), (6, [], Value.int .i64 i), (7, [], Value.pointer (some ⟨b_1, 0, none⟩)), (8, [], Value.int .i64 out2), (9, [], Value.int .i64 k), (197, [], Value.bool true), (198, [], Value.pointer (some ⟨b_, 5, none⟩))] (by kernel_rfl) (by kernel_rfl) ?_
                                  obtain ⟨v199, hc, h⟩ := h
                                  refine reg_load1 (t := 22) (a := (Go.Operand.tmp 198)) (b := b_) (o := 5) (ty := 22) (dst := some 199) (by kernel_rfl) (by kernel_rfl) (by kernel_rfl) hc ?_
                                  refine reg_run [.sure] 9 [(1, [], Value.pointer (some ⟨b_, 0, none⟩)), (3, [], Value.pointer l_), (5, [], Value.int .i64 at_4), (6, [], Value.int .i64 i), (7, [], Value.pointer (some ⟨b_1, 0, none⟩)), (8, [], Value.int .i64 out2), (9, [], Value.int .i64 k), (197, [], Value.bool true), (199, [], Value.slice v199.ptr v199.len v199.cap), (200, [], Value.int .i64 at_4)] (by kernel_rfl) (by kernel_rfl) ?_
                                  obtain ⟨hp_358, h⟩ := h
                                  refine reg_conv [(1, [], Value.pointer (some ⟨b_, 0, none⟩)), (3, [], Value.pointer l_), (5, [], Value.int .i64 at_4), (6, [], Value.int .i64 i), (7, [], Value.pointer (some ⟨b_1, 0, none⟩)), (8, [], Value.int .i64 out2), (9, [], Value.int .i64 k), (197, [], Value.bool true), (199, [], Value.slice (some ⟨(pblk v199.ptr), (poff v199.ptr), none⟩) v199.len v199.cap), (200, [], Value.int .i64 at_4)] (congrArg (fun pp => ([(1, [], Value.pointer (some ⟨b_, 0, none⟩)), (3, [], Value.pointer l_), (5, [], Value.int .i64 at_4), (6, [], Value.int .i64 i), (7, [], Value.pointer (some ⟨b_1, 0, none⟩)), (8, [], Value.int .i64 out2), (9, [], Value.int .i64 k), (197, [], Value.bool true), (199, [], Value.slice pp v199.len v199.cap), (200, [], Value.int .i64 at_4)] : GEnv)) hp_358) ?_
                                  obtain ⟨h0, h1, h⟩ := h
                                  refine reg_indexS1 (t := 22) (e := 5) (x := (Go.Operand.tmp 199)) (ix := (Go.Operand.tmp 200)) (b := (pblk v199.ptr)) (o := (poff v199.ptr)) (l := v199.len) (c := v199.cap) (k := .i64) (j := at_4) (ty := 0) (dst := some 201) (by kernel_rfl) (by kernel_rfl) (by kernel_rfl) (by kernel_rfl) (by kernel_rfl) h0 h1 ?_
                                  refine reg_run [] 10 [(1, [], Value.pointer (some ⟨b_, 0, none⟩)), (3, [], Value.pointer l_), (5, [], Value.int .i64 at_4), (6, [], Value.int .i64 i), (7, [], Value.pointer (some ⟨b_1, 0, none⟩)), (8, [], Value.int .i64 out2), (9, [], Value.int .i64 k), (197, [], Value.bool true), (201, [], Value.pointer (some ⟨(pblk v199.ptr), (poff v199.ptr) + at_4.toNat, none⟩))] (by kernel_rfl) (by kernel_rfl) ?_
                                  obtain ⟨v202, hc, h⟩ := h
                                  refine reg_load1 (t := 5) (a := (Go.Operand.tmp 201)) (b := (pblk v199.ptr)) (o := ((poff v199.ptr) + at_4.toNat)) (ty := 5) (dst := some 202) (by kernel_rfl) (by kernel_rfl) (by kernel_rfl) hc ?_
                                  refine reg_run [.sure, .sure, .plain, .plain, .plain, .plain, .pick] 18 [(1, [], Value.pointer (some ⟨b_, 0, none⟩)), (3, [], Value.pointer l_), (5, [], Value.int .i64 at_4), (6, [], Value.int .i64 i), (7, [], Value.pointer (some ⟨b_1, 0, none⟩)), (8, [], Value.int .i64 out2), (9, [], Value.int .i64 k), (209, [], Value.bool (((Int.tmod v202 3) == 0) && (decide (out2 > 0))))] (by kernel_rfl) (by kernel_rfl) ?_
                                  refine reg_end [(1, Value.pointer (some ⟨b_, 0, none⟩)), (3, Value.pointer l_), (5, Value.int .i64 at_4), (6, Value.int .i64 i), (7, Value.pointer (some ⟨b_1, 0, none⟩)), (8, Value.int .i64 out2), (9, Value.int .i64 k), (209, Value.bool (((Int.tmod v202 3) == 0) && (decide (out2 > 0))))] (by kernel_rfl) (by kernel_rfl) ?_
                                  exact ⟨[(1, Value.pointer (some ⟨b_, 0, none⟩)), (3, Value.pointer l_), (5, Value.int .i64 at_4), (6, Value.int .i64 i), (7, Value.pointer (some ⟨b_1, 0, none⟩)), (8, Value.int .i64 out2), (9, Value.int .i64 k), (209, Value.bool (((Int.tmod v202 3) == 0) && (decide (out2 > 0))))], Sub.mk (by kernel_rfl), (((Int.tmod v202 3) == 0) && (decide (out2 > 0))), rfl, h⟩
                                · replace h := h.2 hb
                                  refine reg_run [] 7 [(1, [], Value.pointer (some ⟨b_, 0, none⟩)), (3, [], Value.pointer l_), (5, [], Value.int .i64 at_4), (6, [], Value.int .i64 i), (7, [], Value.pointer (some ⟨b_1, 0, none⟩)), (8, [], Value.int .i64 out2), (9, [], Value.int .i64 k), (197, [], Value.bool false), (198, [], undef)] (by kernel_rfl) (by kernel_rfl) ?_
                                  refine reg_run [.skip, .skip, .skip, .skip, .skip, .skip, .plain, .plain, .skip, .skip, .plain] 18 [(1, [], Value.pointer (some ⟨b_, 0, none⟩)), (3, [], Value.pointer l_), (5, [], Value.int .i64 at_4), (6, [], Value.int .i64 i), (7, [], Value.pointer (some ⟨b_1, 0, none⟩)), (8, [], Value.int .i64 out2), (9, [], Value.int .i64 k), (209, [], Value.bool false)] (by kernel_rfl) (by kernel_rfl) ?_
                                  refine reg_end [(1, Value.pointer (some ⟨b_, 0, none⟩)), (3, Value.pointer l_), (5, Value.int .i64 at_4), (6, Value.int .i64 i), (7, Value.pointer (some ⟨b_1, 0, none⟩)), (8, Value.int .i64 out2), (9, Value.int .i64 k), (209, Value.bool false)] (by kernel_rfl) (by kernel_rfl) ?_
                                  exact ⟨[(1, Value.pointer (some ⟨b_, 0, none⟩)), (3, Value.pointer l_), (5, Value.int .i64 at_4), (6, Value.int .i64 i), (7, Value.pointer (some ⟨b_1, 0, none⟩)), (8, Value.int .i64 out2), (9, Value.int .i64 k), (209, Value.bool false)], Sub.mk (by kernel_rfl), false, rfl, h⟩
                              · rintro _ w27 ⟨t209, rfl, h⟩
                                unfold F_towpathlaw14_LaneTrips_k9 at h
                                refine wpE_cond (o := (Operand.tmp 209)) (b := t209) (x := c_towpathlaw14_LaneTrips_148) (y := c_towpathlaw14_LaneTrips_149) (by kernel_rfl) (by kernel_rfl) (fun hb => ?_) (fun hb => ?_)
                                · replace h := h.1 hb
                                  refine wpE_skip (by kernel_rfl) ?_
                                  change WpE _ _ c_towpathlaw14_LaneTrips_150 _ _ _
                                  refine wpE_block (id := 7) (x := c_towpathlaw14_LaneTrips_151) (by kernel_rfl) ?_
                                  refine wpE_seq (x := c_towpathlaw14_LaneTrips_152) (y := c_towpathlaw14_LaneTrips_161) (by kernel_rfl) ?_
                                  refine wpE_seq (x := c_towpathlaw14_LaneTrips_153) (y := c_towpathlaw14_LaneTrips_155) (by kernel_rfl) ?_
                                  refine wpE_region (id := 32) (ops := r_towpathlaw14_LaneTrips_153) (by kernel_rfl) ?_
                                  refine reg_run [.plain] 1 [(1, [], Value.pointer (some ⟨b_, 0, none⟩)), (3, [], Value.pointer l_), (5, [], Value.int .i64 at_4), (6, [], Value.int .i64 i), (7, [], Value.pointer (some ⟨b_1, 0, none⟩)), (8, [], Value.int .i64 out2), (9, [], Value.int .i64 k), (210, [], Value.pointer l_)] (by kernel_rfl) (by kernel_rfl) ?_
                                  refine reg_enter (op := (Go.Op.call (Go.Call.mk (Go.Callee.value (Go.Operand.func 30)) #[(Go.Operand.tmp 210)] #[38]))) (ty := 28) (dst := some 211) 30 #[Value.pointer l_] (by kernel_rfl) (fun ww => by kernel_rfl) (Calls.mono h ?_)
                                  rintro _ w28 ⟨v211, rfl, h⟩
                                  refine ⟨_, rfl, ?_⟩
                                  refine reg_run [.plain] 3 [(1, [], Value.pointer (some ⟨b_, 0, none⟩)), (3, [], Value.pointer l_), (5, [], Value.int .i64 at_4), (6, [], Value.int .i64 i), (7, [], Value.pointer (some ⟨b_1, 0, none⟩)), (8, [], Value.int .i64 out2), (9, [], Value.int .i64 k), (212, [], Value.bool (v211 != 0))] (by kernel_rfl) (by kernel_rfl) ?_
                                  refine reg_end [(1, Value.pointer (some ⟨b_, 0, none⟩)), (3, Value.pointer l_), (5, Value.int .i64 at_4), (6, Value.int .i64 i), (7, Value.pointer (some ⟨b_1, 0, none⟩)), (8, Value.int .i64 out2), (9, Value.int .i64 k), (212, Value.bool (v211 != 0))] (by kernel_rfl) (by kernel_rfl) ?_
                                  change WpE _ _ c_towpathlaw14_LaneTrips_155 _ _ _
                                  refine wpE_cond (o := (Operand.tmp 212)) (b := (v211 != 0)) (x := c_towpathlaw14_LaneTrips_156) (y := c_towpathlaw14_LaneTrips_160) (by kernel_rfl) (by kernel_rfl) (fun hb => ?_) (fun hb => ?_)
                                  · replace h := h.1 hb
                                    refine wpE_seq (x := c_towpathlaw14_LaneTrips_157) (y := c_towpathlaw14_LaneTrips_159) (by kernel_rfl) ?_
                                    refine wpE_region (id := 33) (ops := r_towpathlaw14_LaneTrips_157) (by kernel_rfl) ?_
                                    refine reg_run [.plain] 1 [(2, [], Value.bool false)] (by kernel_rfl) (by kernel_rfl) ?_
                                    refine reg_end [(2, Value.bool false)] (by kernel_rfl) (by kernel_rfl) ?_
                                    change WpE _ _ c_towpathlaw14_LaneTrips_159 _ _ _
                                    refine wpE_ret (by kernel_rfl) ?_
                                    repeat (first | refine seqQ_ret ?_ | refine blockQ_ret ?_ | refine loopQ_ret ?_ | refine cutQ_ret ?_)
                                    exact retS (rs := [(Go.ResultVar.tmp 2)]) (v := Value.bool false) (by kernel_rfl) (⟨by kernel_rfl, trivial⟩) ⟨false, rfl, h⟩
                                  · replace h := h.2 hb
                                    refine wpE_skip (by kernel_rfl) ?_
                                    change WpE _ _ c_towpathlaw14_LaneTrips_161 _ _ _
                                    refine wpE_seq (x := c_towpathlaw14_LaneTrips_162) (y := c_towpathlaw14_LaneTrips_164) (by kernel_rfl) ?_
                                    refine wpE_region (id := 34) (ops := r_towpathlaw14_LaneTrips_162) (by kernel_rfl) ?_
                                    refine reg_run [.plain, .plain, .plain] 3 [(1, [], Value.pointer (some ⟨b_, 0, none⟩)), (3, [], Value.pointer l_), (5, [], Value.int .i64 at_4), (6, [], Value.int .i64 i), (7, [], Value.pointer (some ⟨b_1, 0, none⟩)), (8, [], Value.int .i64 (IntKind.i64.wrap (out2 - 1))), (9, [], Value.int .i64 k)] (by kernel_rfl) (by kernel_rfl) ?_
                                    refine reg_end [(1, Value.pointer (some ⟨b_, 0, none⟩)), (3, Value.pointer l_), (5, Value.int .i64 at_4), (6, Value.int .i64 i), (7, Value.pointer (some ⟨b_1, 0, none⟩)), (8, Value.int .i64 (IntKind.i64.wrap (out2 - 1))), (9, Value.int .i64 k)] (by kernel_rfl) (by kernel_rfl) ?_
                                    change WpE _ _ c_towpathlaw14_LaneTrips_164 _ _ _
                                    refine wpE_region (id := 35) (ops := r_towpathlaw14_LaneTrips_164) (by kernel_rfl) ?_
                                    refine reg_run [.plain, .plain, .plain] 3 [(1, [], Value.pointer (some ⟨b_, 0, none⟩)), (3, [], Value.pointer l_), (5, [], Value.int .i64 (IntKind.i64.wrap (at_4 + 1))), (6, [], Value.int .i64 i), (7, [], Value.pointer (some ⟨b_1, 0, none⟩)), (8, [], Value.int .i64 (IntKind.i64.wrap (out2 - 1))), (9, [], Value.int .i64 k)] (by kernel_rfl) (by kernel_rfl) ?_
                                    refine reg_end [(1, Value.pointer (some ⟨b_, 0, none⟩)), (3, Value.pointer l_), (5, Value.int .i64 (IntKind.i64.wrap (at_4 + 1))), (6, Value.int .i64 i), (7, Value.pointer (some ⟨b_1, 0, none⟩)), (8, Value.int .i64 (IntKind.i64.wrap (out2 - 1))), (9, Value.int .i64 k)] (by kernel_rfl) (by kernel_rfl) ?_
                                    have hb_ := again_3_h _ _ _ h
                                    exact ⟨_, hb_.2, [(1, Value.pointer (some ⟨b_, 0, none⟩)), (3, Value.pointer l_), (5, Value.int .i64 (IntKind.i64.wrap (at_4 + 1))), (6, Value.int .i64 i), (7, Value.pointer (some ⟨b_1, 0, none⟩)), (8, Value.int .i64 (IntKind.i64.wrap (out2 - 1))), (9, Value.int .i64 k)], Sub.mk (by kernel_rfl), (IntKind.i64.wrap (at_4 + 1)), (IntKind.i64.wrap (out2 - 1)), rfl, hb_.1, rfl⟩
                                · replace h := h.2 hb
                                  refine wpE_exit (id := 6) (by kernel_rfl) ?_
                                  change WpE _ _ c_towpathlaw14_LaneTrips_166 _ _ _
                                  refine wpE_region (id := 36) (ops := r_towpathlaw14_LaneTrips_166) (by kernel_rfl) ?_
                                  refine reg_run [.plain, .plain, .plain] 3 [(1, [], Value.pointer (some ⟨b_, 0, none⟩)), (3, [], Value.pointer l_), (5, [], Value.int .i64 (IntKind.i64.wrap (at_4 + 1))), (6, [], Value.int .i64 i), (7, [], Value.pointer (some ⟨b_1, 0, none⟩)), (8, [], Value.int .i64 out2), (9, [], Value.int .i64 k)] (by kernel_rfl) (by kernel_rfl) ?_
                                  refine reg_end [(1, Value.pointer (some ⟨b_, 0, none⟩)), (3, Value.pointer l_), (5, Value.int .i64 (IntKind.i64.wrap (at_4 + 1))), (6, Value.int .i64 i), (7, Value.pointer (some ⟨b_1, 0, none⟩)), (8, Value.int .i64 out2), (9, Value.int .i64 k)] (by kernel_rfl) (by kernel_rfl) ?_
                                  exact ⟨[(1, Value.pointer (some ⟨b_, 0, none⟩)), (3, Value.pointer l_), (5, Value.int .i64 (IntKind.i64.wrap (at_4 + 1))), (6, Value.int .i64 i), (7, Value.pointer (some ⟨b_1, 0, none⟩)), (8, Value.int .i64 out2), (9, Value.int .i64 k)], Sub.mk (by kernel_rfl), (IntKind.i64.wrap (at_4 + 1)), out2, rfl, h⟩
                    · rintro _ w15 ⟨at_3, out1, rfl, h⟩
                      unfold F_towpathlaw14_LaneTrips_k4 at h
                      refine wpE_region (id := 19) (ops := r_towpathlaw14_LaneTrips_168) (by kernel_rfl) ?_
                      refine reg_run [.plain, .plain, .plain] 3 [(1, [], Value.pointer (some ⟨b_, 0, none⟩)), (3, [], Value.pointer l_), (5, [], Value.int .i64 at_3), (6, [], Value.int .i64 i), (7, [], Value.pointer (some ⟨b_1, 0, none⟩)), (8, [], Value.int .i64 out1), (9, [], Value.int .i64 (IntKind.i64.wrap (k + 1)))] (by kernel_rfl) (by kernel_rfl) ?_
                      refine reg_end [(1, Value.pointer (some ⟨b_, 0, none⟩)), (3, Value.pointer l_), (5, Value.int .i64 at_3), (6, Value.int .i64 i), (7, Value.pointer (some ⟨b_1, 0, none⟩)), (8, Value.int .i64 out1), (9, Value.int .i64 (IntKind.i64.wrap (k + 1)))] (by kernel_rfl) (by kernel_rfl) ?_
                      have hb_ := again_1_h _ _ _ _ h
                      exact ⟨_, hb_.2, [(1, Value.pointer (some ⟨b_, 0, none⟩)), (3, Value.pointer l_), (5, Value.int .i64 at_3), (6, Value.int .i64 i), (7, Value.pointer (some ⟨b_1, 0, none⟩)), (8, Value.int .i64 out1), (9, Value.int .i64 (IntKind.i64.wrap (k + 1)))], Sub.mk (by kernel_rfl), at_3, out1, (IntKind.i64.wrap (k + 1)), rfl, hb_.1, rfl⟩
                  · replace h := h.2 hb
                    refine wpE_exit (id := 2) (by kernel_rfl) ?_
                    change WpE _ _ c_towpathlaw14_LaneTrips_170 _ _ _
                    refine wpE_seq (x := c_towpathlaw14_LaneTrips_171) (y := c_towpathlaw14_LaneTrips_173) (by kernel_rfl) ?_
                    refine wpE_region (id := 37) (ops := r_towpathlaw14_LaneTrips_171) (by kernel_rfl) ?_
                    refine reg_run [.plain] 1 [(1, [], Value.pointer (some ⟨b_, 0, none⟩)), (3, [], Value.pointer l_), (5, [], Value.int .i64 at_2), (6, [], Value.int .i64 i), (7, [], Value.pointer (some ⟨b_1, 0, none⟩)), (8, [], Value.int .i64 out), (220, [], Value.pointer l_)] (by kernel_rfl) (by kernel_rfl) ?_
                    refine reg_enter (op := (Go.Op.call (Go.Call.mk (Go.Callee.value (Go.Operand.func 26)) #[(Go.Operand.tmp 220)] #[38]))) (ty := 66) (dst := some 221) 26 #[Value.pointer l_] (by kernel_rfl) (fun ww => by kernel_rfl) (Calls.mono h ?_)
                    rintro _ w33 ⟨v221, v221_1, more, rfl, h⟩
                    refine ⟨_, rfl, ?_⟩
                    refine reg_run [.plain, .plain, .plain, .plain] 6 [(1, [], Value.pointer (some ⟨b_, 0, none⟩)), (3, [], Value.pointer l_), (5, [], Value.int .i64 at_2), (6, [], Value.int .i64 i), (7, [], Value.pointer (some ⟨b_1, 0, none⟩)), (8, [], Value.int .i64 out), (222, [], Value.int .i64 v221), (223, [], Value.agg #[Value.int .u8 v221_1.Kind, Value.int .i64 v221_1.From, Value.int .i64 v221_1.Number, Value.string v221_1.Write.Key, Value.string v221_1.Write.Val, Value.bool v221_1.Write.Drop, Value.string v221_1.Key, Value.string v221_1.End, Value.slice v221_1.Beyond.ptr v221_1.Beyond.len v221_1.Beyond.cap]), (224, [], Value.bool more)] (by kernel_rfl) (by kernel_rfl) ?_
                    refine reg_new (op := (Go.Op.alloc 65)) (ty := 0) (dst := some 18) (fun bb => Value.pointer (some ⟨bb, 0, none⟩)) (Obj.cells ([Value.int .u8 0, Value.int .i64 0, Value.int .i64 0, Value.string ByteArray.empty, Value.string ByteArray.empty, Value.bool false, Value.string ByteArray.empty, Value.string ByteArray.empty, Value.slice none 0 0]).toArray ty_api_Req (0, 0)) (by kernel_rfl) (by kernel_rfl) (fun b_3 w34 hb hw => ?_)
                    replace h := h b_3 w34 hb hw
                    clear hb hw
                    refine reg_run [.plain] 8 [(1, [], Value.pointer (some ⟨b_, 0, none⟩)), (3, [], Value.pointer l_), (5, [], Value.int .i64 at_2), (6, [], Value.int .i64 i), (7, [], Value.pointer (some ⟨b_1, 0, none⟩)), (8, [], Value.int .i64 out), (18, [], Value.pointer (some ⟨b_3, 0, none⟩)), (223, [], Value.agg #[Value.int .u8 v221_1.Kind, Value.int .i64 v221_1.From, Value.int .i64 v221_1.Number, Value.string v221_1.Write.Key, Value.string v221_1.Write.Val, Value.bool v221_1.Write.Drop, Value.string v221_1.Key, Value.string v221_1.End, Value.slice v221_1.Beyond.ptr v221_1.Beyond.len v221_1.Beyond.cap]), (224, [], Value.bool more)] (by kernel_rfl) (by kernel_rfl) ?_
                    obtain ⟨hc, h⟩ := h
                    refine reg_store (t := 65) (a := (Go.Operand.tmp 18)) (x := (Go.Operand.tmp 223)) (b := b_3) (o := 0) (ty := 0) (dst := none) [Value.int .u8 v221_1.Kind, Value.int .i64 v221_1.From, Value.int .i64 v221_1.Number, Value.string v221_1.Write.Key, Value.string v221_1.Write.Val, Value.bool v221_1.Write.Drop, Value.string v221_1.Key, Value.string v221_1.End, Value.slice v221_1.Beyond.ptr v221_1.Beyond.len v221_1.Beyond.cap] (by kernel_rfl) (by kernel_rfl) (by kernel_rfl) (k := 9) (by kernel_rfl) (by kernel_rfl) (by kernel_rfl) hc (fun w35 hw => ?_)
                    replace h := h w35 hw
                    clear hw
                    refine reg_run [.plain] 10 [(1, [], Value.pointer (some ⟨b_, 0, none⟩)), (3, [], Value.pointer l_), (5, [], Value.int .i64 at_2), (6, [], Value.int .i64 i), (7, [], Value.pointer (some ⟨b_1, 0, none⟩)), (8, [], Value.int .i64 out), (19, [], Value.bool more)] (by kernel_rfl) (by kernel_rfl) ?_
                    refine reg_end [(1, Value.pointer (some ⟨b_, 0, none⟩)), (3, Value.pointer l_), (5, Value.int .i64 at_2), (6, Value.int .i64 i), (7, Value.pointer (some ⟨b_1, 0, none⟩)), (8, Value.int .i64 out), (19, Value.bool more)] (by kernel_rfl) (by kernel_rfl) ?_
                    change WpE _ _ c_towpathlaw14_LaneTrips_173 _ _ _
                    refine wpE_seq (x := c_towpathlaw14_LaneTrips_174) (y := c_towpathlaw14_LaneTrips_183) (by kernel_rfl) ?_
                    refine wpE_seq_cut (x := c_towpathlaw14_LaneTrips_175) (y := c_towpathlaw14_LaneTrips_177) (by kernel_rfl) (fun l w => ∃ (t230 : Bool), l = [(1, Value.pointer (some ⟨b_, 0, none⟩)), (3, Value.pointer l_), (5, Value.int .i64 at_2), (6, Value.int .i64 i), (7, Value.pointer (some ⟨b_1, 0, none⟩)), (8, Value.int .i64 out), (230, Value.bool t230)] ∧ F_towpathlaw14_LaneTrips_k10 R l_ i again_ b_1 at_2 out t230 w) ?_ ?_
                    · refine wpE_region (id := 38) (ops := r_towpathlaw14_LaneTrips_175) (by kernel_rfl) ?_
                      refine reg_run [.plain, .plain, .plain] 3 [(1, [], Value.pointer (some ⟨b_, 0, none⟩)), (3, [], Value.pointer l_), (5, [], Value.int .i64 at_2), (6, [], Value.int .i64 i), (7, [], Value.pointer (some ⟨b_1, 0, none⟩)), (8, [], Value.int .i64 out), (226, [], Value.bool more), (227, [(226, false)], Value.pointer l_)] (by kernel_rfl) (by kernel_rfl) ?_
                      refine reg_split 226 more (by kernel_rfl) (fun hb => ?_) (fun hb => ?_)
                      · replace h := h.1 hb
                        refine reg_run [] 3 [(1, [], Value.pointer (some ⟨b_, 0, none⟩)), (3, [], Value.pointer l_), (5, [], Value.int .i64 at_2), (6, [], Value.int .i64 i), (7, [], Value.pointer (some ⟨b_1, 0, none⟩)), (8, [], Value.int .i64 out), (226, [], Value.bool true), (227, [], undef)] (by kernel_rfl) (by kernel_rfl) ?_
                        refine reg_run [.skip, .skip, .plain] 6 [(1, [], Value.pointer (some ⟨b_, 0, none⟩)), (3, [], Value.pointer l_), (5, [], Value.int .i64 at_2), (6, [], Value.int .i64 i), (7, [], Value.pointer (some ⟨b_1, 0, none⟩)), (8, [], Value.int .i64 out), (230, [], Value.bool true)] (by kernel_rfl) (by kernel_rfl) ?_
                        refine reg_end [(1, Value.pointer (some ⟨b_, 0, none⟩)), (3, Value.pointer l_), (5, Value.int .i64 at_2), (6, Value.int .i64 i), (7, Value.pointer (some ⟨b_1, 0, none⟩)), (8, Value.int .i64 out), (230, Value.bool true)] (by kernel_rfl) (by kernel_rfl) ?_
                        exact ⟨[(1, Value.pointer (some ⟨b_, 0, none⟩)), (3, Value.pointer l_), (5, Value.int .i64 at_2), (6, Value.int .i64 i), (7, Value.pointer (some ⟨b_1, 0, none⟩)), (8, Value.int .i64 out), (230, Value.bool true)], Sub.mk (by kernel_rfl), true, rfl, h⟩
                      · replace h := h.2 hb
                        refine reg_run [] 3 [(1, [], Value.pointer (some ⟨b_, 0, none⟩)), (3, [], Value.pointer l_), (5, [], Value.int .i64 at_2), (6, [], Value.int .i64 i), (7, [], Value.pointer (some ⟨b_1, 0, none⟩)), (8, [], Value.int .i64 out), (226, [], Value.bool false), (227, [], Value.pointer l_)] (by kernel_rfl) (by kernel_rfl) ?_
                        refine reg_run [] 3 [(1, [], Value.pointer (some ⟨b_, 0, none⟩)), (3, [], Value.pointer l_), (5, [], Value.int .i64 at_2), (6, [], Value.int .i64 i), (7, [], Value.pointer (some ⟨b_1, 0, none⟩)), (8, [], Value.int .i64 out), (226, [], Value.bool false), (227, [], Value.pointer l_)] (by kernel_rfl) (by kernel_rfl) ?_
                        refine reg_enter (op := (Go.Op.call (Go.Call.mk (Go.Callee.value (Go.Operand.func 29)) #[(Go.Operand.tmp 227)] #[38]))) (ty := 28) (dst := some 228) 29 #[Value.pointer l_] (by kernel_rfl) (fun ww => by kernel_rfl) (Calls.mono h ?_)
                        rintro _ w47 ⟨v228, rfl, h⟩
                        refine ⟨_, rfl, ?_⟩
                        refine reg_run [.sure, .plain] 6 [(1, [], Value.pointer (some ⟨b_, 0, none⟩)), (3, [], Value.pointer l_), (5, [], Value.int .i64 at_2), (6, [], Value.int .i64 i), (7, [], Value.pointer (some ⟨b_1, 0, none⟩)), (8, [], Value.int .i64 out), (230, [], Value.bool (v228 != 9))] (by kernel_rfl) (by kernel_rfl) ?_
                        refine reg_end [(1, Value.pointer (some ⟨b_, 0, none⟩)), (3, Value.pointer l_), (5, Value.int .i64 at_2), (6, Value.int .i64 i), (7, Value.pointer (some ⟨b_1, 0, none⟩)), (8, Value.int .i64 out), (230, Value.bool (v228 != 9))] (by kernel_rfl) (by kernel_rfl) ?_
                        exact ⟨[(1, Value.pointer (some ⟨b_, 0, none⟩)), (3, Value.pointer l_), (5, Value.int .i64 at_2), (6, Value.int .i64 i), (7, Value.pointer (some ⟨b_1, 0, none⟩)), (8, Value.int .i64 out), (230, Value.bool (v228 != 9))], Sub.mk (by kernel_rfl), (v228 != 9), rfl, h⟩
                    · rintro _ w36 ⟨t230, rfl, h⟩
                      unfold F_towpathlaw14_LaneTrips_k10 at h
                      refine wpE_cond (o := (Operand.tmp 230)) (b := t230) (x := c_towpathlaw14_LaneTrips_178) (y := c_towpathlaw14_LaneTrips_182) (by kernel_rfl) (by kernel_rfl) (fun hb => ?_) (fun hb => ?_)
                      · replace h := h.1 hb
                        refine wpE_seq (x := c_towpathlaw14_LaneTrips_179) (y := c_towpathlaw14_LaneTrips_181) (by kernel_rfl) ?_
                        refine wpE_region (id := 39) (ops := r_towpathlaw14_LaneTrips_179) (by kernel_rfl) ?_
                        refine reg_run [.plain] 1 [(2, [], Value.bool false)] (by kernel_rfl) (by kernel_rfl) ?_
                        refine reg_end [(2, Value.bool false)] (by kernel_rfl) (by kernel_rfl) ?_
                        change WpE _ _ c_towpathlaw14_LaneTrips_181 _ _ _
                        refine wpE_ret (by kernel_rfl) ?_
                        repeat (first | refine seqQ_ret ?_ | refine blockQ_ret ?_ | refine loopQ_ret ?_ | refine cutQ_ret ?_)
                        exact retS (rs := [(Go.ResultVar.tmp 2)]) (v := Value.bool false) (by kernel_rfl) (⟨by kernel_rfl, trivial⟩) ⟨false, rfl, h⟩
                      · replace h := h.2 hb
                        refine wpE_skip (by kernel_rfl) ?_
                        change WpE _ _ c_towpathlaw14_LaneTrips_183 _ _ _
                        refine wpE_seq (x := c_towpathlaw14_LaneTrips_184) (y := c_towpathlaw14_LaneTrips_209) (by kernel_rfl) ?_
                        refine wpE_block (id := 8) (x := c_towpathlaw14_LaneTrips_185) (by kernel_rfl) ?_
                        obtain ⟨I, μ, h0, hr⟩ := h
                        refine wpE_loop (x := c_towpathlaw14_LaneTrips_186) (by kernel_rfl) (fun m l w => ∃ (out3 : Int), l = [(1, Value.pointer (some ⟨b_, 0, none⟩)), (3, Value.pointer l_), (5, Value.int .i64 at_2), (6, Value.int .i64 i), (7, Value.pointer (some ⟨b_1, 0, none⟩)), (8, Value.int .i64 out3)] ∧ I out3 w ∧ μ out3 w = m) (l' := [(1, Value.pointer (some ⟨b_, 0, none⟩)), (3, Value.pointer l_), (5, Value.int .i64 at_2), (6, Value.int .i64 i), (7, Value.pointer (some ⟨b_1, 0, none⟩)), (8, Value.int .i64 out)]) (Sub.mk (by kernel_rfl)) ⟨out, rfl, h0, rfl⟩ ?_
                        rintro _ _ w37 ⟨out3, rfl, hI, rfl⟩
                        obtain ⟨again_4, again_4_h, h⟩ : ∃ again_4 : Int → World → Prop, (∀ out3' w', again_4 out3' w' → I out3' w' ∧ μ out3' w' < μ out3 w37) ∧ F_towpathlaw14_LaneTrips_L11 R l_ i again_ b_1 at_2 again_4 out3 w37 := ⟨_, fun _ _ h => h, hr out3 w37 hI⟩
                        clear h0 hI
                        unfold F_towpathlaw14_LaneTrips_L11 at h
                        refine wpE_seq (x := c_towpathlaw14_LaneTrips_187) (y := c_towpathlaw14_LaneTrips_193) (by kernel_rfl) ?_
                        refine wpE_seq (x := c_towpathlaw14_LaneTrips_188) (y := c_towpathlaw14_LaneTrips_190) (by kernel_rfl) ?_
                        refine wpE_region (id := 40) (ops := r_towpathlaw14_LaneTrips_188) (by kernel_rfl) ?_
                        refine reg_run [.plain, .plain] 2 [(1, [], Value.pointer (some ⟨b_, 0, none⟩)), (3, [], Value.pointer l_), (5, [], Value.int .i64 at_2), (6, [], Value.int .i64 i), (7, [], Value.pointer (some ⟨b_1, 0, none⟩)), (8, [], Value.int .i64 out3), (232, [], Value.bool (decide (out3 > 0)))] (by kernel_rfl) (by kernel_rfl) ?_
                        refine reg_end [(1, Value.pointer (some ⟨b_, 0, none⟩)), (3, Value.pointer l_), (5, Value.int .i64 at_2), (6, Value.int .i64 i), (7, Value.pointer (some ⟨b_1, 0, none⟩)), (8, Value.int .i64 out3), (232, Value.bool (decide (out3 > 0)))] (by kernel_rfl) (by kernel_rfl) ?_
                        change WpE _ _ c_towpathlaw14_LaneTrips_190 _ _ _
                        refine wpE_cond (o := (Operand.tmp 232)) (b := (decide (out3 > 0))) (x := c_towpathlaw14_LaneTrips_191) (y := c_towpathlaw14_LaneTrips_192) (by kernel_rfl) (by kernel_rfl) (fun hb => ?_) (fun hb => ?_)
                        · replace h := h.1 hb
                          refine wpE_skip (by kernel_rfl) ?_
                          change WpE _ _ c_towpathlaw14_LaneTrips_193 _ _ _
                          refine wpE_seq (x := c_towpathlaw14_LaneTrips_194) (y := c_towpathlaw14_LaneTrips_207) (by kernel_rfl) ?_
                          refine wpE_block (id := 9) (x := c_towpathlaw14_LaneTrips_195) (by kernel_rfl) ?_
                          refine wpE_seq (x := c_towpathlaw14_LaneTrips_196) (y := c_towpathlaw14_LaneTrips_198) (by kernel_rfl) ?_
                          refine wpE_region (id := 42) (ops := r_towpathlaw14_LaneTrips_196) (by kernel_rfl) ?_
                          refine reg_run [.plain] 1 [(1, [], Value.pointer (some ⟨b_, 0, none⟩)), (3, [], Value.pointer l_), (5, [], Value.int .i64 at_2), (6, [], Value.int .i64 i), (7, [], Value.pointer (some ⟨b_1, 0, none⟩)), (8, [], Value.int .i64 out3), (236, [], Value.pointer l_)] (by kernel_rfl) (by kernel_rfl) ?_
                          refine reg_enter (op := (Go.Op.call (Go.Call.mk (Go.Callee.value (Go.Operand.func 31)) #[(Go.Operand.tmp 236)] #[38]))) (ty := 68) (dst := some 237) 31 #[Value.pointer l_] (by kernel_rfl) (fun ww => by kernel_rfl) (Calls.mono h ?_)
                          rintro _ w38 ⟨v237, g, rfl, h⟩
                          refine ⟨_, rfl, ?_⟩
                          refine reg_run [.plain, .plain, .plain, .plain, .plain] 7 [(1, [], Value.pointer (some ⟨b_, 0, none⟩)), (3, [], Value.pointer l_), (5, [], Value.int .i64 at_2), (6, [], Value.int .i64 i), (7, [], Value.pointer (some ⟨b_1, 0, none⟩)), (8, [], Value.int .i64 out3), (21, [], Value.int .i64 g)] (by kernel_rfl) (by kernel_rfl) ?_
                          refine reg_end [(1, Value.pointer (some ⟨b_, 0, none⟩)), (3, Value.pointer l_), (5, Value.int .i64 at_2), (6, Value.int .i64 i), (7, Value.pointer (some ⟨b_1, 0, none⟩)), (8, Value.int .i64 out3), (21, Value.int .i64 g)] (by kernel_rfl) (by kernel_rfl) ?_
                          change WpE _ _ c_towpathlaw14_LaneTrips_198 _ _ _
                          refine wpE_seq_cut (x := c_towpathlaw14_LaneTrips_199) (y := c_towpathlaw14_LaneTrips_201) (by kernel_rfl) (fun l w => ∃ (t250 : Bool), l = [(1, Value.pointer (some ⟨b_, 0, none⟩)), (3, Value.pointer l_), (5, Value.int .i64 at_2), (6, Value.int .i64 i), (7, Value.pointer (some ⟨b_1, 0, none⟩)), (8, Value.int .i64 out3), (250, Value.bool t250)] ∧ F_towpathlaw14_LaneTrips_k12 R out3 again_4 t250 w) ?_ ?_
                          · refine wpE_region (id := 43) (ops := r_towpathlaw14_LaneTrips_199) (by kernel_rfl) ?_
                            refine reg_run [.plain] 1 [(1, [], Value.pointer (some ⟨b_, 0, none⟩)), (3, [], Value.pointer l_), (5, [], Value.int .i64 at_2), (6, [], Value.int .i64 i), (7, [], Value.pointer (some ⟨b_1, 0, none⟩)), (8, [], Value.int .i64 out3), (21, [], Value.int .i64 g), (240, [], Value.pointer l_)] (by kernel_rfl) (by kernel_rfl) ?_
                            refine reg_enter (op := (Go.Op.call (Go.Call.mk (Go.Callee.value (Go.Operand.func 28)) #[(Go.Operand.tmp 240)] #[38]))) (ty := 4) (dst := some 241) 28 #[Value.pointer l_] (by kernel_rfl) (fun ww => by kernel_rfl) (Calls.mono h ?_)
                            rintro _ w40 ⟨v241, rfl, h⟩
                            refine ⟨_, rfl, ?_⟩
                            refine reg_run [.plain, .plain, .plain, .pick, .plain, .plain] 8 [(1, [], Value.pointer (some ⟨b_, 0, none⟩)), (3, [], Value.pointer l_), (5, [], Value.int .i64 at_2), (6, [], Value.int .i64 i), (7, [], Value.pointer (some ⟨b_1, 0, none⟩)), (8, [], Value.int .i64 out3), (246, [], Value.bool (v241 || (g != 10))), (247, [(246, false)], Value.pointer l_)] (by kernel_rfl) (by kernel_rfl) ?_
                            refine reg_split 246 (v241 || (g != 10)) (by kernel_rfl) (fun hb => ?_) (fun hb => ?_)
                            · replace h := h.1 hb
                              refine reg_run [] 8 [(1, [], Value.pointer (some ⟨b_, 0, none⟩)), (3, [], Value.pointer l_), (5, [], Value.int .i64 at_2), (6, [], Value.int .i64 i), (7, [], Value.pointer (some ⟨b_1, 0, none⟩)), (8, [], Value.int .i64 out3), (246, [], Value.bool true), (247, [], undef)] (by kernel_rfl) (by kernel_rfl) ?_
                              refine reg_run [.skip, .skip, .plain] 11 [(1, [], Value.pointer (some ⟨b_, 0, none⟩)), (3, [], Value.pointer l_), (5, [], Value.int .i64 at_2), (6, [], Value.int .i64 i), (7, [], Value.pointer (some ⟨b_1, 0, none⟩)), (8, [], Value.int .i64 out3), (250, [], Value.bool true)] (by kernel_rfl) (by kernel_rfl) ?_
                              refine reg_end [(1, Value.pointer (some ⟨b_, 0, none⟩)), (3, Value.pointer l_), (5, Value.int .i64 at_2), (6, Value.int .i64 i), (7, Value.pointer (some ⟨b_1, 0, none⟩)), (8, Value.int .i64 out3), (250, Value.bool true)] (by kernel_rfl) (by kernel_rfl) ?_
                              exact ⟨[(1, Value.pointer (some ⟨b_, 0, none⟩)), (3, Value.pointer l_), (5, Value.int .i64 at_2), (6, Value.int .i64 i), (7, Value.pointer (some ⟨b_1, 0, none⟩)), (8, Value.int .i64 out3), (250, Value.bool true)], Sub.mk (by kernel_rfl), true, rfl, h⟩
                            · replace h := h.2 hb
                              refine reg_run [] 8 [(1, [], Value.pointer (some ⟨b_, 0, none⟩)), (3, [], Value.pointer l_), (5, [], Value.int .i64 at_2), (6, [], Value.int .i64 i), (7, [], Value.pointer (some ⟨b_1, 0, none⟩)), (8, [], Value.int .i64 out3), (246, [], Value.bool false), (247, [], Value.pointer l_)] (by kernel_rfl) (by kernel_rfl) ?_
                              refine reg_run [] 8 [(1, [], Value.pointer (some ⟨b_, 0, none⟩)), (3, [], Value.pointer l_), (5, [], Value.int .i64 at_2), (6, [], Value.int .i64 i), (7, [], Value.pointer (some ⟨b_1, 0, none⟩)), (8, [], Value.int .i64 out3), (246, [], Value.bool false), (247, [], Value.pointer l_)] (by kernel_rfl) (by kernel_rfl) ?_
                              refine reg_enter (op := (Go.Op.call (Go.Call.mk (Go.Callee.value (Go.Operand.func 30)) #[(Go.Operand.tmp 247)] #[38]))) (ty := 28) (dst := some 248) 30 #[Value.pointer l_] (by kernel_rfl) (fun ww => by kernel_rfl) (Calls.mono h ?_)
                              rintro _ w41 ⟨v248, rfl, h⟩
                              refine ⟨_, rfl, ?_⟩
                              refine reg_run [.sure, .plain] 11 [(1, [], Value.pointer (some ⟨b_, 0, none⟩)), (3, [], Value.pointer l_), (5, [], Value.int .i64 at_2), (6, [], Value.int .i64 i), (7, [], Value.pointer (some ⟨b_1, 0, none⟩)), (8, [], Value.int .i64 out3), (250, [], Value.bool (v248 != 0))] (by kernel_rfl) (by kernel_rfl) ?_
                              refine reg_end [(1, Value.pointer (some ⟨b_, 0, none⟩)), (3, Value.pointer l_), (5, Value.int .i64 at_2), (6, Value.int .i64 i), (7, Value.pointer (some ⟨b_1, 0, none⟩)), (8, Value.int .i64 out3), (250, Value.bool (v248 != 0))] (by kernel_rfl) (by kernel_rfl) ?_
                              exact ⟨[(1, Value.pointer (some ⟨b_, 0, none⟩)), (3, Value.pointer l_), (5, Value.int .i64 at_2), (6, Value.int .i64 i), (7, Value.pointer (some ⟨b_1, 0, none⟩)), (8, Value.int .i64 out3), (250, Value.bool (v248 != 0))], Sub.mk (by kernel_rfl), (v248 != 0), rfl, h⟩
                          · rintro _ w39 ⟨t250, rfl, h⟩
                            unfold F_towpathlaw14_LaneTrips_k12 at h
                            refine wpE_cond (o := (Operand.tmp 250)) (b := t250) (x := c_towpathlaw14_LaneTrips_202) (y := c_towpathlaw14_LaneTrips_206) (by kernel_rfl) (by kernel_rfl) (fun hb => ?_) (fun hb => ?_)
                            · replace h := h.1 hb
                              refine wpE_seq (x := c_towpathlaw14_LaneTrips_203) (y := c_towpathlaw14_LaneTrips_205) (by kernel_rfl) ?_
                              refine wpE_region (id := 44) (ops := r_towpathlaw14_LaneTrips_203) (by kernel_rfl) ?_
                              refine reg_run [.plain] 1 [(2, [], Value.bool false)] (by kernel_rfl) (by kernel_rfl) ?_
                              refine reg_end [(2, Value.bool false)] (by kernel_rfl) (by kernel_rfl) ?_
                              change WpE _ _ c_towpathlaw14_LaneTrips_205 _ _ _
                              refine wpE_ret (by kernel_rfl) ?_
                              repeat (first | refine seqQ_ret ?_ | refine blockQ_ret ?_ | refine loopQ_ret ?_ | refine cutQ_ret ?_)
                              exact retS (rs := [(Go.ResultVar.tmp 2)]) (v := Value.bool false) (by kernel_rfl) (⟨by kernel_rfl, trivial⟩) ⟨false, rfl, h⟩
                            · replace h := h.2 hb
                              refine wpE_skip (by kernel_rfl) ?_
                              change WpE _ _ c_towpathlaw14_LaneTrips_207 _ _ _
                              refine wpE_region (id := 41) (ops := r_towpathlaw14_LaneTrips_207) (by kernel_rfl) ?_
                              refine reg_run [.plain, .plain, .plain] 3 [(1, [], Value.pointer (some ⟨b_, 0, none⟩)), (3, [], Value.pointer l_), (5, [], Value.int .i64 at_2), (6, [], Value.int .i64 i), (7, [], Value.pointer (some ⟨b_1, 0, none⟩)), (8, [], Value.int .i64 (IntKind.i64.wrap (out3 - 1)))] (by kernel_rfl) (by kernel_rfl) ?_
                              refine reg_end [(1, Value.pointer (some ⟨b_, 0, none⟩)), (3, Value.pointer l_), (5, Value.int .i64 at_2), (6, Value.int .i64 i), (7, Value.pointer (some ⟨b_1, 0, none⟩)), (8, Value.int .i64 (IntKind.i64.wrap (out3 - 1)))] (by kernel_rfl) (by kernel_rfl) ?_
                              have hb_ := again_4_h _ _ h
                              exact ⟨_, hb_.2, [(1, Value.pointer (some ⟨b_, 0, none⟩)), (3, Value.pointer l_), (5, Value.int .i64 at_2), (6, Value.int .i64 i), (7, Value.pointer (some ⟨b_1, 0, none⟩)), (8, Value.int .i64 (IntKind.i64.wrap (out3 - 1)))], Sub.mk (by kernel_rfl), (IntKind.i64.wrap (out3 - 1)), rfl, hb_.1, rfl⟩
                        · replace h := h.2 hb
                          refine wpE_exit (id := 8) (by kernel_rfl) ?_
                          change WpE _ _ c_towpathlaw14_LaneTrips_209 _ _ _
                          refine wpE_seq (x := c_towpathlaw14_LaneTrips_210) (y := c_towpathlaw14_LaneTrips_212) (by kernel_rfl) ?_
                          refine wpE_region (id := 45) (ops := r_towpathlaw14_LaneTrips_210) (by kernel_rfl) ?_
                          refine reg_run [.plain] 1 [(1, [], Value.pointer (some ⟨b_, 0, none⟩)), (3, [], Value.pointer l_), (5, [], Value.int .i64 at_2), (6, [], Value.int .i64 i), (7, [], Value.pointer (some ⟨b_1, 0, none⟩)), (251, [], Value.pointer l_)] (by kernel_rfl) (by kernel_rfl) ?_
                          refine reg_enter (op := (Go.Op.call (Go.Call.mk (Go.Callee.value (Go.Operand.func 28)) #[(Go.Operand.tmp 251)] #[38]))) (ty := 4) (dst := some 252) 28 #[Value.pointer l_] (by kernel_rfl) (fun ww => by kernel_rfl) (Calls.mono h ?_)
                          rintro _ w42 ⟨v252, rfl, h⟩
                          refine ⟨_, rfl, ?_⟩
                          refine reg_run [.plain] 3 [(1, [], Value.pointer (some ⟨b_, 0, none⟩)), (3, [], Value.pointer l_), (5, [], Value.int .i64 at_2), (6, [], Value.int .i64 i), (7, [], Value.pointer (some ⟨b_1, 0, none⟩)), (22, [], Value.bool v252)] (by kernel_rfl) (by kernel_rfl) ?_
                          refine reg_end [(1, Value.pointer (some ⟨b_, 0, none⟩)), (3, Value.pointer l_), (5, Value.int .i64 at_2), (6, Value.int .i64 i), (7, Value.pointer (some ⟨b_1, 0, none⟩)), (22, Value.bool v252)] (by kernel_rfl) (by kernel_rfl) ?_
                          change WpE _ _ c_towpathlaw14_LaneTrips_212 _ _ _
                          refine wpE_seq (x := c_towpathlaw14_LaneTrips_213) (y := c_towpathlaw14_LaneTrips_215) (by kernel_rfl) ?_
                          refine wpE_region (id := 46) (ops := r_towpathlaw14_LaneTrips_213) (by kernel_rfl) ?_
                          refine reg_run [.plain] 1 [(1, [], Value.pointer (some ⟨b_, 0, none⟩)), (3, [], Value.pointer l_), (5, [], Value.int .i64 at_2), (6, [], Value.int .i64 i), (7, [], Value.pointer (some ⟨b_1, 0, none⟩)), (22, [], Value.bool v252), (254, [], Value.pointer l_)] (by kernel_rfl) (by kernel_rfl) ?_
                          refine reg_enter (op := (Go.Op.call (Go.Call.mk (Go.Callee.value (Go.Operand.func 31)) #[(Go.Operand.tmp 254)] #[38]))) (ty := 68) (dst := some 255) 31 #[Value.pointer l_] (by kernel_rfl) (fun ww => by kernel_rfl) (Calls.mono h ?_)
                          rintro _ w43 ⟨n_, g1, rfl, h⟩
                          refine ⟨_, rfl, ?_⟩
                          refine reg_run [.plain, .plain, .plain, .plain, .plain] 7 [(1, [], Value.pointer (some ⟨b_, 0, none⟩)), (3, [], Value.pointer l_), (5, [], Value.int .i64 at_2), (6, [], Value.int .i64 i), (7, [], Value.pointer (some ⟨b_1, 0, none⟩)), (22, [], Value.bool v252), (23, [], Value.int .i64 n_), (24, [], Value.int .i64 g1)] (by kernel_rfl) (by kernel_rfl) ?_
                          refine reg_end [(1, Value.pointer (some ⟨b_, 0, none⟩)), (3, Value.pointer l_), (5, Value.int .i64 at_2), (6, Value.int .i64 i), (7, Value.pointer (some ⟨b_1, 0, none⟩)), (22, Value.bool v252), (23, Value.int .i64 n_), (24, Value.int .i64 g1)] (by kernel_rfl) (by kernel_rfl) ?_
                          change WpE _ _ c_towpathlaw14_LaneTrips_215 _ _ _
                          refine wpE_seq_cut (x := c_towpathlaw14_LaneTrips_216) (y := c_towpathlaw14_LaneTrips_218) (by kernel_rfl) (fun l w => ∃ (t279 : Bool), l = [(1, Value.pointer (some ⟨b_, 0, none⟩)), (3, Value.pointer l_), (5, Value.int .i64 at_2), (6, Value.int .i64 i), (279, Value.bool t279)] ∧ F_towpathlaw14_LaneTrips_k13 R i again_ at_2 t279 w) ?_ ?_
                          · refine wpE_region (id := 47) (ops := r_towpathlaw14_LaneTrips_216) (by kernel_rfl) ?_
                            refine reg_run [.plain, .plain, .plain, .plain] 4 [(1, [], Value.pointer (some ⟨b_, 0, none⟩)), (3, [], Value.pointer l_), (5, [], Value.int .i64 at_2), (6, [], Value.int .i64 i), (7, [], Value.pointer (some ⟨b_1, 0, none⟩)), (23, [], Value.int .i64 n_), (24, [], Value.int .i64 g1), (260, [], Value.bool (!v252)), (261, [(260, false)], Value.pointer l_)] (by kernel_rfl) (by kernel_rfl) ?_
                            refine reg_split 260 (!v252) (by kernel_rfl) (fun hb => ?_) (fun hb => ?_)
                            · replace h := h.1 hb
                              refine reg_run [] 4 [(1, [], Value.pointer (some ⟨b_, 0, none⟩)), (3, [], Value.pointer l_), (5, [], Value.int .i64 at_2), (6, [], Value.int .i64 i), (7, [], Value.pointer (some ⟨b_1, 0, none⟩)), (23, [], Value.int .i64 n_), (24, [], Value.int .i64 g1), (260, [], Value.bool true), (261, [], undef)] (by kernel_rfl) (by kernel_rfl) ?_
                              refine reg_run [.skip, .skip, .plain, .plain, .skip, .skip, .plain, .plain, .skip, .skip, .skip, .skip, .plain, .plain, .skip, .skip, .skip, .plain] 22 [(1, [], Value.pointer (some ⟨b_, 0, none⟩)), (3, [], Value.pointer l_), (5, [], Value.int .i64 at_2), (6, [], Value.int .i64 i), (279, [], Value.bool true)] (by kernel_rfl) (by kernel_rfl) ?_
                              refine reg_end [(1, Value.pointer (some ⟨b_, 0, none⟩)), (3, Value.pointer l_), (5, Value.int .i64 at_2), (6, Value.int .i64 i), (279, Value.bool true)] (by kernel_rfl) (by kernel_rfl) ?_
                              exact ⟨[(1, Value.pointer (some ⟨b_, 0, none⟩)), (3, Value.pointer l_), (5, Value.int .i64 at_2), (6, Value.int .i64 i), (279, Value.bool true)], Sub.mk (by kernel_rfl), true, rfl, h⟩
                            · replace h := h.2 hb
                              refine reg_run [] 4 [(1, [], Value.pointer (some ⟨b_, 0, none⟩)), (3, [], Value.pointer l_), (5, [], Value.int .i64 at_2), (6, [], Value.int .i64 i), (7, [], Value.pointer (some ⟨b_1, 0, none⟩)), (23, [], Value.int .i64 n_), (24, [], Value.int .i64 g1), (260, [], Value.bool false), (261, [], Value.pointer l_)] (by kernel_rfl) (by kernel_rfl) ?_
                              refine reg_run [] 4 [(1, [], Value.pointer (some ⟨b_, 0, none⟩)), (3, [], Value.pointer l_), (5, [], Value.int .i64 at_2), (6, [], Value.int .i64 i), (7, [], Value.pointer (some ⟨b_1, 0, none⟩)), (23, [], Value.int .i64 n_), (24, [], Value.int .i64 g1), (260, [], Value.bool false), (261, [], Value.pointer l_)] (by kernel_rfl) (by kernel_rfl) ?_
                              refine reg_enter (op := (Go.Op.call (Go.Call.mk (Go.Callee.value (Go.Operand.func 30)) #[(Go.Operand.tmp 261)] #[38]))) (ty := 28) (dst := some 262) 30 #[Value.pointer l_] (by kernel_rfl) (fun ww => by kernel_rfl) (Calls.mono h ?_)
                              rintro _ w45 ⟨v262, rfl, h⟩
                              refine ⟨_, rfl, ?_⟩
                              refine reg_run [.sure, .plain, .plain, .plain, .plain, .pick, .plain, .plain, .plain] 14 [(1, [], Value.pointer (some ⟨b_, 0, none⟩)), (3, [], Value.pointer l_), (5, [], Value.int .i64 at_2), (6, [], Value.int .i64 i), (269, [], Value.bool ((v262 != 9) || (g1 != 0))), (270, [(269, false)], Value.int .i64 n_), (271, [(269, false)], Value.pointer (some ⟨b_1, 0, none⟩))] (by kernel_rfl) (by kernel_rfl) ?_
                              refine reg_split 269 ((v262 != 9) || (g1 != 0)) (by kernel_rfl) (fun hb => ?_) (fun hb => ?_)
                              · replace h := h.1 hb
                                refine reg_run [] 14 [(1, [], Value.pointer (some ⟨b_, 0, none⟩)), (3, [], Value.pointer l_), (5, [], Value.int .i64 at_2), (6, [], Value.int .i64 i), (269, [], Value.bool true), (270, [], undef), (271, [], undef)] (by kernel_rfl) (by kernel_rfl) ?_
                                refine reg_run [.skip, .skip, .plain, .plain, .skip, .skip, .skip, .plain] 22 [(1, [], Value.pointer (some ⟨b_, 0, none⟩)), (3, [], Value.pointer l_), (5, [], Value.int .i64 at_2), (6, [], Value.int .i64 i), (279, [], Value.bool true)] (by kernel_rfl) (by kernel_rfl) ?_
                                refine reg_end [(1, Value.pointer (some ⟨b_, 0, none⟩)), (3, Value.pointer l_), (5, Value.int .i64 at_2), (6, Value.int .i64 i), (279, Value.bool true)] (by kernel_rfl) (by kernel_rfl) ?_
                                exact ⟨[(1, Value.pointer (some ⟨b_, 0, none⟩)), (3, Value.pointer l_), (5, Value.int .i64 at_2), (6, Value.int .i64 i), (279, Value.bool true)], Sub.mk (by kernel_rfl), true, rfl, h⟩
                              · replace h := h.2 hb
                                refine reg_run [] 14 [(1, [], Value.pointer (some ⟨b_, 0, none⟩)), (3, [], Value.pointer l_), (5, [], Value.int .i64 at_2), (6, [], Value.int .i64 i), (269, [], Value.bool false), (270, [], Value.int .i64 n_), (271, [], Value.pointer (some ⟨b_1, 0, none⟩))] (by kernel_rfl) (by kernel_rfl) ?_
                                refine reg_run [] 14 [(1, [], Value.pointer (some ⟨b_, 0, none⟩)), (3, [], Value.pointer l_), (5, [], Value.int .i64 at_2), (6, [], Value.int .i64 i), (269, [], Value.bool false), (270, [], Value.int .i64 n_), (271, [], Value.pointer (some ⟨b_1, 0, none⟩))] (by kernel_rfl) (by kernel_rfl) ?_
                                obtain ⟨v272, hc, h⟩ := h
                                refine reg_load1 (t := 3) (a := (Go.Operand.tmp 271)) (b := b_1) (o := 0) (ty := 3) (dst := some 272) (by kernel_rfl) (by kernel_rfl) (by kernel_rfl) hc ?_
                                refine reg_run [.sure, .plain, .plain, .plain] 19 [(1, [], Value.pointer (some ⟨b_, 0, none⟩)), (3, [], Value.pointer l_), (5, [], Value.int .i64 at_2), (6, [], Value.int .i64 i), (275, [], Value.bool (n_ != v272)), (276, [(275, false)], Value.pointer l_)] (by kernel_rfl) (by kernel_rfl) ?_
                                refine reg_split 275 (n_ != v272) (by kernel_rfl) (fun hb => ?_) (fun hb => ?_)
                                · replace h := h.1 hb
                                  refine reg_run [] 19 [(1, [], Value.pointer (some ⟨b_, 0, none⟩)), (3, [], Value.pointer l_), (5, [], Value.int .i64 at_2), (6, [], Value.int .i64 i), (275, [], Value.bool true), (276, [], undef)] (by kernel_rfl) (by kernel_rfl) ?_
                                  refine reg_run [.skip, .skip, .plain] 22 [(1, [], Value.pointer (some ⟨b_, 0, none⟩)), (3, [], Value.pointer l_), (5, [], Value.int .i64 at_2), (6, [], Value.int .i64 i), (279, [], Value.bool true)] (by kernel_rfl) (by kernel_rfl) ?_
                                  refine reg_end [(1, Value.pointer (some ⟨b_, 0, none⟩)), (3, Value.pointer l_), (5, Value.int .i64 at_2), (6, Value.int .i64 i), (279, Value.bool true)] (by kernel_rfl) (by kernel_rfl) ?_
                                  exact ⟨[(1, Value.pointer (some ⟨b_, 0, none⟩)), (3, Value.pointer l_), (5, Value.int .i64 at_2), (6, Value.int .i64 i), (279, Value.bool true)], Sub.mk (by kernel_rfl), true, rfl, h⟩
                                · replace h := h.2 hb
                                  refine reg_run [] 19 [(1, [], Value.pointer (some ⟨b_, 0, none⟩)), (3, [], Value.pointer l_), (5, [], Value.int .i64 at_2), (6, [], Value.int .i64 i), (275, [], Value.bool false), (276, [], Value.pointer l_)] (by kernel_rfl) (by kernel_rfl) ?_
                                  refine reg_run [] 19 [(1, [], Value.pointer (some ⟨b_, 0, none⟩)), (3, [], Value.pointer l_), (5, [], Value.int .i64 at_2), (6, [], Value.int .i64 i), (275, [], Value.bool false), (276, [], Value.pointer l_)] (by kernel_rfl) (by kernel_rfl) ?_
                                  refine reg_enter (op := (Go.Op.call (Go.Call.mk (Go.Callee.value (Go.Operand.func 25)) #[(Go.Operand.tmp 276)] #[38]))) (ty := 3) (dst := some 277) 25 #[Value.pointer l_] (by kernel_rfl) (fun ww => by kernel_rfl) (Calls.mono h ?_)
                                  rintro _ w46 ⟨v277, rfl, h⟩
                                  refine ⟨_, rfl, ?_⟩
                                  refine reg_run [.sure, .plain] 22 [(1, [], Value.pointer (some ⟨b_, 0, none⟩)), (3, [], Value.pointer l_), (5, [], Value.int .i64 at_2), (6, [], Value.int .i64 i), (279, [], Value.bool (v277 != 0))] (by kernel_rfl) (by kernel_rfl) ?_
                                  refine reg_end [(1, Value.pointer (some ⟨b_, 0, none⟩)), (3, Value.pointer l_), (5, Value.int .i64 at_2), (6, Value.int .i64 i), (279, Value.bool (v277 != 0))] (by kernel_rfl) (by kernel_rfl) ?_
                                  exact ⟨[(1, Value.pointer (some ⟨b_, 0, none⟩)), (3, Value.pointer l_), (5, Value.int .i64 at_2), (6, Value.int .i64 i), (279, Value.bool (v277 != 0))], Sub.mk (by kernel_rfl), (v277 != 0), rfl, h⟩
                          · rintro _ w44 ⟨t279, rfl, h⟩
                            unfold F_towpathlaw14_LaneTrips_k13 at h
                            refine wpE_cond (o := (Operand.tmp 279)) (b := t279) (x := c_towpathlaw14_LaneTrips_219) (y := c_towpathlaw14_LaneTrips_223) (by kernel_rfl) (by kernel_rfl) (fun hb => ?_) (fun hb => ?_)
                            · replace h := h.1 hb
                              refine wpE_seq (x := c_towpathlaw14_LaneTrips_220) (y := c_towpathlaw14_LaneTrips_222) (by kernel_rfl) ?_
                              refine wpE_region (id := 48) (ops := r_towpathlaw14_LaneTrips_220) (by kernel_rfl) ?_
                              refine reg_run [.plain] 1 [(2, [], Value.bool false)] (by kernel_rfl) (by kernel_rfl) ?_
                              refine reg_end [(2, Value.bool false)] (by kernel_rfl) (by kernel_rfl) ?_
                              change WpE _ _ c_towpathlaw14_LaneTrips_222 _ _ _
                              refine wpE_ret (by kernel_rfl) ?_
                              repeat (first | refine seqQ_ret ?_ | refine blockQ_ret ?_ | refine loopQ_ret ?_ | refine cutQ_ret ?_)
                              exact retS (rs := [(Go.ResultVar.tmp 2)]) (v := Value.bool false) (by kernel_rfl) (⟨by kernel_rfl, trivial⟩) ⟨false, rfl, h⟩
                            · replace h := h.2 hb
                              refine wpE_skip (by kernel_rfl) ?_
                              exact ⟨[(1, Value.pointer (some ⟨b_, 0, none⟩)), (3, Value.pointer l_), (5, Value.int .i64 at_2), (6, Value.int .i64 i)], Sub.mk (by kernel_rfl), at_2, rfl, h⟩
            · rintro _ w6 ⟨at_1, rfl, h⟩
              unfold F_towpathlaw14_LaneTrips_k2 at h
              refine wpE_region (id := 9) (ops := r_towpathlaw14_LaneTrips_224) (by kernel_rfl) ?_
              refine reg_run [.plain, .plain, .plain] 3 [(1, [], Value.pointer (some ⟨b_, 0, none⟩)), (3, [], Value.pointer l_), (5, [], Value.int .i64 at_1), (6, [], Value.int .i64 (IntKind.i64.wrap (i + 1)))] (by kernel_rfl) (by kernel_rfl) ?_
              refine reg_end [(1, Value.pointer (some ⟨b_, 0, none⟩)), (3, Value.pointer l_), (5, Value.int .i64 at_1), (6, Value.int .i64 (IntKind.i64.wrap (i + 1)))] (by kernel_rfl) (by kernel_rfl) ?_
              have hb_ := again__h _ _ _ h
              exact ⟨_, hb_.2, [(1, Value.pointer (some ⟨b_, 0, none⟩)), (3, Value.pointer l_), (5, Value.int .i64 at_1), (6, Value.int .i64 (IntKind.i64.wrap (i + 1)))], Sub.mk (by kernel_rfl), at_1, (IntKind.i64.wrap (i + 1)), rfl, hb_.1, rfl⟩
          · replace h := h.2 hb
            refine wpE_exit (id := 0) (by kernel_rfl) ?_
            change WpE _ _ c_towpathlaw14_LaneTrips_226 _ _ _
            refine wpE_seq (x := c_towpathlaw14_LaneTrips_227) (y := c_towpathlaw14_LaneTrips_229) (by kernel_rfl) ?_
            refine wpE_region (id := 49) (ops := r_towpathlaw14_LaneTrips_227) (by kernel_rfl) ?_
            refine reg_run [.plain] 1 [(2, [], Value.bool true)] (by kernel_rfl) (by kernel_rfl) ?_
            refine reg_end [(2, Value.bool true)] (by kernel_rfl) (by kernel_rfl) ?_
            change WpE _ _ c_towpathlaw14_LaneTrips_229 _ _ _
            refine wpE_ret (by kernel_rfl) ?_
            repeat (first | refine seqQ_ret ?_ | refine blockQ_ret ?_ | refine loopQ_ret ?_ | refine cutQ_ret ?_)
            exact retS (rs := [(Go.ResultVar.tmp 2)]) (v := Value.bool true) (by kernel_rfl) (⟨by kernel_rfl, trivial⟩) ⟨true, rfl, h⟩
  · rintro e w' ⟨v, rfl, r0, rfl, h⟩; exact ⟨r0, rfl, h⟩
end Go.Proofs.Ytfmkemmgakdddaa
