/- WRITTEN BY PROGRAM (dec.py): for each Go function the clean formula F, the call's contract C, and the proof S that F gives C. -/
import Derived.Test.YtcgfmkpddhhmgaaRows
import Derived.Test.YtcgfmkpddhhmgaaGF
namespace Go.Proofs.Ytcgfmkpddhhmgaa
open Go
set_option linter.unusedVariables false

/-! ### towpath/towpathlaw08.ChainKeeps (function 6) -/
noncomputable def c_towpathlaw08_ChainKeeps_0 : Code := (Try.f6.body).getD Code.skip
noncomputable def c_towpathlaw08_ChainKeeps_1 : Code := Code.l c_towpathlaw08_ChainKeeps_0
noncomputable def r_towpathlaw08_ChainKeeps_1 : Array Oper := Code.ops c_towpathlaw08_ChainKeeps_1
noncomputable def c_towpathlaw08_ChainKeeps_3 : Code := Code.r c_towpathlaw08_ChainKeeps_0
noncomputable def c_towpathlaw08_ChainKeeps_4 : Code := Code.l c_towpathlaw08_ChainKeeps_3
noncomputable def c_towpathlaw08_ChainKeeps_5 : Code := Code.l c_towpathlaw08_ChainKeeps_4
noncomputable def r_towpathlaw08_ChainKeeps_5 : Array Oper := Code.ops c_towpathlaw08_ChainKeeps_5
noncomputable def c_towpathlaw08_ChainKeeps_7 : Code := Code.r c_towpathlaw08_ChainKeeps_4
noncomputable def c_towpathlaw08_ChainKeeps_8 : Code := Code.l c_towpathlaw08_ChainKeeps_7
noncomputable def c_towpathlaw08_ChainKeeps_9 : Code := Code.l c_towpathlaw08_ChainKeeps_8
noncomputable def r_towpathlaw08_ChainKeeps_9 : Array Oper := Code.ops c_towpathlaw08_ChainKeeps_9
noncomputable def c_towpathlaw08_ChainKeeps_11 : Code := Code.r c_towpathlaw08_ChainKeeps_8
noncomputable def c_towpathlaw08_ChainKeeps_12 : Code := Code.r c_towpathlaw08_ChainKeeps_7
noncomputable def c_towpathlaw08_ChainKeeps_13 : Code := Code.r c_towpathlaw08_ChainKeeps_3
noncomputable def c_towpathlaw08_ChainKeeps_14 : Code := Code.l c_towpathlaw08_ChainKeeps_13
noncomputable def r_towpathlaw08_ChainKeeps_14 : Array Oper := Code.ops c_towpathlaw08_ChainKeeps_14
noncomputable def c_towpathlaw08_ChainKeeps_16 : Code := Code.r c_towpathlaw08_ChainKeeps_13
noncomputable def c_towpathlaw08_ChainKeeps_17 : Code := Code.l c_towpathlaw08_ChainKeeps_16
noncomputable def r_towpathlaw08_ChainKeeps_17 : Array Oper := Code.ops c_towpathlaw08_ChainKeeps_17
noncomputable def c_towpathlaw08_ChainKeeps_19 : Code := Code.r c_towpathlaw08_ChainKeeps_16
noncomputable def c_towpathlaw08_ChainKeeps_20 : Code := Code.l c_towpathlaw08_ChainKeeps_19
noncomputable def c_towpathlaw08_ChainKeeps_21 : Code := Code.l c_towpathlaw08_ChainKeeps_20
noncomputable def r_towpathlaw08_ChainKeeps_21 : Array Oper := Code.ops c_towpathlaw08_ChainKeeps_21
noncomputable def c_towpathlaw08_ChainKeeps_23 : Code := Code.r c_towpathlaw08_ChainKeeps_20
noncomputable def c_towpathlaw08_ChainKeeps_24 : Code := Code.l c_towpathlaw08_ChainKeeps_23
noncomputable def c_towpathlaw08_ChainKeeps_25 : Code := Code.l c_towpathlaw08_ChainKeeps_24
noncomputable def c_towpathlaw08_ChainKeeps_26 : Code := Code.l c_towpathlaw08_ChainKeeps_25
noncomputable def c_towpathlaw08_ChainKeeps_27 : Code := Code.l c_towpathlaw08_ChainKeeps_26
noncomputable def r_towpathlaw08_ChainKeeps_27 : Array Oper := Code.ops c_towpathlaw08_ChainKeeps_27
noncomputable def c_towpathlaw08_ChainKeeps_29 : Code := Code.r c_towpathlaw08_ChainKeeps_26
noncomputable def c_towpathlaw08_ChainKeeps_30 : Code := Code.l c_towpathlaw08_ChainKeeps_29
noncomputable def c_towpathlaw08_ChainKeeps_31 : Code := Code.r c_towpathlaw08_ChainKeeps_29
noncomputable def c_towpathlaw08_ChainKeeps_32 : Code := Code.r c_towpathlaw08_ChainKeeps_25
noncomputable def c_towpathlaw08_ChainKeeps_33 : Code := Code.l c_towpathlaw08_ChainKeeps_32
noncomputable def c_towpathlaw08_ChainKeeps_34 : Code := Code.l c_towpathlaw08_ChainKeeps_33
noncomputable def c_towpathlaw08_ChainKeeps_35 : Code := Code.l c_towpathlaw08_ChainKeeps_34
noncomputable def r_towpathlaw08_ChainKeeps_35 : Array Oper := Code.ops c_towpathlaw08_ChainKeeps_35
noncomputable def c_towpathlaw08_ChainKeeps_37 : Code := Code.r c_towpathlaw08_ChainKeeps_34
noncomputable def c_towpathlaw08_ChainKeeps_38 : Code := Code.l c_towpathlaw08_ChainKeeps_37
noncomputable def c_towpathlaw08_ChainKeeps_39 : Code := Code.l c_towpathlaw08_ChainKeeps_38
noncomputable def r_towpathlaw08_ChainKeeps_39 : Array Oper := Code.ops c_towpathlaw08_ChainKeeps_39
noncomputable def c_towpathlaw08_ChainKeeps_41 : Code := Code.r c_towpathlaw08_ChainKeeps_38
noncomputable def c_towpathlaw08_ChainKeeps_42 : Code := Code.l c_towpathlaw08_ChainKeeps_41
noncomputable def r_towpathlaw08_ChainKeeps_42 : Array Oper := Code.ops c_towpathlaw08_ChainKeeps_42
noncomputable def c_towpathlaw08_ChainKeeps_44 : Code := Code.r c_towpathlaw08_ChainKeeps_41
noncomputable def c_towpathlaw08_ChainKeeps_45 : Code := Code.l c_towpathlaw08_ChainKeeps_44
noncomputable def r_towpathlaw08_ChainKeeps_45 : Array Oper := Code.ops c_towpathlaw08_ChainKeeps_45
noncomputable def c_towpathlaw08_ChainKeeps_47 : Code := Code.r c_towpathlaw08_ChainKeeps_44
noncomputable def c_towpathlaw08_ChainKeeps_48 : Code := Code.r c_towpathlaw08_ChainKeeps_37
noncomputable def c_towpathlaw08_ChainKeeps_49 : Code := Code.r c_towpathlaw08_ChainKeeps_32
noncomputable def r_towpathlaw08_ChainKeeps_49 : Array Oper := Code.ops c_towpathlaw08_ChainKeeps_49
noncomputable def c_towpathlaw08_ChainKeeps_51 : Code := Code.r c_towpathlaw08_ChainKeeps_19
noncomputable def c_towpathlaw08_ChainKeeps_52 : Code := Code.l c_towpathlaw08_ChainKeeps_51
noncomputable def r_towpathlaw08_ChainKeeps_52 : Array Oper := Code.ops c_towpathlaw08_ChainKeeps_52
noncomputable def c_towpathlaw08_ChainKeeps_54 : Code := Code.r c_towpathlaw08_ChainKeeps_51
noncomputable def c_towpathlaw08_ChainKeeps_55 : Code := Code.l c_towpathlaw08_ChainKeeps_54
noncomputable def c_towpathlaw08_ChainKeeps_56 : Code := Code.l c_towpathlaw08_ChainKeeps_55
noncomputable def r_towpathlaw08_ChainKeeps_56 : Array Oper := Code.ops c_towpathlaw08_ChainKeeps_56
noncomputable def c_towpathlaw08_ChainKeeps_58 : Code := Code.r c_towpathlaw08_ChainKeeps_55
noncomputable def c_towpathlaw08_ChainKeeps_59 : Code := Code.l c_towpathlaw08_ChainKeeps_58
noncomputable def c_towpathlaw08_ChainKeeps_60 : Code := Code.l c_towpathlaw08_ChainKeeps_59
noncomputable def r_towpathlaw08_ChainKeeps_60 : Array Oper := Code.ops c_towpathlaw08_ChainKeeps_60
noncomputable def c_towpathlaw08_ChainKeeps_62 : Code := Code.r c_towpathlaw08_ChainKeeps_59
noncomputable def c_towpathlaw08_ChainKeeps_63 : Code := Code.r c_towpathlaw08_ChainKeeps_58
noncomputable def c_towpathlaw08_ChainKeeps_64 : Code := Code.r c_towpathlaw08_ChainKeeps_54
noncomputable def c_towpathlaw08_ChainKeeps_65 : Code := Code.l c_towpathlaw08_ChainKeeps_64
noncomputable def c_towpathlaw08_ChainKeeps_66 : Code := Code.l c_towpathlaw08_ChainKeeps_65
noncomputable def r_towpathlaw08_ChainKeeps_66 : Array Oper := Code.ops c_towpathlaw08_ChainKeeps_66
noncomputable def c_towpathlaw08_ChainKeeps_68 : Code := Code.r c_towpathlaw08_ChainKeeps_65
noncomputable def c_towpathlaw08_ChainKeeps_69 : Code := Code.l c_towpathlaw08_ChainKeeps_68
noncomputable def c_towpathlaw08_ChainKeeps_70 : Code := Code.l c_towpathlaw08_ChainKeeps_69
noncomputable def c_towpathlaw08_ChainKeeps_71 : Code := Code.l c_towpathlaw08_ChainKeeps_70
noncomputable def c_towpathlaw08_ChainKeeps_72 : Code := Code.l c_towpathlaw08_ChainKeeps_71
noncomputable def r_towpathlaw08_ChainKeeps_72 : Array Oper := Code.ops c_towpathlaw08_ChainKeeps_72
noncomputable def c_towpathlaw08_ChainKeeps_74 : Code := Code.r c_towpathlaw08_ChainKeeps_71
noncomputable def c_towpathlaw08_ChainKeeps_75 : Code := Code.l c_towpathlaw08_ChainKeeps_74
noncomputable def c_towpathlaw08_ChainKeeps_76 : Code := Code.r c_towpathlaw08_ChainKeeps_74
noncomputable def c_towpathlaw08_ChainKeeps_77 : Code := Code.r c_towpathlaw08_ChainKeeps_70
noncomputable def c_towpathlaw08_ChainKeeps_78 : Code := Code.l c_towpathlaw08_ChainKeeps_77
noncomputable def c_towpathlaw08_ChainKeeps_79 : Code := Code.l c_towpathlaw08_ChainKeeps_78
noncomputable def c_towpathlaw08_ChainKeeps_80 : Code := Code.l c_towpathlaw08_ChainKeeps_79
noncomputable def r_towpathlaw08_ChainKeeps_80 : Array Oper := Code.ops c_towpathlaw08_ChainKeeps_80
noncomputable def c_towpathlaw08_ChainKeeps_82 : Code := Code.r c_towpathlaw08_ChainKeeps_79
noncomputable def c_towpathlaw08_ChainKeeps_83 : Code := Code.l c_towpathlaw08_ChainKeeps_82
noncomputable def r_towpathlaw08_ChainKeeps_83 : Array Oper := Code.ops c_towpathlaw08_ChainKeeps_83
noncomputable def c_towpathlaw08_ChainKeeps_85 : Code := Code.r c_towpathlaw08_ChainKeeps_82
noncomputable def c_towpathlaw08_ChainKeeps_86 : Code := Code.l c_towpathlaw08_ChainKeeps_85
noncomputable def c_towpathlaw08_ChainKeeps_87 : Code := Code.l c_towpathlaw08_ChainKeeps_86
noncomputable def r_towpathlaw08_ChainKeeps_87 : Array Oper := Code.ops c_towpathlaw08_ChainKeeps_87
noncomputable def c_towpathlaw08_ChainKeeps_89 : Code := Code.r c_towpathlaw08_ChainKeeps_86
noncomputable def c_towpathlaw08_ChainKeeps_90 : Code := Code.l c_towpathlaw08_ChainKeeps_89
noncomputable def c_towpathlaw08_ChainKeeps_91 : Code := Code.l c_towpathlaw08_ChainKeeps_90
noncomputable def r_towpathlaw08_ChainKeeps_91 : Array Oper := Code.ops c_towpathlaw08_ChainKeeps_91
noncomputable def c_towpathlaw08_ChainKeeps_93 : Code := Code.r c_towpathlaw08_ChainKeeps_90
noncomputable def c_towpathlaw08_ChainKeeps_94 : Code := Code.r c_towpathlaw08_ChainKeeps_89
noncomputable def c_towpathlaw08_ChainKeeps_95 : Code := Code.r c_towpathlaw08_ChainKeeps_85
noncomputable def c_towpathlaw08_ChainKeeps_96 : Code := Code.l c_towpathlaw08_ChainKeeps_95
noncomputable def r_towpathlaw08_ChainKeeps_96 : Array Oper := Code.ops c_towpathlaw08_ChainKeeps_96
noncomputable def c_towpathlaw08_ChainKeeps_98 : Code := Code.r c_towpathlaw08_ChainKeeps_95
noncomputable def c_towpathlaw08_ChainKeeps_99 : Code := Code.l c_towpathlaw08_ChainKeeps_98
noncomputable def c_towpathlaw08_ChainKeeps_100 : Code := Code.l c_towpathlaw08_ChainKeeps_99
noncomputable def r_towpathlaw08_ChainKeeps_100 : Array Oper := Code.ops c_towpathlaw08_ChainKeeps_100
noncomputable def c_towpathlaw08_ChainKeeps_102 : Code := Code.r c_towpathlaw08_ChainKeeps_99
noncomputable def c_towpathlaw08_ChainKeeps_103 : Code := Code.l c_towpathlaw08_ChainKeeps_102
noncomputable def c_towpathlaw08_ChainKeeps_104 : Code := Code.l c_towpathlaw08_ChainKeeps_103
noncomputable def r_towpathlaw08_ChainKeeps_104 : Array Oper := Code.ops c_towpathlaw08_ChainKeeps_104
noncomputable def c_towpathlaw08_ChainKeeps_106 : Code := Code.r c_towpathlaw08_ChainKeeps_103
noncomputable def c_towpathlaw08_ChainKeeps_107 : Code := Code.r c_towpathlaw08_ChainKeeps_102
noncomputable def c_towpathlaw08_ChainKeeps_108 : Code := Code.r c_towpathlaw08_ChainKeeps_98
noncomputable def c_towpathlaw08_ChainKeeps_109 : Code := Code.l c_towpathlaw08_ChainKeeps_108
noncomputable def r_towpathlaw08_ChainKeeps_109 : Array Oper := Code.ops c_towpathlaw08_ChainKeeps_109
noncomputable def c_towpathlaw08_ChainKeeps_111 : Code := Code.r c_towpathlaw08_ChainKeeps_108
noncomputable def c_towpathlaw08_ChainKeeps_112 : Code := Code.l c_towpathlaw08_ChainKeeps_111
noncomputable def c_towpathlaw08_ChainKeeps_113 : Code := Code.l c_towpathlaw08_ChainKeeps_112
noncomputable def r_towpathlaw08_ChainKeeps_113 : Array Oper := Code.ops c_towpathlaw08_ChainKeeps_113
noncomputable def c_towpathlaw08_ChainKeeps_115 : Code := Code.r c_towpathlaw08_ChainKeeps_112
noncomputable def c_towpathlaw08_ChainKeeps_116 : Code := Code.r c_towpathlaw08_ChainKeeps_111
noncomputable def c_towpathlaw08_ChainKeeps_117 : Code := Code.r c_towpathlaw08_ChainKeeps_77
noncomputable def r_towpathlaw08_ChainKeeps_117 : Array Oper := Code.ops c_towpathlaw08_ChainKeeps_117
noncomputable def c_towpathlaw08_ChainKeeps_119 : Code := Code.r c_towpathlaw08_ChainKeeps_64
noncomputable def c_towpathlaw08_ChainKeeps_120 : Code := Code.l c_towpathlaw08_ChainKeeps_119
noncomputable def c_towpathlaw08_ChainKeeps_121 : Code := Code.l c_towpathlaw08_ChainKeeps_120
noncomputable def r_towpathlaw08_ChainKeeps_121 : Array Oper := Code.ops c_towpathlaw08_ChainKeeps_121
noncomputable def c_towpathlaw08_ChainKeeps_123 : Code := Code.r c_towpathlaw08_ChainKeeps_120
noncomputable def c_towpathlaw08_ChainKeeps_124 : Code := Code.l c_towpathlaw08_ChainKeeps_123
noncomputable def c_towpathlaw08_ChainKeeps_125 : Code := Code.l c_towpathlaw08_ChainKeeps_124
noncomputable def c_towpathlaw08_ChainKeeps_126 : Code := Code.l c_towpathlaw08_ChainKeeps_125
noncomputable def c_towpathlaw08_ChainKeeps_127 : Code := Code.l c_towpathlaw08_ChainKeeps_126
noncomputable def r_towpathlaw08_ChainKeeps_127 : Array Oper := Code.ops c_towpathlaw08_ChainKeeps_127
noncomputable def c_towpathlaw08_ChainKeeps_129 : Code := Code.r c_towpathlaw08_ChainKeeps_126
noncomputable def c_towpathlaw08_ChainKeeps_130 : Code := Code.l c_towpathlaw08_ChainKeeps_129
noncomputable def c_towpathlaw08_ChainKeeps_131 : Code := Code.r c_towpathlaw08_ChainKeeps_129
noncomputable def c_towpathlaw08_ChainKeeps_132 : Code := Code.r c_towpathlaw08_ChainKeeps_125
noncomputable def c_towpathlaw08_ChainKeeps_133 : Code := Code.l c_towpathlaw08_ChainKeeps_132
noncomputable def c_towpathlaw08_ChainKeeps_134 : Code := Code.l c_towpathlaw08_ChainKeeps_133
noncomputable def c_towpathlaw08_ChainKeeps_135 : Code := Code.l c_towpathlaw08_ChainKeeps_134
noncomputable def r_towpathlaw08_ChainKeeps_135 : Array Oper := Code.ops c_towpathlaw08_ChainKeeps_135
noncomputable def c_towpathlaw08_ChainKeeps_137 : Code := Code.r c_towpathlaw08_ChainKeeps_134
noncomputable def c_towpathlaw08_ChainKeeps_138 : Code := Code.l c_towpathlaw08_ChainKeeps_137
noncomputable def c_towpathlaw08_ChainKeeps_139 : Code := Code.l c_towpathlaw08_ChainKeeps_138
noncomputable def r_towpathlaw08_ChainKeeps_139 : Array Oper := Code.ops c_towpathlaw08_ChainKeeps_139
noncomputable def c_towpathlaw08_ChainKeeps_141 : Code := Code.r c_towpathlaw08_ChainKeeps_138
noncomputable def c_towpathlaw08_ChainKeeps_142 : Code := Code.r c_towpathlaw08_ChainKeeps_137
noncomputable def c_towpathlaw08_ChainKeeps_143 : Code := Code.r c_towpathlaw08_ChainKeeps_132
noncomputable def r_towpathlaw08_ChainKeeps_143 : Array Oper := Code.ops c_towpathlaw08_ChainKeeps_143
noncomputable def c_towpathlaw08_ChainKeeps_145 : Code := Code.r c_towpathlaw08_ChainKeeps_119
noncomputable def c_towpathlaw08_ChainKeeps_146 : Code := Code.l c_towpathlaw08_ChainKeeps_145
noncomputable def r_towpathlaw08_ChainKeeps_146 : Array Oper := Code.ops c_towpathlaw08_ChainKeeps_146
noncomputable def c_towpathlaw08_ChainKeeps_148 : Code := Code.r c_towpathlaw08_ChainKeeps_145

set_option maxRecDepth 100000 in
set_option maxHeartbeats 4000000 in
theorem S_towpathlaw08_ChainKeeps {l_ : Slc} {mark : Int} {more : Int} {w : World} {R : Bool → World → Prop} (h : F_towpathlaw08_ChainKeeps l_ mark more R w) : C_towpathlaw08_ChainKeeps l_ mark more w R := by
  unfold F_towpathlaw08_ChainKeeps at h
  unfold C_towpathlaw08_ChainKeeps
  refine Calls.mono (calls_of_wpE (args := [Value.slice l_.ptr l_.len l_.cap, Value.int .u16 mark, Value.int .u8 more]) (R := fun v w' => ∃ (r0 : Bool), v = Value.bool r0 ∧ R r0 w') Try.func6 (c := c_towpathlaw08_ChainKeeps_0) (by kernel_rfl) 175 (by kernel_rfl) (by kernel_rfl) [(0, Value.slice l_.ptr l_.len l_.cap), (1, Value.int .u16 mark), (2, Value.int .u8 more)] (by kernel_rfl) ?_) ?_
  · refine wpE_seq (x := c_towpathlaw08_ChainKeeps_1) (y := c_towpathlaw08_ChainKeeps_3) (by kernel_rfl) ?_
    refine wpE_region (id := 0) (ops := r_towpathlaw08_ChainKeeps_1) (by kernel_rfl) ?_
    refine reg_run [.plain] 1 [(0, [], Value.slice l_.ptr l_.len l_.cap), (1, [], Value.int .u16 mark), (2, [], Value.int .u8 more)] (by kernel_rfl) (by kernel_rfl) ?_
    refine reg_end [(0, Value.slice l_.ptr l_.len l_.cap), (1, Value.int .u16 mark), (2, Value.int .u8 more)] (by kernel_rfl) (by kernel_rfl) ?_
    change WpE _ _ c_towpathlaw08_ChainKeeps_3 _ _ _
    refine wpE_seq (x := c_towpathlaw08_ChainKeeps_4) (y := c_towpathlaw08_ChainKeeps_13) (by kernel_rfl) ?_
    refine wpE_seq_cut (x := c_towpathlaw08_ChainKeeps_5) (y := c_towpathlaw08_ChainKeeps_7) (by kernel_rfl) (fun l w => ∃ (t32 : Bool), l = [(0, Value.slice l_.ptr l_.len l_.cap), (1, Value.int .u16 mark), (2, Value.int .u8 more), (32, Value.bool t32)] ∧ F_towpathlaw08_ChainKeeps_k0 l_ mark more R t32 w) ?_ ?_
    · refine wpE_region (id := 1) (ops := r_towpathlaw08_ChainKeeps_5) (by kernel_rfl) ?_
      refine reg_run [] 0 [(0, [], Value.slice l_.ptr l_.len l_.cap), (1, [], Value.int .u16 mark), (2, [], Value.int .u8 more)] (by kernel_rfl) (by kernel_rfl) ?_
      refine reg_enter (op := (Go.Op.call (Go.Call.mk (Go.Callee.value (Go.Operand.func 7)) #[] #[]))) (ty := 4) (dst := some 20) 7 #[] (by kernel_rfl) (fun ww => by kernel_rfl) (Calls.mono h ?_)
      rintro _ w24 ⟨v20, rfl, h⟩
      refine ⟨_, rfl, ?_⟩
      refine reg_run [.plain, .plain, .plain] 4 [(0, [], Value.slice l_.ptr l_.len l_.cap), (1, [], Value.int .u16 mark), (2, [], Value.int .u8 more), (22, [], Value.bool (!v20)), (23, [(22, false)], Value.slice l_.ptr l_.len l_.cap)] (by kernel_rfl) (by kernel_rfl) ?_
      refine reg_split 22 (!v20) (by kernel_rfl) (fun hb => ?_) (fun hb => ?_)
      · replace h := h.1 hb
        refine reg_run [] 4 [(0, [], Value.slice l_.ptr l_.len l_.cap), (1, [], Value.int .u16 mark), (2, [], Value.int .u8 more), (22, [], Value.bool true), (23, [], undef)] (by kernel_rfl) (by kernel_rfl) ?_
        refine reg_run [.skip, .skip, .plain, .plain, .skip, .skip, .skip, .skip, .plain] 13 [(0, [], Value.slice l_.ptr l_.len l_.cap), (1, [], Value.int .u16 mark), (2, [], Value.int .u8 more), (32, [], Value.bool true)] (by kernel_rfl) (by kernel_rfl) ?_
        refine reg_end [(0, Value.slice l_.ptr l_.len l_.cap), (1, Value.int .u16 mark), (2, Value.int .u8 more), (32, Value.bool true)] (by kernel_rfl) (by kernel_rfl) ?_
        exact ⟨[(0, Value.slice l_.ptr l_.len l_.cap), (1, Value.int .u16 mark), (2, Value.int .u8 more), (32, Value.bool true)], Sub.mk (by kernel_rfl), true, rfl, h⟩
      · replace h := h.2 hb
        refine reg_run [] 4 [(0, [], Value.slice l_.ptr l_.len l_.cap), (1, [], Value.int .u16 mark), (2, [], Value.int .u8 more), (22, [], Value.bool false), (23, [], Value.slice l_.ptr l_.len l_.cap)] (by kernel_rfl) (by kernel_rfl) ?_
        refine reg_run [] 4 [(0, [], Value.slice l_.ptr l_.len l_.cap), (1, [], Value.int .u16 mark), (2, [], Value.int .u8 more), (22, [], Value.bool false), (23, [], Value.slice l_.ptr l_.len l_.cap)] (by kernel_rfl) (by kernel_rfl) ?_
        refine reg_enter (op := (Go.Op.call (Go.Call.mk (Go.Callee.value (Go.Operand.func 11)) #[(Go.Operand.tmp 23)] #[22]))) (ty := 26) (dst := some 24) 11 #[Value.slice l_.ptr l_.len l_.cap] (by kernel_rfl) (fun ww => by kernel_rfl) (Calls.mono h ?_)
        rintro _ w25 ⟨v24, rfl, h⟩
        refine ⟨_, rfl, ?_⟩
        refine reg_run [.sure, .plain, .plain, .plain] 9 [(0, [], Value.slice l_.ptr l_.len l_.cap), (1, [], Value.int .u16 mark), (2, [], Value.int .u8 more), (27, [], Value.bool (v24 != 0)), (28, [(27, false)], Value.slice l_.ptr l_.len l_.cap)] (by kernel_rfl) (by kernel_rfl) ?_
        refine reg_split 27 (v24 != 0) (by kernel_rfl) (fun hb => ?_) (fun hb => ?_)
        · replace h := h.1 hb
          refine reg_run [] 9 [(0, [], Value.slice l_.ptr l_.len l_.cap), (1, [], Value.int .u16 mark), (2, [], Value.int .u8 more), (27, [], Value.bool true), (28, [], undef)] (by kernel_rfl) (by kernel_rfl) ?_
          refine reg_run [.skip, .skip, .skip, .plain] 13 [(0, [], Value.slice l_.ptr l_.len l_.cap), (1, [], Value.int .u16 mark), (2, [], Value.int .u8 more), (32, [], Value.bool true)] (by kernel_rfl) (by kernel_rfl) ?_
          refine reg_end [(0, Value.slice l_.ptr l_.len l_.cap), (1, Value.int .u16 mark), (2, Value.int .u8 more), (32, Value.bool true)] (by kernel_rfl) (by kernel_rfl) ?_
          exact ⟨[(0, Value.slice l_.ptr l_.len l_.cap), (1, Value.int .u16 mark), (2, Value.int .u8 more), (32, Value.bool true)], Sub.mk (by kernel_rfl), true, rfl, h⟩
        · replace h := h.2 hb
          refine reg_run [] 9 [(0, [], Value.slice l_.ptr l_.len l_.cap), (1, [], Value.int .u16 mark), (2, [], Value.int .u8 more), (27, [], Value.bool false), (28, [], Value.slice l_.ptr l_.len l_.cap)] (by kernel_rfl) (by kernel_rfl) ?_
          refine reg_run [] 9 [(0, [], Value.slice l_.ptr l_.len l_.cap), (1, [], Value.int .u16 mark), (2, [], Value.int .u8 more), (27, [], Value.bool false), (28, [], Value.slice l_.ptr l_.len l_.cap)] (by kernel_rfl) (by kernel_rfl) ?_
          refine reg_enter (op := (Go.Op.call (Go.Call.mk (Go.Callee.value (Go.Operand.func 9)) #[(Go.Operand.tmp 28)] #[22]))) (ty := 3) (dst := some 29) 9 #[Value.slice l_.ptr l_.len l_.cap] (by kernel_rfl) (fun ww => by kernel_rfl) (Calls.mono h ?_)
          rintro _ w26 ⟨v29, rfl, h⟩
          refine ⟨_, rfl, ?_⟩
          refine reg_run [] 10 [(0, [], Value.slice l_.ptr l_.len l_.cap), (1, [], Value.int .u16 mark), (2, [], Value.int .u8 more), (27, [], Value.bool false), (29, [], Value.int .i64 v29)] (by kernel_rfl) (by kernel_rfl) ?_
          refine reg_new (op := (Go.Op.buildSlice 41 1 #[(0, (Go.Operand.tmp 29))])) (ty := 41) (dst := some 30) (fun bb => Value.slice (some ⟨bb, 0, none⟩) 1 1) (Obj.cells ([Value.int .i64 v29]).toArray ty_int (0, 0)) (by kernel_rfl) (by kernel_rfl) (fun b_3 w27 hb hw => ?_)
          replace h := h b_3 w27 hb hw
          clear hb hw
          refine reg_run [] 11 [(0, [], Value.slice l_.ptr l_.len l_.cap), (1, [], Value.int .u16 mark), (2, [], Value.int .u8 more), (27, [], Value.bool false), (30, [], Value.slice (some ⟨b_3, 0, none⟩) 1 1)] (by kernel_rfl) (by kernel_rfl) ?_
          refine reg_enter (op := (Go.Op.call (Go.Call.mk (Go.Callee.value (Go.Operand.func 8)) #[(Go.Operand.tmp 30)] #[41]))) (ty := 4) (dst := some 31) 8 #[Value.slice (some ⟨b_3, 0, none⟩) 1 1] (by kernel_rfl) (fun ww => by kernel_rfl) (Calls.mono h ?_)
          rintro _ w28 ⟨v31, rfl, h⟩
          refine ⟨_, rfl, ?_⟩
          refine reg_run [.plain] 13 [(0, [], Value.slice l_.ptr l_.len l_.cap), (1, [], Value.int .u16 mark), (2, [], Value.int .u8 more), (32, [], Value.bool v31)] (by kernel_rfl) (by kernel_rfl) ?_
          refine reg_end [(0, Value.slice l_.ptr l_.len l_.cap), (1, Value.int .u16 mark), (2, Value.int .u8 more), (32, Value.bool v31)] (by kernel_rfl) (by kernel_rfl) ?_
          exact ⟨[(0, Value.slice l_.ptr l_.len l_.cap), (1, Value.int .u16 mark), (2, Value.int .u8 more), (32, Value.bool v31)], Sub.mk (by kernel_rfl), v31, rfl, h⟩
    · rintro _ w1 ⟨t32, rfl, h⟩
      unfold F_towpathlaw08_ChainKeeps_k0 at h
      refine wpE_cond (o := (Operand.tmp 32)) (b := t32) (x := c_towpathlaw08_ChainKeeps_8) (y := c_towpathlaw08_ChainKeeps_12) (by kernel_rfl) (by kernel_rfl) (fun hb => ?_) (fun hb => ?_)
      · replace h := h.1 hb
        refine wpE_seq (x := c_towpathlaw08_ChainKeeps_9) (y := c_towpathlaw08_ChainKeeps_11) (by kernel_rfl) ?_
        refine wpE_region (id := 2) (ops := r_towpathlaw08_ChainKeeps_9) (by kernel_rfl) ?_
        refine reg_run [] 0 [] (by kernel_rfl) (by kernel_rfl) ?_
        refine reg_enter (op := (Go.Op.call (Go.Call.mk (Go.Callee.value (Go.Operand.func 7)) #[] #[]))) (ty := 4) (dst := some 33) 7 #[] (by kernel_rfl) (fun ww => by kernel_rfl) (Calls.mono h ?_)
        rintro _ w2 ⟨v33, rfl, h⟩
        refine ⟨_, rfl, ?_⟩
        refine reg_run [.plain] 2 [(6, [], Value.bool v33)] (by kernel_rfl) (by kernel_rfl) ?_
        refine reg_end [(6, Value.bool v33)] (by kernel_rfl) (by kernel_rfl) ?_
        change WpE _ _ c_towpathlaw08_ChainKeeps_11 _ _ _
        refine wpE_ret (by kernel_rfl) ?_
        repeat (first | refine seqQ_ret ?_ | refine blockQ_ret ?_ | refine loopQ_ret ?_ | refine cutQ_ret ?_)
        exact retS (rs := [(Go.ResultVar.tmp 6)]) (v := Value.bool v33) (by kernel_rfl) (⟨by kernel_rfl, trivial⟩) ⟨v33, rfl, h⟩
      · replace h := h.2 hb
        refine wpE_skip (by kernel_rfl) ?_
        change WpE _ _ c_towpathlaw08_ChainKeeps_13 _ _ _
        refine wpE_seq (x := c_towpathlaw08_ChainKeeps_14) (y := c_towpathlaw08_ChainKeeps_16) (by kernel_rfl) ?_
        refine wpE_region (id := 3) (ops := r_towpathlaw08_ChainKeeps_14) (by kernel_rfl) ?_
        refine reg_run [.plain] 1 [(0, [], Value.slice l_.ptr l_.len l_.cap), (1, [], Value.int .u16 mark), (2, [], Value.int .u8 more), (7, [], Value.slice none 0 0)] (by kernel_rfl) (by kernel_rfl) ?_
        refine reg_end [(0, Value.slice l_.ptr l_.len l_.cap), (1, Value.int .u16 mark), (2, Value.int .u8 more), (7, Value.slice none 0 0)] (by kernel_rfl) (by kernel_rfl) ?_
        change WpE _ _ c_towpathlaw08_ChainKeeps_16 _ _ _
        refine wpE_seq (x := c_towpathlaw08_ChainKeeps_17) (y := c_towpathlaw08_ChainKeeps_19) (by kernel_rfl) ?_
        refine wpE_region (id := 4) (ops := r_towpathlaw08_ChainKeeps_17) (by kernel_rfl) ?_
        refine reg_run [.plain, .plain, .plain] 3 [(0, [], Value.slice l_.ptr l_.len l_.cap), (1, [], Value.int .u16 mark), (2, [], Value.int .u8 more), (7, [], Value.slice none 0 0), (8, [], Value.int .i64 (IntKind.i64.wrap mark))] (by kernel_rfl) (by kernel_rfl) ?_
        refine reg_end [(0, Value.slice l_.ptr l_.len l_.cap), (1, Value.int .u16 mark), (2, Value.int .u8 more), (7, Value.slice none 0 0), (8, Value.int .i64 (IntKind.i64.wrap mark))] (by kernel_rfl) (by kernel_rfl) ?_
        change WpE _ _ c_towpathlaw08_ChainKeeps_19 _ _ _
        refine wpE_seq (x := c_towpathlaw08_ChainKeeps_20) (y := c_towpathlaw08_ChainKeeps_51) (by kernel_rfl) ?_
        refine wpE_seq (x := c_towpathlaw08_ChainKeeps_21) (y := c_towpathlaw08_ChainKeeps_23) (by kernel_rfl) ?_
        refine wpE_region (id := 5) (ops := r_towpathlaw08_ChainKeeps_21) (by kernel_rfl) ?_
        refine reg_run [.plain, .plain, .plain, .plain] 4 [(0, [], Value.slice l_.ptr l_.len l_.cap), (1, [], Value.int .u16 mark), (2, [], Value.int .u8 more), (7, [], Value.slice none 0 0), (8, [], Value.int .i64 (IntKind.i64.wrap mark)), (9, [], Value.int .i64 (IntKind.i64.wrap (((l_.len : Nat) : Int) - 1)))] (by kernel_rfl) (by kernel_rfl) ?_
        refine reg_end [(0, Value.slice l_.ptr l_.len l_.cap), (1, Value.int .u16 mark), (2, Value.int .u8 more), (7, Value.slice none 0 0), (8, Value.int .i64 (IntKind.i64.wrap mark)), (9, Value.int .i64 (IntKind.i64.wrap (((l_.len : Nat) : Int) - 1)))] (by kernel_rfl) (by kernel_rfl) ?_
        change WpE _ _ c_towpathlaw08_ChainKeeps_23 _ _ _
        refine wpE_block (id := 0) (x := c_towpathlaw08_ChainKeeps_24) (by kernel_rfl) ?_
        obtain ⟨I, μ, h0, hr⟩ := h
        refine wpE_loop (x := c_towpathlaw08_ChainKeeps_25) (by kernel_rfl) (fun m l w => ∃ (beyond : Slc) (last : Int) (i : Int), l = [(0, Value.slice l_.ptr l_.len l_.cap), (1, Value.int .u16 mark), (2, Value.int .u8 more), (7, Value.slice beyond.ptr beyond.len beyond.cap), (8, Value.int .i64 last), (9, Value.int .i64 i)] ∧ I beyond last i w ∧ μ beyond last i w = m) (l' := [(0, Value.slice l_.ptr l_.len l_.cap), (1, Value.int .u16 mark), (2, Value.int .u8 more), (7, Value.slice none 0 0), (8, Value.int .i64 (IntKind.i64.wrap mark)), (9, Value.int .i64 (IntKind.i64.wrap (((l_.len : Nat) : Int) - 1)))]) (Sub.mk (by kernel_rfl)) ⟨(Slc.mk none 0 0), (IntKind.i64.wrap mark), (IntKind.i64.wrap (((l_.len : Nat) : Int) - 1)), rfl, h0, rfl⟩ ?_
        rintro _ _ w3 ⟨beyond, last, i, rfl, hI, rfl⟩
        obtain ⟨again_, again__h, h⟩ : ∃ again_ : Slc → Int → Int → World → Prop, (∀ beyond' last' i' w', again_ beyond' last' i' w' → I beyond' last' i' w' ∧ μ beyond' last' i' w' < μ beyond last i w3) ∧ F_towpathlaw08_ChainKeeps_L1 l_ mark more R again_ beyond last i w3 := ⟨_, fun _ _ _ _ h => h, hr beyond last i w3 hI⟩
        clear h0 hI
        unfold F_towpathlaw08_ChainKeeps_L1 at h
        refine wpE_seq (x := c_towpathlaw08_ChainKeeps_26) (y := c_towpathlaw08_ChainKeeps_32) (by kernel_rfl) ?_
        refine wpE_seq (x := c_towpathlaw08_ChainKeeps_27) (y := c_towpathlaw08_ChainKeeps_29) (by kernel_rfl) ?_
        refine wpE_region (id := 6) (ops := r_towpathlaw08_ChainKeeps_27) (by kernel_rfl) ?_
        refine reg_run [.plain, .plain] 2 [(0, [], Value.slice l_.ptr l_.len l_.cap), (1, [], Value.int .u16 mark), (2, [], Value.int .u8 more), (7, [], Value.slice beyond.ptr beyond.len beyond.cap), (8, [], Value.int .i64 last), (9, [], Value.int .i64 i), (40, [], Value.bool (decide (i ≥ 0)))] (by kernel_rfl) (by kernel_rfl) ?_
        refine reg_end [(0, Value.slice l_.ptr l_.len l_.cap), (1, Value.int .u16 mark), (2, Value.int .u8 more), (7, Value.slice beyond.ptr beyond.len beyond.cap), (8, Value.int .i64 last), (9, Value.int .i64 i), (40, Value.bool (decide (i ≥ 0)))] (by kernel_rfl) (by kernel_rfl) ?_
        change WpE _ _ c_towpathlaw08_ChainKeeps_29 _ _ _
        refine wpE_cond (o := (Operand.tmp 40)) (b := (decide (i ≥ 0))) (x := c_towpathlaw08_ChainKeeps_30) (y := c_towpathlaw08_ChainKeeps_31) (by kernel_rfl) (by kernel_rfl) (fun hb => ?_) (fun hb => ?_)
        · replace h := h.1 hb
          refine wpE_skip (by kernel_rfl) ?_
          change WpE _ _ c_towpathlaw08_ChainKeeps_32 _ _ _
          refine wpE_seq_cut (x := c_towpathlaw08_ChainKeeps_33) (y := c_towpathlaw08_ChainKeeps_49) (by kernel_rfl) (fun l w => ∃ (beyond1 : Slc) (last1 : Int), l = [(0, Value.slice l_.ptr l_.len l_.cap), (1, Value.int .u16 mark), (2, Value.int .u8 more), (7, Value.slice beyond1.ptr beyond1.len beyond1.cap), (8, Value.int .i64 last1), (9, Value.int .i64 i)] ∧ F_towpathlaw08_ChainKeeps_k2 i again_ beyond1 last1 w) ?_ ?_
          · refine wpE_block (id := 1) (x := c_towpathlaw08_ChainKeeps_34) (by kernel_rfl) ?_
            refine wpE_seq_cut (x := c_towpathlaw08_ChainKeeps_35) (y := c_towpathlaw08_ChainKeeps_37) (by kernel_rfl) (fun l w => ∃ (t63 : Bool), l = [(0, Value.slice l_.ptr l_.len l_.cap), (1, Value.int .u16 mark), (2, Value.int .u8 more), (7, Value.slice beyond.ptr beyond.len beyond.cap), (8, Value.int .i64 last), (9, Value.int .i64 i), (63, Value.bool t63)] ∧ F_towpathlaw08_ChainKeeps_k3 l_ beyond last i again_ t63 w) ?_ ?_
            · refine wpE_region (id := 8) (ops := r_towpathlaw08_ChainKeeps_35) (by kernel_rfl) ?_
              refine reg_run [.plain, .plain] 2 [(0, [], Value.slice l_.ptr l_.len l_.cap), (1, [], Value.int .u16 mark), (2, [], Value.int .u8 more), (7, [], Value.slice beyond.ptr beyond.len beyond.cap), (8, [], Value.int .i64 last), (9, [], Value.int .i64 i), (43, [], Value.slice l_.ptr l_.len l_.cap), (44, [], Value.int .i64 i)] (by kernel_rfl) (by kernel_rfl) ?_
              obtain ⟨hp_34, h⟩ := h
              refine reg_conv [(0, [], Value.slice l_.ptr l_.len l_.cap), (1, [], Value.int .u16 mark), (2, [], Value.int .u8 more), (7, [], Value.slice beyond.ptr beyond.len beyond.cap), (8, [], Value.int .i64 last), (9, [], Value.int .i64 i), (43, [], Value.slice (some ⟨(pblk l_.ptr), (poff l_.ptr), none⟩) l_.len l_.cap), (44, [], Value.int .i64 i)] (congrArg (fun pp => ([(0, [], Value.slice l_.ptr l_.len l_.cap), (1, [], Value.int .u16 mark), (2, [], Value.int .u8 more), (7, [], Value.slice beyond.ptr beyond.len beyond.cap), (8, [], Value.int .i64 last), (9, [], Value.int .i64 i), (43, [], Value.slice pp l_.len l_.cap), (44, [], Value.int .i64 i)] : GEnv)) hp_34) ?_
              obtain ⟨h0, h1, h⟩ := h
              refine reg_indexS (t := 22) (e := 30) (x := (Go.Operand.tmp 43)) (ix := (Go.Operand.tmp 44)) (b := (pblk l_.ptr)) (o := (poff l_.ptr)) (l := l_.len) (c := l_.cap) (k := .i64) (j := i) (ty := 0) (dst := some 45) (sz := 3) (by kernel_rfl) (by kernel_rfl) (by kernel_rfl) (by kernel_rfl) (by kernel_rfl) h0 h1 ?_
              refine reg_run [.plain] 4 [(0, [], Value.slice l_.ptr l_.len l_.cap), (1, [], Value.int .u16 mark), (2, [], Value.int .u8 more), (7, [], Value.slice beyond.ptr beyond.len beyond.cap), (8, [], Value.int .i64 last), (9, [], Value.int .i64 i), (46, [], Value.pointer (some ⟨(pblk l_.ptr), (poff l_.ptr) + i.toNat * 3, none⟩))] (by kernel_rfl) (by kernel_rfl) ?_
              obtain ⟨v47, hc, h⟩ := h
              refine reg_load1 (t := 3) (a := (Go.Operand.tmp 46)) (b := (pblk l_.ptr)) (o := ((poff l_.ptr) + i.toNat * 3)) (ty := 3) (dst := some 47) (by kernel_rfl) (by kernel_rfl) (by kernel_rfl) hc ?_
              refine reg_run [.plain, .plain, .plain, .plain, .plain, .plain] 11 [(0, [], Value.slice l_.ptr l_.len l_.cap), (1, [], Value.int .u16 mark), (2, [], Value.int .u8 more), (7, [], Value.slice beyond.ptr beyond.len beyond.cap), (8, [], Value.int .i64 last), (9, [], Value.int .i64 i), (51, [], Value.bool (decide (v47 > (IntKind.i64.wrap mark)))), (52, [(51, true)], Value.slice l_.ptr l_.len l_.cap), (53, [(51, true)], Value.int .i64 i)] (by kernel_rfl) (by kernel_rfl) ?_
              refine reg_split 51 (decide (v47 > (IntKind.i64.wrap mark))) (by kernel_rfl) (fun hb => ?_) (fun hb => ?_)
              · replace h := h.1 hb
                refine reg_run [] 11 [(0, [], Value.slice l_.ptr l_.len l_.cap), (1, [], Value.int .u16 mark), (2, [], Value.int .u8 more), (7, [], Value.slice beyond.ptr beyond.len beyond.cap), (8, [], Value.int .i64 last), (9, [], Value.int .i64 i), (51, [], Value.bool true), (52, [], Value.slice l_.ptr l_.len l_.cap), (53, [], Value.int .i64 i)] (by kernel_rfl) (by kernel_rfl) ?_
                refine reg_run [] 11 [(0, [], Value.slice l_.ptr l_.len l_.cap), (1, [], Value.int .u16 mark), (2, [], Value.int .u8 more), (7, [], Value.slice beyond.ptr beyond.len beyond.cap), (8, [], Value.int .i64 last), (9, [], Value.int .i64 i), (51, [], Value.bool true), (52, [], Value.slice l_.ptr l_.len l_.cap), (53, [], Value.int .i64 i)] (by kernel_rfl) (by kernel_rfl) ?_
                obtain ⟨hp_35, h⟩ := h
                refine reg_conv [(0, [], Value.slice l_.ptr l_.len l_.cap), (1, [], Value.int .u16 mark), (2, [], Value.int .u8 more), (7, [], Value.slice beyond.ptr beyond.len beyond.cap), (8, [], Value.int .i64 last), (9, [], Value.int .i64 i), (51, [], Value.bool true), (52, [], Value.slice (some ⟨(pblk l_.ptr), (poff l_.ptr), none⟩) l_.len l_.cap), (53, [], Value.int .i64 i)] (congrArg (fun pp => ([(0, [], Value.slice l_.ptr l_.len l_.cap), (1, [], Value.int .u16 mark), (2, [], Value.int .u8 more), (7, [], Value.slice beyond.ptr beyond.len beyond.cap), (8, [], Value.int .i64 last), (9, [], Value.int .i64 i), (51, [], Value.bool true), (52, [], Value.slice pp l_.len l_.cap), (53, [], Value.int .i64 i)] : GEnv)) hp_35) ?_
                obtain ⟨h0, h1, h⟩ := h
                refine reg_indexS (t := 22) (e := 30) (x := (Go.Operand.tmp 52)) (ix := (Go.Operand.tmp 53)) (b := (pblk l_.ptr)) (o := (poff l_.ptr)) (l := l_.len) (c := l_.cap) (k := .i64) (j := i) (ty := 0) (dst := some 54) (sz := 3) (by kernel_rfl) (by kernel_rfl) (by kernel_rfl) (by kernel_rfl) (by kernel_rfl) h0 h1 ?_
                refine reg_run [.sure] 13 [(0, [], Value.slice l_.ptr l_.len l_.cap), (1, [], Value.int .u16 mark), (2, [], Value.int .u8 more), (7, [], Value.slice beyond.ptr beyond.len beyond.cap), (8, [], Value.int .i64 last), (9, [], Value.int .i64 i), (51, [], Value.bool true), (55, [], Value.pointer (some ⟨(pblk l_.ptr), (poff l_.ptr) + i.toNat * 3, none⟩))] (by kernel_rfl) (by kernel_rfl) ?_
                obtain ⟨v56, hc, h⟩ := h
                refine reg_load1 (t := 3) (a := (Go.Operand.tmp 55)) (b := (pblk l_.ptr)) (o := ((poff l_.ptr) + i.toNat * 3)) (ty := 3) (dst := some 56) (by kernel_rfl) (by kernel_rfl) (by kernel_rfl) hc ?_
                refine reg_run [.sure, .sure, .sure, .sure, .sure, .sure, .plain] 21 [(0, [], Value.slice l_.ptr l_.len l_.cap), (1, [], Value.int .u16 mark), (2, [], Value.int .u8 more), (7, [], Value.slice beyond.ptr beyond.len beyond.cap), (8, [], Value.int .i64 last), (9, [], Value.int .i64 i), (63, [], Value.bool (decide (v56 ≤ (IntKind.i64.wrap ((IntKind.i64.wrap mark) + (IntKind.i64.wrap more))))))] (by kernel_rfl) (by kernel_rfl) ?_
                refine reg_end [(0, Value.slice l_.ptr l_.len l_.cap), (1, Value.int .u16 mark), (2, Value.int .u8 more), (7, Value.slice beyond.ptr beyond.len beyond.cap), (8, Value.int .i64 last), (9, Value.int .i64 i), (63, Value.bool (decide (v56 ≤ (IntKind.i64.wrap ((IntKind.i64.wrap mark) + (IntKind.i64.wrap more))))))] (by kernel_rfl) (by kernel_rfl) ?_
                exact ⟨[(0, Value.slice l_.ptr l_.len l_.cap), (1, Value.int .u16 mark), (2, Value.int .u8 more), (7, Value.slice beyond.ptr beyond.len beyond.cap), (8, Value.int .i64 last), (9, Value.int .i64 i), (63, Value.bool (decide (v56 ≤ (IntKind.i64.wrap ((IntKind.i64.wrap mark) + (IntKind.i64.wrap more))))))], Sub.mk (by kernel_rfl), (decide (v56 ≤ (IntKind.i64.wrap ((IntKind.i64.wrap mark) + (IntKind.i64.wrap more))))), rfl, h⟩
              · replace h := h.2 hb
                refine reg_run [] 11 [(0, [], Value.slice l_.ptr l_.len l_.cap), (1, [], Value.int .u16 mark), (2, [], Value.int .u8 more), (7, [], Value.slice beyond.ptr beyond.len beyond.cap), (8, [], Value.int .i64 last), (9, [], Value.int .i64 i), (51, [], Value.bool false), (52, [], undef), (53, [], undef)] (by kernel_rfl) (by kernel_rfl) ?_
                refine reg_run [.skip, .skip, .skip, .skip, .skip, .skip, .skip, .skip, .skip, .plain] 21 [(0, [], Value.slice l_.ptr l_.len l_.cap), (1, [], Value.int .u16 mark), (2, [], Value.int .u8 more), (7, [], Value.slice beyond.ptr beyond.len beyond.cap), (8, [], Value.int .i64 last), (9, [], Value.int .i64 i), (63, [], Value.bool false)] (by kernel_rfl) (by kernel_rfl) ?_
                refine reg_end [(0, Value.slice l_.ptr l_.len l_.cap), (1, Value.int .u16 mark), (2, Value.int .u8 more), (7, Value.slice beyond.ptr beyond.len beyond.cap), (8, Value.int .i64 last), (9, Value.int .i64 i), (63, Value.bool false)] (by kernel_rfl) (by kernel_rfl) ?_
                exact ⟨[(0, Value.slice l_.ptr l_.len l_.cap), (1, Value.int .u16 mark), (2, Value.int .u8 more), (7, Value.slice beyond.ptr beyond.len beyond.cap), (8, Value.int .i64 last), (9, Value.int .i64 i), (63, Value.bool false)], Sub.mk (by kernel_rfl), false, rfl, h⟩
            · rintro _ w5 ⟨t63, rfl, h⟩
              unfold F_towpathlaw08_ChainKeeps_k3 at h
              refine wpE_cond (o := (Operand.tmp 63)) (b := t63) (x := c_towpathlaw08_ChainKeeps_38) (y := c_towpathlaw08_ChainKeeps_48) (by kernel_rfl) (by kernel_rfl) (fun hb => ?_) (fun hb => ?_)
              · replace h := h.1 hb
                refine wpE_seq (x := c_towpathlaw08_ChainKeeps_39) (y := c_towpathlaw08_ChainKeeps_41) (by kernel_rfl) ?_
                refine wpE_region (id := 9) (ops := r_towpathlaw08_ChainKeeps_39) (by kernel_rfl) ?_
                refine reg_run [.plain, .plain, .plain] 3 [(0, [], Value.slice l_.ptr l_.len l_.cap), (1, [], Value.int .u16 mark), (2, [], Value.int .u8 more), (7, [], Value.slice beyond.ptr beyond.len beyond.cap), (8, [], Value.int .i64 last), (9, [], Value.int .i64 i), (64, [], Value.slice beyond.ptr beyond.len beyond.cap), (65, [], Value.slice l_.ptr l_.len l_.cap), (66, [], Value.int .i64 i)] (by kernel_rfl) (by kernel_rfl) ?_
                obtain ⟨hp_30, h⟩ := h
                refine reg_conv [(0, [], Value.slice l_.ptr l_.len l_.cap), (1, [], Value.int .u16 mark), (2, [], Value.int .u8 more), (7, [], Value.slice beyond.ptr beyond.len beyond.cap), (8, [], Value.int .i64 last), (9, [], Value.int .i64 i), (64, [], Value.slice beyond.ptr beyond.len beyond.cap), (65, [], Value.slice (some ⟨(pblk l_.ptr), (poff l_.ptr), none⟩) l_.len l_.cap), (66, [], Value.int .i64 i)] (congrArg (fun pp => ([(0, [], Value.slice l_.ptr l_.len l_.cap), (1, [], Value.int .u16 mark), (2, [], Value.int .u8 more), (7, [], Value.slice beyond.ptr beyond.len beyond.cap), (8, [], Value.int .i64 last), (9, [], Value.int .i64 i), (64, [], Value.slice beyond.ptr beyond.len beyond.cap), (65, [], Value.slice pp l_.len l_.cap), (66, [], Value.int .i64 i)] : GEnv)) hp_30) ?_
                obtain ⟨h0, h1, h⟩ := h
                refine reg_indexS (t := 22) (e := 30) (x := (Go.Operand.tmp 65)) (ix := (Go.Operand.tmp 66)) (b := (pblk l_.ptr)) (o := (poff l_.ptr)) (l := l_.len) (c := l_.cap) (k := .i64) (j := i) (ty := 0) (dst := some 67) (sz := 3) (by kernel_rfl) (by kernel_rfl) (by kernel_rfl) (by kernel_rfl) (by kernel_rfl) h0 h1 ?_
                refine reg_run [.plain] 5 [(0, [], Value.slice l_.ptr l_.len l_.cap), (1, [], Value.int .u16 mark), (2, [], Value.int .u8 more), (7, [], Value.slice beyond.ptr beyond.len beyond.cap), (8, [], Value.int .i64 last), (9, [], Value.int .i64 i), (64, [], Value.slice beyond.ptr beyond.len beyond.cap), (68, [], Value.pointer (some ⟨(pblk l_.ptr), (poff l_.ptr) + i.toNat * 3, none⟩))] (by kernel_rfl) (by kernel_rfl) ?_
                obtain ⟨v69, hc, h⟩ := h
                refine reg_load1 (t := 3) (a := (Go.Operand.tmp 68)) (b := (pblk l_.ptr)) (o := ((poff l_.ptr) + i.toNat * 3)) (ty := 3) (dst := some 69) (by kernel_rfl) (by kernel_rfl) (by kernel_rfl) hc ?_
                refine reg_run [] 6 [(0, [], Value.slice l_.ptr l_.len l_.cap), (1, [], Value.int .u16 mark), (2, [], Value.int .u8 more), (7, [], Value.slice beyond.ptr beyond.len beyond.cap), (8, [], Value.int .i64 last), (9, [], Value.int .i64 i), (64, [], Value.slice beyond.ptr beyond.len beyond.cap), (69, [], Value.int .i64 v69)] (by kernel_rfl) (by kernel_rfl) ?_
                refine reg_new (op := (Go.Op.buildSlice 41 1 #[(0, (Go.Operand.tmp 69))])) (ty := 41) (dst := some 70) (fun bb => Value.slice (some ⟨bb, 0, none⟩) 1 1) (Obj.cells ([Value.int .i64 v69]).toArray ty_int (0, 0)) (by kernel_rfl) (by kernel_rfl) (fun b_ w6 hb hw => ?_)
                replace h := h b_ w6 hb hw
                clear hb hw
                refine reg_run [] 7 [(0, [], Value.slice l_.ptr l_.len l_.cap), (1, [], Value.int .u16 mark), (2, [], Value.int .u8 more), (7, [], Value.slice beyond.ptr beyond.len beyond.cap), (8, [], Value.int .i64 last), (9, [], Value.int .i64 i), (64, [], Value.slice beyond.ptr beyond.len beyond.cap), (70, [], Value.slice (some ⟨b_, 0, none⟩) 1 1)] (by kernel_rfl) (by kernel_rfl) ?_
                obtain ⟨src, hs, h⟩ := h
                refine reg_append (t := 41) (tx := 41) (e := 3) (a := (Go.Operand.tmp 64)) (xo := (Go.Operand.tmp 70)) (s := beyond) (x := (Slc.mk (some ⟨b_, 0, none⟩) 1 1)) (sz := 1) (by_ := 8) (zs := [Value.int .i64 0]) (ty := 41) (dst := some 71)  src (by kernel_rfl) (by kernel_rfl) (by kernel_rfl) (by kernel_rfl) (by kernel_rfl) (by kernel_rfl) (by kernel_rfl) (by kernel_rfl) (by kernel_rfl) hs (AppendW.mono h (fun beyond2 w7 h => ?_))
                refine reg_run [.plain] 9 [(0, [], Value.slice l_.ptr l_.len l_.cap), (1, [], Value.int .u16 mark), (2, [], Value.int .u8 more), (7, [], Value.slice beyond2.ptr beyond2.len beyond2.cap), (8, [], Value.int .i64 last), (9, [], Value.int .i64 i)] (by kernel_rfl) (by kernel_rfl) ?_
                refine reg_end [(0, Value.slice l_.ptr l_.len l_.cap), (1, Value.int .u16 mark), (2, Value.int .u8 more), (7, Value.slice beyond2.ptr beyond2.len beyond2.cap), (8, Value.int .i64 last), (9, Value.int .i64 i)] (by kernel_rfl) (by kernel_rfl) ?_
                change WpE _ _ c_towpathlaw08_ChainKeeps_41 _ _ _
                refine wpE_seq (x := c_towpathlaw08_ChainKeeps_42) (y := c_towpathlaw08_ChainKeeps_44) (by kernel_rfl) ?_
                refine wpE_region (id := 10) (ops := r_towpathlaw08_ChainKeeps_42) (by kernel_rfl) ?_
                refine reg_run [.plain, .plain] 2 [(0, [], Value.slice l_.ptr l_.len l_.cap), (1, [], Value.int .u16 mark), (2, [], Value.int .u8 more), (7, [], Value.slice beyond2.ptr beyond2.len beyond2.cap), (8, [], Value.int .i64 last), (9, [], Value.int .i64 i), (72, [], Value.slice l_.ptr l_.len l_.cap), (73, [], Value.int .i64 i)] (by kernel_rfl) (by kernel_rfl) ?_
                obtain ⟨hp_32, h⟩ := h
                refine reg_conv [(0, [], Value.slice l_.ptr l_.len l_.cap), (1, [], Value.int .u16 mark), (2, [], Value.int .u8 more), (7, [], Value.slice beyond2.ptr beyond2.len beyond2.cap), (8, [], Value.int .i64 last), (9, [], Value.int .i64 i), (72, [], Value.slice (some ⟨(pblk l_.ptr), (poff l_.ptr), none⟩) l_.len l_.cap), (73, [], Value.int .i64 i)] (congrArg (fun pp => ([(0, [], Value.slice l_.ptr l_.len l_.cap), (1, [], Value.int .u16 mark), (2, [], Value.int .u8 more), (7, [], Value.slice beyond2.ptr beyond2.len beyond2.cap), (8, [], Value.int .i64 last), (9, [], Value.int .i64 i), (72, [], Value.slice pp l_.len l_.cap), (73, [], Value.int .i64 i)] : GEnv)) hp_32) ?_
                obtain ⟨h0, h1, h⟩ := h
                refine reg_indexS (t := 22) (e := 30) (x := (Go.Operand.tmp 72)) (ix := (Go.Operand.tmp 73)) (b := (pblk l_.ptr)) (o := (poff l_.ptr)) (l := l_.len) (c := l_.cap) (k := .i64) (j := i) (ty := 0) (dst := some 74) (sz := 3) (by kernel_rfl) (by kernel_rfl) (by kernel_rfl) (by kernel_rfl) (by kernel_rfl) h0 h1 ?_
                refine reg_run [.plain] 4 [(0, [], Value.slice l_.ptr l_.len l_.cap), (1, [], Value.int .u16 mark), (2, [], Value.int .u8 more), (7, [], Value.slice beyond2.ptr beyond2.len beyond2.cap), (8, [], Value.int .i64 last), (9, [], Value.int .i64 i), (75, [], Value.pointer (some ⟨(pblk l_.ptr), (poff l_.ptr) + i.toNat * 3, none⟩))] (by kernel_rfl) (by kernel_rfl) ?_
                obtain ⟨v76, hc, h⟩ := h
                refine reg_load1 (t := 3) (a := (Go.Operand.tmp 75)) (b := (pblk l_.ptr)) (o := ((poff l_.ptr) + i.toNat * 3)) (ty := 3) (dst := some 76) (by kernel_rfl) (by kernel_rfl) (by kernel_rfl) hc ?_
                refine reg_run [.plain, .plain] 7 [(0, [], Value.slice l_.ptr l_.len l_.cap), (1, [], Value.int .u16 mark), (2, [], Value.int .u8 more), (7, [], Value.slice beyond2.ptr beyond2.len beyond2.cap), (8, [], Value.int .i64 last), (9, [], Value.int .i64 i), (78, [], Value.bool (decide (v76 > last)))] (by kernel_rfl) (by kernel_rfl) ?_
                refine reg_end [(0, Value.slice l_.ptr l_.len l_.cap), (1, Value.int .u16 mark), (2, Value.int .u8 more), (7, Value.slice beyond2.ptr beyond2.len beyond2.cap), (8, Value.int .i64 last), (9, Value.int .i64 i), (78, Value.bool (decide (v76 > last)))] (by kernel_rfl) (by kernel_rfl) ?_
                change WpE _ _ c_towpathlaw08_ChainKeeps_44 _ _ _
                refine wpE_cond (o := (Operand.tmp 78)) (b := (decide (v76 > last))) (x := c_towpathlaw08_ChainKeeps_45) (y := c_towpathlaw08_ChainKeeps_47) (by kernel_rfl) (by kernel_rfl) (fun hb => ?_) (fun hb => ?_)
                · replace h := h.1 hb
                  refine wpE_region (id := 11) (ops := r_towpathlaw08_ChainKeeps_45) (by kernel_rfl) ?_
                  refine reg_run [.plain, .plain] 2 [(0, [], Value.slice l_.ptr l_.len l_.cap), (1, [], Value.int .u16 mark), (2, [], Value.int .u8 more), (7, [], Value.slice beyond2.ptr beyond2.len beyond2.cap), (8, [], Value.int .i64 last), (9, [], Value.int .i64 i), (79, [], Value.slice l_.ptr l_.len l_.cap), (80, [], Value.int .i64 i)] (by kernel_rfl) (by kernel_rfl) ?_
                  obtain ⟨hp_33, h⟩ := h
                  refine reg_conv [(0, [], Value.slice l_.ptr l_.len l_.cap), (1, [], Value.int .u16 mark), (2, [], Value.int .u8 more), (7, [], Value.slice beyond2.ptr beyond2.len beyond2.cap), (8, [], Value.int .i64 last), (9, [], Value.int .i64 i), (79, [], Value.slice (some ⟨(pblk l_.ptr), (poff l_.ptr), none⟩) l_.len l_.cap), (80, [], Value.int .i64 i)] (congrArg (fun pp => ([(0, [], Value.slice l_.ptr l_.len l_.cap), (1, [], Value.int .u16 mark), (2, [], Value.int .u8 more), (7, [], Value.slice beyond2.ptr beyond2.len beyond2.cap), (8, [], Value.int .i64 last), (9, [], Value.int .i64 i), (79, [], Value.slice pp l_.len l_.cap), (80, [], Value.int .i64 i)] : GEnv)) hp_33) ?_
                  obtain ⟨h0, h1, h⟩ := h
                  refine reg_indexS (t := 22) (e := 30) (x := (Go.Operand.tmp 79)) (ix := (Go.Operand.tmp 80)) (b := (pblk l_.ptr)) (o := (poff l_.ptr)) (l := l_.len) (c := l_.cap) (k := .i64) (j := i) (ty := 0) (dst := some 81) (sz := 3) (by kernel_rfl) (by kernel_rfl) (by kernel_rfl) (by kernel_rfl) (by kernel_rfl) h0 h1 ?_
                  refine reg_run [.plain] 4 [(0, [], Value.slice l_.ptr l_.len l_.cap), (1, [], Value.int .u16 mark), (2, [], Value.int .u8 more), (7, [], Value.slice beyond2.ptr beyond2.len beyond2.cap), (8, [], Value.int .i64 last), (9, [], Value.int .i64 i), (82, [], Value.pointer (some ⟨(pblk l_.ptr), (poff l_.ptr) + i.toNat * 3, none⟩))] (by kernel_rfl) (by kernel_rfl) ?_
                  obtain ⟨last2, hc, h⟩ := h
                  refine reg_load1 (t := 3) (a := (Go.Operand.tmp 82)) (b := (pblk l_.ptr)) (o := ((poff l_.ptr) + i.toNat * 3)) (ty := 3) (dst := some 83) (by kernel_rfl) (by kernel_rfl) (by kernel_rfl) hc ?_
                  refine reg_run [.plain] 6 [(0, [], Value.slice l_.ptr l_.len l_.cap), (1, [], Value.int .u16 mark), (2, [], Value.int .u8 more), (7, [], Value.slice beyond2.ptr beyond2.len beyond2.cap), (8, [], Value.int .i64 last2), (9, [], Value.int .i64 i)] (by kernel_rfl) (by kernel_rfl) ?_
                  refine reg_end [(0, Value.slice l_.ptr l_.len l_.cap), (1, Value.int .u16 mark), (2, Value.int .u8 more), (7, Value.slice beyond2.ptr beyond2.len beyond2.cap), (8, Value.int .i64 last2), (9, Value.int .i64 i)] (by kernel_rfl) (by kernel_rfl) ?_
                  exact ⟨[(0, Value.slice l_.ptr l_.len l_.cap), (1, Value.int .u16 mark), (2, Value.int .u8 more), (7, Value.slice beyond2.ptr beyond2.len beyond2.cap), (8, Value.int .i64 last2), (9, Value.int .i64 i)], Sub.mk (by kernel_rfl), beyond2, last2, rfl, h⟩
                · replace h := h.2 hb
                  refine wpE_skip (by kernel_rfl) ?_
                  exact ⟨[(0, Value.slice l_.ptr l_.len l_.cap), (1, Value.int .u16 mark), (2, Value.int .u8 more), (7, Value.slice beyond2.ptr beyond2.len beyond2.cap), (8, Value.int .i64 last), (9, Value.int .i64 i)], Sub.mk (by kernel_rfl), beyond2, last, rfl, h⟩
              · replace h := h.2 hb
                refine wpE_skip (by kernel_rfl) ?_
                exact ⟨[(0, Value.slice l_.ptr l_.len l_.cap), (1, Value.int .u16 mark), (2, Value.int .u8 more), (7, Value.slice beyond.ptr beyond.len beyond.cap), (8, Value.int .i64 last), (9, Value.int .i64 i)], Sub.mk (by kernel_rfl), beyond, last, rfl, h⟩
          · rintro _ w4 ⟨beyond1, last1, rfl, h⟩
            unfold F_towpathlaw08_ChainKeeps_k2 at h
            refine wpE_region (id := 7) (ops := r_towpathlaw08_ChainKeeps_49) (by kernel_rfl) ?_
            refine reg_run [.plain, .plain, .plain] 3 [(0, [], Value.slice l_.ptr l_.len l_.cap), (1, [], Value.int .u16 mark), (2, [], Value.int .u8 more), (7, [], Value.slice beyond1.ptr beyond1.len beyond1.cap), (8, [], Value.int .i64 last1), (9, [], Value.int .i64 (IntKind.i64.wrap (i - 1)))] (by kernel_rfl) (by kernel_rfl) ?_
            refine reg_end [(0, Value.slice l_.ptr l_.len l_.cap), (1, Value.int .u16 mark), (2, Value.int .u8 more), (7, Value.slice beyond1.ptr beyond1.len beyond1.cap), (8, Value.int .i64 last1), (9, Value.int .i64 (IntKind.i64.wrap (i - 1)))] (by kernel_rfl) (by kernel_rfl) ?_
            have hb_ := again__h _ _ _ _ h
            exact ⟨_, hb_.2, [(0, Value.slice l_.ptr l_.len l_.cap), (1, Value.int .u16 mark), (2, Value.int .u8 more), (7, Value.slice beyond1.ptr beyond1.len beyond1.cap), (8, Value.int .i64 last1), (9, Value.int .i64 (IntKind.i64.wrap (i - 1)))], Sub.mk (by kernel_rfl), beyond1, last1, (IntKind.i64.wrap (i - 1)), rfl, hb_.1, rfl⟩
        · replace h := h.2 hb
          refine wpE_exit (id := 0) (by kernel_rfl) ?_
          change WpE _ _ c_towpathlaw08_ChainKeeps_51 _ _ _
          refine wpE_seq (x := c_towpathlaw08_ChainKeeps_52) (y := c_towpathlaw08_ChainKeeps_54) (by kernel_rfl) ?_
          refine wpE_region (id := 12) (ops := r_towpathlaw08_ChainKeeps_52) (by kernel_rfl) ?_
          refine reg_run [.plain, .plain, .plain, .plain] 4 [(0, [], Value.slice l_.ptr l_.len l_.cap), (1, [], Value.int .u16 mark), (8, [], Value.int .i64 last), (85, [], Value.slice l_.ptr l_.len l_.cap), (87, [], Value.int .i64 (IntKind.i64.wrap mark)), (88, [], Value.slice beyond.ptr beyond.len beyond.cap)] (by kernel_rfl) (by kernel_rfl) ?_
          refine reg_enter (op := (Go.Op.call (Go.Call.mk (Go.Callee.value (Go.Operand.func 15)) #[(Go.Operand.tmp 85), (Go.Operand.tmp 87), (Go.Operand.tmp 88)] #[22, 3, 41]))) (ty := 42) (dst := some 89) 15 #[Value.slice l_.ptr l_.len l_.cap, Value.int .i64 (IntKind.i64.wrap mark), Value.slice beyond.ptr beyond.len beyond.cap] (by kernel_rfl) (fun ww => by kernel_rfl) (Calls.mono h ?_)
          rintro _ w8 ⟨x, e, rfl, h⟩
          refine ⟨_, rfl, ?_⟩
          refine reg_run [.plain, .plain, .plain, .plain, .plain] 10 [(0, [], Value.slice l_.ptr l_.len l_.cap), (1, [], Value.int .u16 mark), (8, [], Value.int .i64 last), (10, [], Value.slice x.ptr x.len x.cap), (11, [], Value.int .i64 e)] (by kernel_rfl) (by kernel_rfl) ?_
          refine reg_end [(0, Value.slice l_.ptr l_.len l_.cap), (1, Value.int .u16 mark), (8, Value.int .i64 last), (10, Value.slice x.ptr x.len x.cap), (11, Value.int .i64 e)] (by kernel_rfl) (by kernel_rfl) ?_
          change WpE _ _ c_towpathlaw08_ChainKeeps_54 _ _ _
          refine wpE_seq (x := c_towpathlaw08_ChainKeeps_55) (y := c_towpathlaw08_ChainKeeps_64) (by kernel_rfl) ?_
          refine wpE_seq_cut (x := c_towpathlaw08_ChainKeeps_56) (y := c_towpathlaw08_ChainKeeps_58) (by kernel_rfl) (fun l w => ∃ (t98 : Bool), l = [(0, Value.slice l_.ptr l_.len l_.cap), (1, Value.int .u16 mark), (8, Value.int .i64 last), (10, Value.slice x.ptr x.len x.cap), (98, Value.bool t98)] ∧ F_towpathlaw08_ChainKeeps_k4 l_ mark R last x t98 w) ?_ ?_
          · refine wpE_region (id := 13) (ops := r_towpathlaw08_ChainKeeps_56) (by kernel_rfl) ?_
            refine reg_run [.plain, .plain, .plain, .plain] 4 [(0, [], Value.slice l_.ptr l_.len l_.cap), (1, [], Value.int .u16 mark), (8, [], Value.int .i64 last), (10, [], Value.slice x.ptr x.len x.cap), (94, [], Value.bool (e != 0)), (95, [(94, false)], Value.slice x.ptr x.len x.cap)] (by kernel_rfl) (by kernel_rfl) ?_
            refine reg_split 94 (e != 0) (by kernel_rfl) (fun hb => ?_) (fun hb => ?_)
            · replace h := h.1 hb
              refine reg_run [] 4 [(0, [], Value.slice l_.ptr l_.len l_.cap), (1, [], Value.int .u16 mark), (8, [], Value.int .i64 last), (10, [], Value.slice x.ptr x.len x.cap), (94, [], Value.bool true), (95, [], undef)] (by kernel_rfl) (by kernel_rfl) ?_
              refine reg_run [.skip, .skip, .plain] 7 [(0, [], Value.slice l_.ptr l_.len l_.cap), (1, [], Value.int .u16 mark), (8, [], Value.int .i64 last), (10, [], Value.slice x.ptr x.len x.cap), (98, [], Value.bool true)] (by kernel_rfl) (by kernel_rfl) ?_
              refine reg_end [(0, Value.slice l_.ptr l_.len l_.cap), (1, Value.int .u16 mark), (8, Value.int .i64 last), (10, Value.slice x.ptr x.len x.cap), (98, Value.bool true)] (by kernel_rfl) (by kernel_rfl) ?_
              exact ⟨[(0, Value.slice l_.ptr l_.len l_.cap), (1, Value.int .u16 mark), (8, Value.int .i64 last), (10, Value.slice x.ptr x.len x.cap), (98, Value.bool true)], Sub.mk (by kernel_rfl), true, rfl, h⟩
            · replace h := h.2 hb
              refine reg_run [] 4 [(0, [], Value.slice l_.ptr l_.len l_.cap), (1, [], Value.int .u16 mark), (8, [], Value.int .i64 last), (10, [], Value.slice x.ptr x.len x.cap), (94, [], Value.bool false), (95, [], Value.slice x.ptr x.len x.cap)] (by kernel_rfl) (by kernel_rfl) ?_
              refine reg_run [] 4 [(0, [], Value.slice l_.ptr l_.len l_.cap), (1, [], Value.int .u16 mark), (8, [], Value.int .i64 last), (10, [], Value.slice x.ptr x.len x.cap), (94, [], Value.bool false), (95, [], Value.slice x.ptr x.len x.cap)] (by kernel_rfl) (by kernel_rfl) ?_
              refine reg_enter (op := (Go.Op.call (Go.Call.mk (Go.Callee.value (Go.Operand.func 11)) #[(Go.Operand.tmp 95)] #[22]))) (ty := 26) (dst := some 96) 11 #[Value.slice x.ptr x.len x.cap] (by kernel_rfl) (fun ww => by kernel_rfl) (Calls.mono h ?_)
              rintro _ w23 ⟨v96, rfl, h⟩
              refine ⟨_, rfl, ?_⟩
              refine reg_run [.sure, .plain] 7 [(0, [], Value.slice l_.ptr l_.len l_.cap), (1, [], Value.int .u16 mark), (8, [], Value.int .i64 last), (10, [], Value.slice x.ptr x.len x.cap), (98, [], Value.bool (v96 != 0))] (by kernel_rfl) (by kernel_rfl) ?_
              refine reg_end [(0, Value.slice l_.ptr l_.len l_.cap), (1, Value.int .u16 mark), (8, Value.int .i64 last), (10, Value.slice x.ptr x.len x.cap), (98, Value.bool (v96 != 0))] (by kernel_rfl) (by kernel_rfl) ?_
              exact ⟨[(0, Value.slice l_.ptr l_.len l_.cap), (1, Value.int .u16 mark), (8, Value.int .i64 last), (10, Value.slice x.ptr x.len x.cap), (98, Value.bool (v96 != 0))], Sub.mk (by kernel_rfl), (v96 != 0), rfl, h⟩
          · rintro _ w9 ⟨t98, rfl, h⟩
            unfold F_towpathlaw08_ChainKeeps_k4 at h
            refine wpE_cond (o := (Operand.tmp 98)) (b := t98) (x := c_towpathlaw08_ChainKeeps_59) (y := c_towpathlaw08_ChainKeeps_63) (by kernel_rfl) (by kernel_rfl) (fun hb => ?_) (fun hb => ?_)
            · replace h := h.1 hb
              refine wpE_seq (x := c_towpathlaw08_ChainKeeps_60) (y := c_towpathlaw08_ChainKeeps_62) (by kernel_rfl) ?_
              refine wpE_region (id := 14) (ops := r_towpathlaw08_ChainKeeps_60) (by kernel_rfl) ?_
              refine reg_run [.plain] 1 [(6, [], Value.bool false)] (by kernel_rfl) (by kernel_rfl) ?_
              refine reg_end [(6, Value.bool false)] (by kernel_rfl) (by kernel_rfl) ?_
              change WpE _ _ c_towpathlaw08_ChainKeeps_62 _ _ _
              refine wpE_ret (by kernel_rfl) ?_
              repeat (first | refine seqQ_ret ?_ | refine blockQ_ret ?_ | refine loopQ_ret ?_ | refine cutQ_ret ?_)
              exact retS (rs := [(Go.ResultVar.tmp 6)]) (v := Value.bool false) (by kernel_rfl) (⟨by kernel_rfl, trivial⟩) ⟨false, rfl, h⟩
            · replace h := h.2 hb
              refine wpE_skip (by kernel_rfl) ?_
              change WpE _ _ c_towpathlaw08_ChainKeeps_64 _ _ _
              refine wpE_seq (x := c_towpathlaw08_ChainKeeps_65) (y := c_towpathlaw08_ChainKeeps_119) (by kernel_rfl) ?_
              refine wpE_seq (x := c_towpathlaw08_ChainKeeps_66) (y := c_towpathlaw08_ChainKeeps_68) (by kernel_rfl) ?_
              refine wpE_region (id := 15) (ops := r_towpathlaw08_ChainKeeps_66) (by kernel_rfl) ?_
              refine reg_run [.plain, .plain, .plain] 3 [(0, [], Value.slice l_.ptr l_.len l_.cap), (1, [], Value.int .u16 mark), (8, [], Value.int .i64 last), (10, [], Value.slice x.ptr x.len x.cap), (12, [], Value.int .i64 (IntKind.i64.wrap mark))] (by kernel_rfl) (by kernel_rfl) ?_
              refine reg_end [(0, Value.slice l_.ptr l_.len l_.cap), (1, Value.int .u16 mark), (8, Value.int .i64 last), (10, Value.slice x.ptr x.len x.cap), (12, Value.int .i64 (IntKind.i64.wrap mark))] (by kernel_rfl) (by kernel_rfl) ?_
              change WpE _ _ c_towpathlaw08_ChainKeeps_68 _ _ _
              refine wpE_block (id := 2) (x := c_towpathlaw08_ChainKeeps_69) (by kernel_rfl) ?_
              obtain ⟨I, μ, h0, hr⟩ := h
              refine wpE_loop (x := c_towpathlaw08_ChainKeeps_70) (by kernel_rfl) (fun m l w => ∃ (at_ : Int), l = [(0, Value.slice l_.ptr l_.len l_.cap), (1, Value.int .u16 mark), (8, Value.int .i64 last), (10, Value.slice x.ptr x.len x.cap), (12, Value.int .i64 at_)] ∧ I at_ w ∧ μ at_ w = m) (l' := [(0, Value.slice l_.ptr l_.len l_.cap), (1, Value.int .u16 mark), (8, Value.int .i64 last), (10, Value.slice x.ptr x.len x.cap), (12, Value.int .i64 (IntKind.i64.wrap mark))]) (Sub.mk (by kernel_rfl)) ⟨(IntKind.i64.wrap mark), rfl, h0, rfl⟩ ?_
              rintro _ _ w10 ⟨at_, rfl, hI, rfl⟩
              obtain ⟨again_1, again_1_h, h⟩ : ∃ again_1 : Int → World → Prop, (∀ at_' w', again_1 at_' w' → I at_' w' ∧ μ at_' w' < μ at_ w10) ∧ F_towpathlaw08_ChainKeeps_L5 l_ mark R last x again_1 at_ w10 := ⟨_, fun _ _ h => h, hr at_ w10 hI⟩
              clear h0 hI
              unfold F_towpathlaw08_ChainKeeps_L5 at h
              refine wpE_seq (x := c_towpathlaw08_ChainKeeps_71) (y := c_towpathlaw08_ChainKeeps_77) (by kernel_rfl) ?_
              refine wpE_seq (x := c_towpathlaw08_ChainKeeps_72) (y := c_towpathlaw08_ChainKeeps_74) (by kernel_rfl) ?_
              refine wpE_region (id := 16) (ops := r_towpathlaw08_ChainKeeps_72) (by kernel_rfl) ?_
              refine reg_run [.plain, .plain, .plain] 3 [(0, [], Value.slice l_.ptr l_.len l_.cap), (1, [], Value.int .u16 mark), (8, [], Value.int .i64 last), (10, [], Value.slice x.ptr x.len x.cap), (12, [], Value.int .i64 at_), (103, [], Value.bool (decide (at_ ≤ last)))] (by kernel_rfl) (by kernel_rfl) ?_
              refine reg_end [(0, Value.slice l_.ptr l_.len l_.cap), (1, Value.int .u16 mark), (8, Value.int .i64 last), (10, Value.slice x.ptr x.len x.cap), (12, Value.int .i64 at_), (103, Value.bool (decide (at_ ≤ last)))] (by kernel_rfl) (by kernel_rfl) ?_
              change WpE _ _ c_towpathlaw08_ChainKeeps_74 _ _ _
              refine wpE_cond (o := (Operand.tmp 103)) (b := (decide (at_ ≤ last))) (x := c_towpathlaw08_ChainKeeps_75) (y := c_towpathlaw08_ChainKeeps_76) (by kernel_rfl) (by kernel_rfl) (fun hb => ?_) (fun hb => ?_)
              · replace h := h.1 hb
                refine wpE_skip (by kernel_rfl) ?_
                change WpE _ _ c_towpathlaw08_ChainKeeps_77 _ _ _
                refine wpE_seq_cut (x := c_towpathlaw08_ChainKeeps_78) (y := c_towpathlaw08_ChainKeeps_117) (by kernel_rfl) (fun l w => l = [(0, Value.slice l_.ptr l_.len l_.cap), (1, Value.int .u16 mark), (8, Value.int .i64 last), (10, Value.slice x.ptr x.len x.cap), (12, Value.int .i64 at_)] ∧ F_towpathlaw08_ChainKeeps_k6 mark last at_ again_1 w) ?_ ?_
                · refine wpE_block (id := 3) (x := c_towpathlaw08_ChainKeeps_79) (by kernel_rfl) ?_
                  refine wpE_seq (x := c_towpathlaw08_ChainKeeps_80) (y := c_towpathlaw08_ChainKeeps_82) (by kernel_rfl) ?_
                  refine wpE_region (id := 18) (ops := r_towpathlaw08_ChainKeeps_80) (by kernel_rfl) ?_
                  refine reg_run [.plain, .plain] 2 [(0, [], Value.slice l_.ptr l_.len l_.cap), (1, [], Value.int .u16 mark), (8, [], Value.int .i64 last), (10, [], Value.slice x.ptr x.len x.cap), (12, [], Value.int .i64 at_), (112, [], Value.slice l_.ptr l_.len l_.cap), (113, [], Value.int .i64 at_)] (by kernel_rfl) (by kernel_rfl) ?_
                  refine reg_enter (op := (Go.Op.call (Go.Call.mk (Go.Callee.value (Go.Operand.func 13)) #[(Go.Operand.tmp 112), (Go.Operand.tmp 113)] #[22, 3]))) (ty := 33) (dst := some 114) 13 #[Value.slice l_.ptr l_.len l_.cap, Value.int .i64 at_] (by kernel_rfl) (fun ww => by kernel_rfl) (Calls.mono h ?_)
                  rintro _ w12 ⟨v114, ok, f, rfl, h⟩
                  refine ⟨_, rfl, ?_⟩
                  refine reg_run [.plain, .plain, .plain, .plain] 7 [(0, [], Value.slice l_.ptr l_.len l_.cap), (1, [], Value.int .u16 mark), (8, [], Value.int .i64 last), (10, [], Value.slice x.ptr x.len x.cap), (12, [], Value.int .i64 at_), (115, [], Value.agg #[Value.int .i64 v114.Number, Value.string v114.Val, Value.bool v114.Drop]), (116, [], Value.bool ok), (117, [], Value.int .i64 f)] (by kernel_rfl) (by kernel_rfl) ?_
                  refine reg_new (op := (Go.Op.alloc 30)) (ty := 0) (dst := some 13) (fun bb => Value.pointer (some ⟨bb, 0, none⟩)) (Obj.cells ([Value.int .i64 0, Value.string ByteArray.empty, Value.bool false]).toArray ty_api_Version (0, 0)) (by kernel_rfl) (by kernel_rfl) (fun b_1 w13 hb hw => ?_)
                  replace h := h b_1 w13 hb hw
                  clear hb hw
                  refine reg_run [] 8 [(0, [], Value.slice l_.ptr l_.len l_.cap), (1, [], Value.int .u16 mark), (8, [], Value.int .i64 last), (10, [], Value.slice x.ptr x.len x.cap), (12, [], Value.int .i64 at_), (13, [], Value.pointer (some ⟨b_1, 0, none⟩)), (115, [], Value.agg #[Value.int .i64 v114.Number, Value.string v114.Val, Value.bool v114.Drop]), (116, [], Value.bool ok), (117, [], Value.int .i64 f)] (by kernel_rfl) (by kernel_rfl) ?_
                  obtain ⟨hc, h⟩ := h
                  refine reg_store (t := 30) (a := (Go.Operand.tmp 13)) (x := (Go.Operand.tmp 115)) (b := b_1) (o := 0) (ty := 0) (dst := none) [Value.int .i64 v114.Number, Value.string v114.Val, Value.bool v114.Drop] (by kernel_rfl) (by kernel_rfl) (by kernel_rfl) (k := 3) (by kernel_rfl) (by kernel_rfl) (by kernel_rfl) hc (fun w14 hw => ?_)
                  replace h := h w14 hw
                  clear hw
                  refine reg_run [.plain, .plain] 11 [(0, [], Value.slice l_.ptr l_.len l_.cap), (1, [], Value.int .u16 mark), (8, [], Value.int .i64 last), (10, [], Value.slice x.ptr x.len x.cap), (12, [], Value.int .i64 at_), (13, [], Value.pointer (some ⟨b_1, 0, none⟩)), (14, [], Value.bool ok), (15, [], Value.int .i64 f)] (by kernel_rfl) (by kernel_rfl) ?_
                  refine reg_end [(0, Value.slice l_.ptr l_.len l_.cap), (1, Value.int .u16 mark), (8, Value.int .i64 last), (10, Value.slice x.ptr x.len x.cap), (12, Value.int .i64 at_), (13, Value.pointer (some ⟨b_1, 0, none⟩)), (14, Value.bool ok), (15, Value.int .i64 f)] (by kernel_rfl) (by kernel_rfl) ?_
                  change WpE _ _ c_towpathlaw08_ChainKeeps_82 _ _ _
                  refine wpE_seq (x := c_towpathlaw08_ChainKeeps_83) (y := c_towpathlaw08_ChainKeeps_85) (by kernel_rfl) ?_
                  refine wpE_region (id := 19) (ops := r_towpathlaw08_ChainKeeps_83) (by kernel_rfl) ?_
                  refine reg_run [.plain, .plain] 2 [(0, [], Value.slice l_.ptr l_.len l_.cap), (1, [], Value.int .u16 mark), (8, [], Value.int .i64 last), (10, [], Value.slice x.ptr x.len x.cap), (12, [], Value.int .i64 at_), (13, [], Value.pointer (some ⟨b_1, 0, none⟩)), (14, [], Value.bool ok), (15, [], Value.int .i64 f), (119, [], Value.slice x.ptr x.len x.cap), (120, [], Value.int .i64 at_)] (by kernel_rfl) (by kernel_rfl) ?_
                  refine reg_enter (op := (Go.Op.call (Go.Call.mk (Go.Callee.value (Go.Operand.func 13)) #[(Go.Operand.tmp 119), (Go.Operand.tmp 120)] #[22, 3]))) (ty := 33) (dst := some 121) 13 #[Value.slice x.ptr x.len x.cap, Value.int .i64 at_] (by kernel_rfl) (fun ww => by kernel_rfl) (Calls.mono h ?_)
                  rintro _ w15 ⟨v121, is, g, rfl, h⟩
                  refine ⟨_, rfl, ?_⟩
                  refine reg_run [.plain, .plain, .plain, .plain] 7 [(0, [], Value.slice l_.ptr l_.len l_.cap), (1, [], Value.int .u16 mark), (8, [], Value.int .i64 last), (10, [], Value.slice x.ptr x.len x.cap), (12, [], Value.int .i64 at_), (13, [], Value.pointer (some ⟨b_1, 0, none⟩)), (14, [], Value.bool ok), (15, [], Value.int .i64 f), (122, [], Value.agg #[Value.int .i64 v121.Number, Value.string v121.Val, Value.bool v121.Drop]), (123, [], Value.bool is), (124, [], Value.int .i64 g)] (by kernel_rfl) (by kernel_rfl) ?_
                  refine reg_new (op := (Go.Op.alloc 30)) (ty := 0) (dst := some 16) (fun bb => Value.pointer (some ⟨bb, 0, none⟩)) (Obj.cells ([Value.int .i64 0, Value.string ByteArray.empty, Value.bool false]).toArray ty_api_Version (0, 0)) (by kernel_rfl) (by kernel_rfl) (fun b_2 w16 hb hw => ?_)
                  replace h := h b_2 w16 hb hw
                  clear hb hw
                  refine reg_run [] 8 [(0, [], Value.slice l_.ptr l_.len l_.cap), (1, [], Value.int .u16 mark), (8, [], Value.int .i64 last), (10, [], Value.slice x.ptr x.len x.cap), (12, [], Value.int .i64 at_), (13, [], Value.pointer (some ⟨b_1, 0, none⟩)), (14, [], Value.bool ok), (15, [], Value.int .i64 f), (16, [], Value.pointer (some ⟨b_2, 0, none⟩)), (122, [], Value.agg #[Value.int .i64 v121.Number, Value.string v121.Val, Value.bool v121.Drop]), (123, [], Value.bool is), (124, [], Value.int .i64 g)] (by kernel_rfl) (by kernel_rfl) ?_
                  obtain ⟨hc, h⟩ := h
                  refine reg_store (t := 30) (a := (Go.Operand.tmp 16)) (x := (Go.Operand.tmp 122)) (b := b_2) (o := 0) (ty := 0) (dst := none) [Value.int .i64 v121.Number, Value.string v121.Val, Value.bool v121.Drop] (by kernel_rfl) (by kernel_rfl) (by kernel_rfl) (k := 3) (by kernel_rfl) (by kernel_rfl) (by kernel_rfl) hc (fun w17 hw => ?_)
                  replace h := h w17 hw
                  clear hw
                  refine reg_run [.plain, .plain] 11 [(0, [], Value.slice l_.ptr l_.len l_.cap), (1, [], Value.int .u16 mark), (8, [], Value.int .i64 last), (10, [], Value.slice x.ptr x.len x.cap), (12, [], Value.int .i64 at_), (13, [], Value.pointer (some ⟨b_1, 0, none⟩)), (14, [], Value.bool ok), (15, [], Value.int .i64 f), (16, [], Value.pointer (some ⟨b_2, 0, none⟩)), (17, [], Value.bool is), (18, [], Value.int .i64 g)] (by kernel_rfl) (by kernel_rfl) ?_
                  refine reg_end [(0, Value.slice l_.ptr l_.len l_.cap), (1, Value.int .u16 mark), (8, Value.int .i64 last), (10, Value.slice x.ptr x.len x.cap), (12, Value.int .i64 at_), (13, Value.pointer (some ⟨b_1, 0, none⟩)), (14, Value.bool ok), (15, Value.int .i64 f), (16, Value.pointer (some ⟨b_2, 0, none⟩)), (17, Value.bool is), (18, Value.int .i64 g)] (by kernel_rfl) (by kernel_rfl) ?_
                  change WpE _ _ c_towpathlaw08_ChainKeeps_85 _ _ _
                  refine wpE_seq (x := c_towpathlaw08_ChainKeeps_86) (y := c_towpathlaw08_ChainKeeps_95) (by kernel_rfl) ?_
                  refine wpE_seq (x := c_towpathlaw08_ChainKeeps_87) (y := c_towpathlaw08_ChainKeeps_89) (by kernel_rfl) ?_
                  refine wpE_region (id := 20) (ops := r_towpathlaw08_ChainKeeps_87) (by kernel_rfl) ?_
                  refine reg_run [.plain, .plain, .plain, .plain, .plain, .pick] 6 [(0, [], Value.slice l_.ptr l_.len l_.cap), (1, [], Value.int .u16 mark), (8, [], Value.int .i64 last), (10, [], Value.slice x.ptr x.len x.cap), (12, [], Value.int .i64 at_), (13, [], Value.pointer (some ⟨b_1, 0, none⟩)), (14, [], Value.bool ok), (16, [], Value.pointer (some ⟨b_2, 0, none⟩)), (17, [], Value.bool is), (130, [], Value.bool ((f != 0) || (g != 0)))] (by kernel_rfl) (by kernel_rfl) ?_
                  refine reg_end [(0, Value.slice l_.ptr l_.len l_.cap), (1, Value.int .u16 mark), (8, Value.int .i64 last), (10, Value.slice x.ptr x.len x.cap), (12, Value.int .i64 at_), (13, Value.pointer (some ⟨b_1, 0, none⟩)), (14, Value.bool ok), (16, Value.pointer (some ⟨b_2, 0, none⟩)), (17, Value.bool is), (130, Value.bool ((f != 0) || (g != 0)))] (by kernel_rfl) (by kernel_rfl) ?_
                  change WpE _ _ c_towpathlaw08_ChainKeeps_89 _ _ _
                  refine wpE_cond (o := (Operand.tmp 130)) (b := ((f != 0) || (g != 0))) (x := c_towpathlaw08_ChainKeeps_90) (y := c_towpathlaw08_ChainKeeps_94) (by kernel_rfl) (by kernel_rfl) (fun hb => ?_) (fun hb => ?_)
                  · replace h := h.1 hb
                    refine wpE_seq (x := c_towpathlaw08_ChainKeeps_91) (y := c_towpathlaw08_ChainKeeps_93) (by kernel_rfl) ?_
                    refine wpE_region (id := 21) (ops := r_towpathlaw08_ChainKeeps_91) (by kernel_rfl) ?_
                    refine reg_run [.plain] 1 [(6, [], Value.bool false)] (by kernel_rfl) (by kernel_rfl) ?_
                    refine reg_end [(6, Value.bool false)] (by kernel_rfl) (by kernel_rfl) ?_
                    change WpE _ _ c_towpathlaw08_ChainKeeps_93 _ _ _
                    refine wpE_ret (by kernel_rfl) ?_
                    repeat (first | refine seqQ_ret ?_ | refine blockQ_ret ?_ | refine loopQ_ret ?_ | refine cutQ_ret ?_)
                    exact retS (rs := [(Go.ResultVar.tmp 6)]) (v := Value.bool false) (by kernel_rfl) (⟨by kernel_rfl, trivial⟩) ⟨false, rfl, h⟩
                  · replace h := h.2 hb
                    refine wpE_skip (by kernel_rfl) ?_
                    change WpE _ _ c_towpathlaw08_ChainKeeps_95 _ _ _
                    refine wpE_seq_cut (x := c_towpathlaw08_ChainKeeps_96) (y := c_towpathlaw08_ChainKeeps_98) (by kernel_rfl) (fun l w => ∃ (t136 : Bool), l = [(0, Value.slice l_.ptr l_.len l_.cap), (1, Value.int .u16 mark), (8, Value.int .i64 last), (10, Value.slice x.ptr x.len x.cap), (12, Value.int .i64 at_), (13, Value.pointer (some ⟨b_1, 0, none⟩)), (16, Value.pointer (some ⟨b_2, 0, none⟩)), (17, Value.bool is), (136, Value.bool t136)] ∧ F_towpathlaw08_ChainKeeps_k7 mark R last at_ again_1 b_1 is b_2 t136 w) ?_ ?_
                    · refine wpE_region (id := 22) (ops := r_towpathlaw08_ChainKeeps_96) (by kernel_rfl) ?_
                      refine reg_run [.plain, .plain, .plain, .plain] 4 [(0, [], Value.slice l_.ptr l_.len l_.cap), (1, [], Value.int .u16 mark), (8, [], Value.int .i64 last), (10, [], Value.slice x.ptr x.len x.cap), (12, [], Value.int .i64 at_), (13, [], Value.pointer (some ⟨b_1, 0, none⟩)), (16, [], Value.pointer (some ⟨b_2, 0, none⟩)), (17, [], Value.bool is), (133, [], Value.bool (!ok)), (134, [(133, false)], Value.pointer (some ⟨b_1, 2, none⟩))] (by kernel_rfl) (by kernel_rfl) ?_
                      refine reg_split 133 (!ok) (by kernel_rfl) (fun hb => ?_) (fun hb => ?_)
                      · replace h := h.1 hb
                        refine reg_run [] 4 [(0, [], Value.slice l_.ptr l_.len l_.cap), (1, [], Value.int .u16 mark), (8, [], Value.int .i64 last), (10, [], Value.slice x.ptr x.len x.cap), (12, [], Value.int .i64 at_), (13, [], Value.pointer (some ⟨b_1, 0, none⟩)), (16, [], Value.pointer (some ⟨b_2, 0, none⟩)), (17, [], Value.bool is), (133, [], Value.bool true), (134, [], undef)] (by kernel_rfl) (by kernel_rfl) ?_
                        refine reg_run [.skip, .plain] 6 [(0, [], Value.slice l_.ptr l_.len l_.cap), (1, [], Value.int .u16 mark), (8, [], Value.int .i64 last), (10, [], Value.slice x.ptr x.len x.cap), (12, [], Value.int .i64 at_), (13, [], Value.pointer (some ⟨b_1, 0, none⟩)), (16, [], Value.pointer (some ⟨b_2, 0, none⟩)), (17, [], Value.bool is), (136, [], Value.bool true)] (by kernel_rfl) (by kernel_rfl) ?_
                        refine reg_end [(0, Value.slice l_.ptr l_.len l_.cap), (1, Value.int .u16 mark), (8, Value.int .i64 last), (10, Value.slice x.ptr x.len x.cap), (12, Value.int .i64 at_), (13, Value.pointer (some ⟨b_1, 0, none⟩)), (16, Value.pointer (some ⟨b_2, 0, none⟩)), (17, Value.bool is), (136, Value.bool true)] (by kernel_rfl) (by kernel_rfl) ?_
                        exact ⟨[(0, Value.slice l_.ptr l_.len l_.cap), (1, Value.int .u16 mark), (8, Value.int .i64 last), (10, Value.slice x.ptr x.len x.cap), (12, Value.int .i64 at_), (13, Value.pointer (some ⟨b_1, 0, none⟩)), (16, Value.pointer (some ⟨b_2, 0, none⟩)), (17, Value.bool is), (136, Value.bool true)], Sub.mk (by kernel_rfl), true, rfl, h⟩
                      · replace h := h.2 hb
                        refine reg_run [] 4 [(0, [], Value.slice l_.ptr l_.len l_.cap), (1, [], Value.int .u16 mark), (8, [], Value.int .i64 last), (10, [], Value.slice x.ptr x.len x.cap), (12, [], Value.int .i64 at_), (13, [], Value.pointer (some ⟨b_1, 0, none⟩)), (16, [], Value.pointer (some ⟨b_2, 0, none⟩)), (17, [], Value.bool is), (133, [], Value.bool false), (134, [], Value.pointer (some ⟨b_1, 2, none⟩))] (by kernel_rfl) (by kernel_rfl) ?_
                        refine reg_run [] 4 [(0, [], Value.slice l_.ptr l_.len l_.cap), (1, [], Value.int .u16 mark), (8, [], Value.int .i64 last), (10, [], Value.slice x.ptr x.len x.cap), (12, [], Value.int .i64 at_), (13, [], Value.pointer (some ⟨b_1, 0, none⟩)), (16, [], Value.pointer (some ⟨b_2, 0, none⟩)), (17, [], Value.bool is), (133, [], Value.bool false), (134, [], Value.pointer (some ⟨b_1, 2, none⟩))] (by kernel_rfl) (by kernel_rfl) ?_
                        obtain ⟨v135, hc, h⟩ := h
                        refine reg_load1 (t := 4) (a := (Go.Operand.tmp 134)) (b := b_1) (o := 2) (ty := 4) (dst := some 135) (by kernel_rfl) (by kernel_rfl) (by kernel_rfl) hc ?_
                        refine reg_run [.plain] 6 [(0, [], Value.slice l_.ptr l_.len l_.cap), (1, [], Value.int .u16 mark), (8, [], Value.int .i64 last), (10, [], Value.slice x.ptr x.len x.cap), (12, [], Value.int .i64 at_), (13, [], Value.pointer (some ⟨b_1, 0, none⟩)), (16, [], Value.pointer (some ⟨b_2, 0, none⟩)), (17, [], Value.bool is), (136, [], Value.bool v135)] (by kernel_rfl) (by kernel_rfl) ?_
                        refine reg_end [(0, Value.slice l_.ptr l_.len l_.cap), (1, Value.int .u16 mark), (8, Value.int .i64 last), (10, Value.slice x.ptr x.len x.cap), (12, Value.int .i64 at_), (13, Value.pointer (some ⟨b_1, 0, none⟩)), (16, Value.pointer (some ⟨b_2, 0, none⟩)), (17, Value.bool is), (136, Value.bool v135)] (by kernel_rfl) (by kernel_rfl) ?_
                        exact ⟨[(0, Value.slice l_.ptr l_.len l_.cap), (1, Value.int .u16 mark), (8, Value.int .i64 last), (10, Value.slice x.ptr x.len x.cap), (12, Value.int .i64 at_), (13, Value.pointer (some ⟨b_1, 0, none⟩)), (16, Value.pointer (some ⟨b_2, 0, none⟩)), (17, Value.bool is), (136, Value.bool v135)], Sub.mk (by kernel_rfl), v135, rfl, h⟩
                    · rintro _ w18 ⟨t136, rfl, h⟩
                      unfold F_towpathlaw08_ChainKeeps_k7 at h
                      refine wpE_cond (o := (Operand.tmp 136)) (b := t136) (x := c_towpathlaw08_ChainKeeps_99) (y := c_towpathlaw08_ChainKeeps_108) (by kernel_rfl) (by kernel_rfl) (fun hb => ?_) (fun hb => ?_)
                      · replace h := h.1 hb
                        refine wpE_seq_cut (x := c_towpathlaw08_ChainKeeps_100) (y := c_towpathlaw08_ChainKeeps_102) (by kernel_rfl) (fun l w => ∃ (t142 : Bool), l = [(0, Value.slice l_.ptr l_.len l_.cap), (1, Value.int .u16 mark), (8, Value.int .i64 last), (10, Value.slice x.ptr x.len x.cap), (12, Value.int .i64 at_), (142, Value.bool t142)] ∧ F_towpathlaw08_ChainKeeps_k8 mark R last at_ again_1 t142 w) ?_ ?_
                        · refine wpE_region (id := 23) (ops := r_towpathlaw08_ChainKeeps_100) (by kernel_rfl) ?_
                          refine reg_run [.plain, .plain, .plain] 3 [(0, [], Value.slice l_.ptr l_.len l_.cap), (1, [], Value.int .u16 mark), (8, [], Value.int .i64 last), (10, [], Value.slice x.ptr x.len x.cap), (12, [], Value.int .i64 at_), (138, [], Value.bool is), (139, [(138, true)], Value.pointer (some ⟨b_2, 2, none⟩))] (by kernel_rfl) (by kernel_rfl) ?_
                          refine reg_split 138 is (by kernel_rfl) (fun hb => ?_) (fun hb => ?_)
                          · replace h := h.1 hb
                            refine reg_run [] 3 [(0, [], Value.slice l_.ptr l_.len l_.cap), (1, [], Value.int .u16 mark), (8, [], Value.int .i64 last), (10, [], Value.slice x.ptr x.len x.cap), (12, [], Value.int .i64 at_), (138, [], Value.bool true), (139, [], Value.pointer (some ⟨b_2, 2, none⟩))] (by kernel_rfl) (by kernel_rfl) ?_
                            refine reg_run [] 3 [(0, [], Value.slice l_.ptr l_.len l_.cap), (1, [], Value.int .u16 mark), (8, [], Value.int .i64 last), (10, [], Value.slice x.ptr x.len x.cap), (12, [], Value.int .i64 at_), (138, [], Value.bool true), (139, [], Value.pointer (some ⟨b_2, 2, none⟩))] (by kernel_rfl) (by kernel_rfl) ?_
                            obtain ⟨v140, hc, h⟩ := h
                            refine reg_load1 (t := 4) (a := (Go.Operand.tmp 139)) (b := b_2) (o := 2) (ty := 4) (dst := some 140) (by kernel_rfl) (by kernel_rfl) (by kernel_rfl) hc ?_
                            refine reg_run [.sure, .plain] 6 [(0, [], Value.slice l_.ptr l_.len l_.cap), (1, [], Value.int .u16 mark), (8, [], Value.int .i64 last), (10, [], Value.slice x.ptr x.len x.cap), (12, [], Value.int .i64 at_), (142, [], Value.bool (!v140))] (by kernel_rfl) (by kernel_rfl) ?_
                            refine reg_end [(0, Value.slice l_.ptr l_.len l_.cap), (1, Value.int .u16 mark), (8, Value.int .i64 last), (10, Value.slice x.ptr x.len x.cap), (12, Value.int .i64 at_), (142, Value.bool (!v140))] (by kernel_rfl) (by kernel_rfl) ?_
                            exact ⟨[(0, Value.slice l_.ptr l_.len l_.cap), (1, Value.int .u16 mark), (8, Value.int .i64 last), (10, Value.slice x.ptr x.len x.cap), (12, Value.int .i64 at_), (142, Value.bool (!v140))], Sub.mk (by kernel_rfl), (!v140), rfl, h⟩
                          · replace h := h.2 hb
                            refine reg_run [] 3 [(0, [], Value.slice l_.ptr l_.len l_.cap), (1, [], Value.int .u16 mark), (8, [], Value.int .i64 last), (10, [], Value.slice x.ptr x.len x.cap), (12, [], Value.int .i64 at_), (138, [], Value.bool false), (139, [], undef)] (by kernel_rfl) (by kernel_rfl) ?_
                            refine reg_run [.skip, .skip, .plain] 6 [(0, [], Value.slice l_.ptr l_.len l_.cap), (1, [], Value.int .u16 mark), (8, [], Value.int .i64 last), (10, [], Value.slice x.ptr x.len x.cap), (12, [], Value.int .i64 at_), (142, [], Value.bool false)] (by kernel_rfl) (by kernel_rfl) ?_
                            refine reg_end [(0, Value.slice l_.ptr l_.len l_.cap), (1, Value.int .u16 mark), (8, Value.int .i64 last), (10, Value.slice x.ptr x.len x.cap), (12, Value.int .i64 at_), (142, Value.bool false)] (by kernel_rfl) (by kernel_rfl) ?_
                            exact ⟨[(0, Value.slice l_.ptr l_.len l_.cap), (1, Value.int .u16 mark), (8, Value.int .i64 last), (10, Value.slice x.ptr x.len x.cap), (12, Value.int .i64 at_), (142, Value.bool false)], Sub.mk (by kernel_rfl), false, rfl, h⟩
                        · rintro _ w19 ⟨t142, rfl, h⟩
                          unfold F_towpathlaw08_ChainKeeps_k8 at h
                          refine wpE_cond (o := (Operand.tmp 142)) (b := t142) (x := c_towpathlaw08_ChainKeeps_103) (y := c_towpathlaw08_ChainKeeps_107) (by kernel_rfl) (by kernel_rfl) (fun hb => ?_) (fun hb => ?_)
                          · replace h := h.1 hb
                            refine wpE_seq (x := c_towpathlaw08_ChainKeeps_104) (y := c_towpathlaw08_ChainKeeps_106) (by kernel_rfl) ?_
                            refine wpE_region (id := 24) (ops := r_towpathlaw08_ChainKeeps_104) (by kernel_rfl) ?_
                            refine reg_run [.plain] 1 [(6, [], Value.bool false)] (by kernel_rfl) (by kernel_rfl) ?_
                            refine reg_end [(6, Value.bool false)] (by kernel_rfl) (by kernel_rfl) ?_
                            change WpE _ _ c_towpathlaw08_ChainKeeps_106 _ _ _
                            refine wpE_ret (by kernel_rfl) ?_
                            repeat (first | refine seqQ_ret ?_ | refine blockQ_ret ?_ | refine loopQ_ret ?_ | refine cutQ_ret ?_)
                            exact retS (rs := [(Go.ResultVar.tmp 6)]) (v := Value.bool false) (by kernel_rfl) (⟨by kernel_rfl, trivial⟩) ⟨false, rfl, h⟩
                          · replace h := h.2 hb
                            refine wpE_skip (by kernel_rfl) ?_
                            exact ⟨[(0, Value.slice l_.ptr l_.len l_.cap), (1, Value.int .u16 mark), (8, Value.int .i64 last), (10, Value.slice x.ptr x.len x.cap), (12, Value.int .i64 at_)], Sub.mk (by kernel_rfl), rfl, h⟩
                      · replace h := h.2 hb
                        refine wpE_seq_cut (x := c_towpathlaw08_ChainKeeps_109) (y := c_towpathlaw08_ChainKeeps_111) (by kernel_rfl) (fun l w => ∃ (t149 : Bool), l = [(0, Value.slice l_.ptr l_.len l_.cap), (1, Value.int .u16 mark), (8, Value.int .i64 last), (10, Value.slice x.ptr x.len x.cap), (12, Value.int .i64 at_), (149, Value.bool t149)] ∧ F_towpathlaw08_ChainKeeps_k9 mark R last at_ again_1 t149 w) ?_ ?_
                        · refine wpE_region (id := 25) (ops := r_towpathlaw08_ChainKeeps_109) (by kernel_rfl) ?_
                          refine reg_run [.plain, .plain, .plain] 3 [(0, [], Value.slice l_.ptr l_.len l_.cap), (1, [], Value.int .u16 mark), (8, [], Value.int .i64 last), (10, [], Value.slice x.ptr x.len x.cap), (12, [], Value.int .i64 at_), (13, [], Value.pointer (some ⟨b_1, 0, none⟩)), (16, [], Value.pointer (some ⟨b_2, 0, none⟩)), (145, [], Value.bool (!is))] (by kernel_rfl) (by kernel_rfl) ?_
                          refine reg_split 145 (!is) (by kernel_rfl) (fun hb => ?_) (fun hb => ?_)
                          · replace h := h.1 hb
                            refine reg_run [] 3 [(0, [], Value.slice l_.ptr l_.len l_.cap), (1, [], Value.int .u16 mark), (8, [], Value.int .i64 last), (10, [], Value.slice x.ptr x.len x.cap), (12, [], Value.int .i64 at_), (13, [], Value.pointer (some ⟨b_1, 0, none⟩)), (16, [], Value.pointer (some ⟨b_2, 0, none⟩)), (145, [], Value.bool true)] (by kernel_rfl) (by kernel_rfl) ?_
                            refine reg_run [.skip, .skip, .skip, .plain] 7 [(0, [], Value.slice l_.ptr l_.len l_.cap), (1, [], Value.int .u16 mark), (8, [], Value.int .i64 last), (10, [], Value.slice x.ptr x.len x.cap), (12, [], Value.int .i64 at_), (149, [], Value.bool true)] (by kernel_rfl) (by kernel_rfl) ?_
                            refine reg_end [(0, Value.slice l_.ptr l_.len l_.cap), (1, Value.int .u16 mark), (8, Value.int .i64 last), (10, Value.slice x.ptr x.len x.cap), (12, Value.int .i64 at_), (149, Value.bool true)] (by kernel_rfl) (by kernel_rfl) ?_
                            exact ⟨[(0, Value.slice l_.ptr l_.len l_.cap), (1, Value.int .u16 mark), (8, Value.int .i64 last), (10, Value.slice x.ptr x.len x.cap), (12, Value.int .i64 at_), (149, Value.bool true)], Sub.mk (by kernel_rfl), true, rfl, h⟩
                          · replace h := h.2 hb
                            refine reg_run [] 3 [(0, [], Value.slice l_.ptr l_.len l_.cap), (1, [], Value.int .u16 mark), (8, [], Value.int .i64 last), (10, [], Value.slice x.ptr x.len x.cap), (12, [], Value.int .i64 at_), (13, [], Value.pointer (some ⟨b_1, 0, none⟩)), (16, [], Value.pointer (some ⟨b_2, 0, none⟩)), (145, [], Value.bool false)] (by kernel_rfl) (by kernel_rfl) ?_
                            refine reg_run [] 3 [(0, [], Value.slice l_.ptr l_.len l_.cap), (1, [], Value.int .u16 mark), (8, [], Value.int .i64 last), (10, [], Value.slice x.ptr x.len x.cap), (12, [], Value.int .i64 at_), (13, [], Value.pointer (some ⟨b_1, 0, none⟩)), (16, [], Value.pointer (some ⟨b_2, 0, none⟩)), (145, [], Value.bool false)] (by kernel_rfl) (by kernel_rfl) ?_
                            obtain ⟨v146, hc, h⟩ := h
                            refine reg_loadN (t := 30) (a := (Go.Operand.tmp 13)) (b := b_1) (o := 0) (ty := 30) (dst := some 146) [Value.int .i64 v146.Number, Value.string v146.Val, Value.bool v146.Drop] (by kernel_rfl) (by kernel_rfl) (by kernel_rfl) (k := 3) (by kernel_rfl) (by kernel_rfl) hc ?_
                            refine reg_run [] 4 [(0, [], Value.slice l_.ptr l_.len l_.cap), (1, [], Value.int .u16 mark), (8, [], Value.int .i64 last), (10, [], Value.slice x.ptr x.len x.cap), (12, [], Value.int .i64 at_), (16, [], Value.pointer (some ⟨b_2, 0, none⟩)), (145, [], Value.bool false), (146, [], Value.agg #[Value.int .i64 v146.Number, Value.string v146.Val, Value.bool v146.Drop])] (by kernel_rfl) (by kernel_rfl) ?_
                            obtain ⟨v147, hc, h⟩ := h
                            refine reg_loadN (t := 30) (a := (Go.Operand.tmp 16)) (b := b_2) (o := 0) (ty := 30) (dst := some 147) [Value.int .i64 v147.Number, Value.string v147.Val, Value.bool v147.Drop] (by kernel_rfl) (by kernel_rfl) (by kernel_rfl) (k := 3) (by kernel_rfl) (by kernel_rfl) hc ?_
                            refine reg_run [] 5 [(0, [], Value.slice l_.ptr l_.len l_.cap), (1, [], Value.int .u16 mark), (8, [], Value.int .i64 last), (10, [], Value.slice x.ptr x.len x.cap), (12, [], Value.int .i64 at_), (145, [], Value.bool false), (146, [], Value.agg #[Value.int .i64 v146.Number, Value.string v146.Val, Value.bool v146.Drop]), (147, [], Value.agg #[Value.int .i64 v147.Number, Value.string v147.Val, Value.bool v147.Drop])] (by kernel_rfl) (by kernel_rfl) ?_
                            refine reg_val (op := (Go.Op.binOp Go.BinOp.neq 30 (Go.Operand.tmp 146) (Go.Operand.tmp 147) 30)) (ty := 4) (dst := some 148) (Value.bool (!(((v146.Number == v147.Number) && (v146.Val == v147.Val)) && (v146.Drop == v147.Drop)))) (by kernel_rfl) (fun ww => run_struct_neq (xs := [Value.int .i64 v146.Number, Value.string v146.Val, Value.bool v146.Drop]) (ys := [Value.int .i64 v147.Number, Value.string v147.Val, Value.bool v147.Drop]) (by kernel_rfl) (by kernel_rfl) (by kernel_rfl) (by kernel_rfl) (by kernel_rfl) ww) ?_
                            refine reg_run [.plain] 7 [(0, [], Value.slice l_.ptr l_.len l_.cap), (1, [], Value.int .u16 mark), (8, [], Value.int .i64 last), (10, [], Value.slice x.ptr x.len x.cap), (12, [], Value.int .i64 at_), (149, [], Value.bool (!(((v146.Number == v147.Number) && (v146.Val == v147.Val)) && (v146.Drop == v147.Drop))))] (by kernel_rfl) (by kernel_rfl) ?_
                            refine reg_end [(0, Value.slice l_.ptr l_.len l_.cap), (1, Value.int .u16 mark), (8, Value.int .i64 last), (10, Value.slice x.ptr x.len x.cap), (12, Value.int .i64 at_), (149, Value.bool (!(((v146.Number == v147.Number) && (v146.Val == v147.Val)) && (v146.Drop == v147.Drop))))] (by kernel_rfl) (by kernel_rfl) ?_
                            exact ⟨[(0, Value.slice l_.ptr l_.len l_.cap), (1, Value.int .u16 mark), (8, Value.int .i64 last), (10, Value.slice x.ptr x.len x.cap), (12, Value.int .i64 at_), (149, Value.bool (!(((v146.Number == v147.Number) && (v146.Val == v147.Val)) && (v146.Drop == v147.Drop))))], Sub.mk (by kernel_rfl), (!(((v146.Number == v147.Number) && (v146.Val == v147.Val)) && (v146.Drop == v147.Drop))), rfl, h⟩
                        · rintro _ w20 ⟨t149, rfl, h⟩
                          unfold F_towpathlaw08_ChainKeeps_k9 at h
                          refine wpE_cond (o := (Operand.tmp 149)) (b := t149) (x := c_towpathlaw08_ChainKeeps_112) (y := c_towpathlaw08_ChainKeeps_116) (by kernel_rfl) (by kernel_rfl) (fun hb => ?_) (fun hb => ?_)
                          · replace h := h.1 hb
                            refine wpE_seq (x := c_towpathlaw08_ChainKeeps_113) (y := c_towpathlaw08_ChainKeeps_115) (by kernel_rfl) ?_
                            refine wpE_region (id := 26) (ops := r_towpathlaw08_ChainKeeps_113) (by kernel_rfl) ?_
                            refine reg_run [.plain] 1 [(6, [], Value.bool false)] (by kernel_rfl) (by kernel_rfl) ?_
                            refine reg_end [(6, Value.bool false)] (by kernel_rfl) (by kernel_rfl) ?_
                            change WpE _ _ c_towpathlaw08_ChainKeeps_115 _ _ _
                            refine wpE_ret (by kernel_rfl) ?_
                            repeat (first | refine seqQ_ret ?_ | refine blockQ_ret ?_ | refine loopQ_ret ?_ | refine cutQ_ret ?_)
                            exact retS (rs := [(Go.ResultVar.tmp 6)]) (v := Value.bool false) (by kernel_rfl) (⟨by kernel_rfl, trivial⟩) ⟨false, rfl, h⟩
                          · replace h := h.2 hb
                            refine wpE_skip (by kernel_rfl) ?_
                            exact ⟨[(0, Value.slice l_.ptr l_.len l_.cap), (1, Value.int .u16 mark), (8, Value.int .i64 last), (10, Value.slice x.ptr x.len x.cap), (12, Value.int .i64 at_)], Sub.mk (by kernel_rfl), rfl, h⟩
                · rintro _ w11 ⟨rfl, h⟩
                  unfold F_towpathlaw08_ChainKeeps_k6 at h
                  refine wpE_region (id := 17) (ops := r_towpathlaw08_ChainKeeps_117) (by kernel_rfl) ?_
                  refine reg_run [.plain, .plain, .plain, .plain, .plain, .plain, .plain, .plain] 8 [(0, [], Value.slice l_.ptr l_.len l_.cap), (1, [], Value.int .u16 mark), (8, [], Value.int .i64 last), (10, [], Value.slice x.ptr x.len x.cap), (12, [], Value.int .i64 (IntKind.i64.wrap (at_ + (if (IntKind.i64.wrap (last - (IntKind.i64.wrap mark))) > 1 then (IntKind.i64.wrap (last - (IntKind.i64.wrap mark))) else 1))))] (by kernel_rfl) (by kernel_rfl) ?_
                  refine reg_end [(0, Value.slice l_.ptr l_.len l_.cap), (1, Value.int .u16 mark), (8, Value.int .i64 last), (10, Value.slice x.ptr x.len x.cap), (12, Value.int .i64 (IntKind.i64.wrap (at_ + (if (IntKind.i64.wrap (last - (IntKind.i64.wrap mark))) > 1 then (IntKind.i64.wrap (last - (IntKind.i64.wrap mark))) else 1))))] (by kernel_rfl) (by kernel_rfl) ?_
                  have hb_ := again_1_h _ _ h
                  exact ⟨_, hb_.2, [(0, Value.slice l_.ptr l_.len l_.cap), (1, Value.int .u16 mark), (8, Value.int .i64 last), (10, Value.slice x.ptr x.len x.cap), (12, Value.int .i64 (IntKind.i64.wrap (at_ + (if (IntKind.i64.wrap (last - (IntKind.i64.wrap mark))) > 1 then (IntKind.i64.wrap (last - (IntKind.i64.wrap mark))) else 1))))], Sub.mk (by kernel_rfl), (IntKind.i64.wrap (at_ + (if (IntKind.i64.wrap (last - (IntKind.i64.wrap mark))) > 1 then (IntKind.i64.wrap (last - (IntKind.i64.wrap mark))) else 1))), rfl, hb_.1, rfl⟩
              · replace h := h.2 hb
                refine wpE_exit (id := 2) (by kernel_rfl) ?_
                change WpE _ _ c_towpathlaw08_ChainKeeps_119 _ _ _
                refine wpE_seq (x := c_towpathlaw08_ChainKeeps_120) (y := c_towpathlaw08_ChainKeeps_145) (by kernel_rfl) ?_
                refine wpE_seq (x := c_towpathlaw08_ChainKeeps_121) (y := c_towpathlaw08_ChainKeeps_123) (by kernel_rfl) ?_
                refine wpE_region (id := 27) (ops := r_towpathlaw08_ChainKeeps_121) (by kernel_rfl) ?_
                refine reg_run [.plain] 1 [(1, [], Value.int .u16 mark), (10, [], Value.slice x.ptr x.len x.cap), (19, [], Value.int .i64 0)] (by kernel_rfl) (by kernel_rfl) ?_
                refine reg_end [(1, Value.int .u16 mark), (10, Value.slice x.ptr x.len x.cap), (19, Value.int .i64 0)] (by kernel_rfl) (by kernel_rfl) ?_
                change WpE _ _ c_towpathlaw08_ChainKeeps_123 _ _ _
                refine wpE_block (id := 4) (x := c_towpathlaw08_ChainKeeps_124) (by kernel_rfl) ?_
                obtain ⟨I, μ, h0, hr⟩ := h
                refine wpE_loop (x := c_towpathlaw08_ChainKeeps_125) (by kernel_rfl) (fun m l w => ∃ (i1 : Int), l = [(1, Value.int .u16 mark), (10, Value.slice x.ptr x.len x.cap), (19, Value.int .i64 i1)] ∧ I i1 w ∧ μ i1 w = m) (l' := [(1, Value.int .u16 mark), (10, Value.slice x.ptr x.len x.cap), (19, Value.int .i64 0)]) (Sub.mk (by kernel_rfl)) ⟨0, rfl, h0, rfl⟩ ?_
                rintro _ _ w21 ⟨i1, rfl, hI, rfl⟩
                obtain ⟨again_2, again_2_h, h⟩ : ∃ again_2 : Int → World → Prop, (∀ i1' w', again_2 i1' w' → I i1' w' ∧ μ i1' w' < μ i1 w21) ∧ F_towpathlaw08_ChainKeeps_L10 mark R x again_2 i1 w21 := ⟨_, fun _ _ h => h, hr i1 w21 hI⟩
                clear h0 hI
                unfold F_towpathlaw08_ChainKeeps_L10 at h
                refine wpE_seq (x := c_towpathlaw08_ChainKeeps_126) (y := c_towpathlaw08_ChainKeeps_132) (by kernel_rfl) ?_
                refine wpE_seq (x := c_towpathlaw08_ChainKeeps_127) (y := c_towpathlaw08_ChainKeeps_129) (by kernel_rfl) ?_
                refine wpE_region (id := 28) (ops := r_towpathlaw08_ChainKeeps_127) (by kernel_rfl) ?_
                refine reg_run [.plain, .plain, .plain, .plain] 4 [(1, [], Value.int .u16 mark), (10, [], Value.slice x.ptr x.len x.cap), (19, [], Value.int .i64 i1), (153, [], Value.bool (decide (i1 < ((x.len : Nat) : Int))))] (by kernel_rfl) (by kernel_rfl) ?_
                refine reg_end [(1, Value.int .u16 mark), (10, Value.slice x.ptr x.len x.cap), (19, Value.int .i64 i1), (153, Value.bool (decide (i1 < ((x.len : Nat) : Int))))] (by kernel_rfl) (by kernel_rfl) ?_
                change WpE _ _ c_towpathlaw08_ChainKeeps_129 _ _ _
                refine wpE_cond (o := (Operand.tmp 153)) (b := (decide (i1 < ((x.len : Nat) : Int)))) (x := c_towpathlaw08_ChainKeeps_130) (y := c_towpathlaw08_ChainKeeps_131) (by kernel_rfl) (by kernel_rfl) (fun hb => ?_) (fun hb => ?_)
                · replace h := h.1 hb
                  refine wpE_skip (by kernel_rfl) ?_
                  change WpE _ _ c_towpathlaw08_ChainKeeps_132 _ _ _
                  refine wpE_seq (x := c_towpathlaw08_ChainKeeps_133) (y := c_towpathlaw08_ChainKeeps_143) (by kernel_rfl) ?_
                  refine wpE_block (id := 5) (x := c_towpathlaw08_ChainKeeps_134) (by kernel_rfl) ?_
                  refine wpE_seq_cut (x := c_towpathlaw08_ChainKeeps_135) (y := c_towpathlaw08_ChainKeeps_137) (by kernel_rfl) (fun l w => ∃ (t174 : Bool), l = [(1, Value.int .u16 mark), (10, Value.slice x.ptr x.len x.cap), (19, Value.int .i64 i1), (174, Value.bool t174)] ∧ F_towpathlaw08_ChainKeeps_k11 R i1 again_2 t174 w) ?_ ?_
                  · refine wpE_region (id := 30) (ops := r_towpathlaw08_ChainKeeps_135) (by kernel_rfl) ?_
                    refine reg_run [.plain, .plain] 2 [(1, [], Value.int .u16 mark), (10, [], Value.slice x.ptr x.len x.cap), (19, [], Value.int .i64 i1), (156, [], Value.slice x.ptr x.len x.cap), (157, [], Value.int .i64 i1)] (by kernel_rfl) (by kernel_rfl) ?_
                    obtain ⟨hp_50, h⟩ := h
                    refine reg_conv [(1, [], Value.int .u16 mark), (10, [], Value.slice x.ptr x.len x.cap), (19, [], Value.int .i64 i1), (156, [], Value.slice (some ⟨(pblk x.ptr), (poff x.ptr), none⟩) x.len x.cap), (157, [], Value.int .i64 i1)] (congrArg (fun pp => ([(1, [], Value.int .u16 mark), (10, [], Value.slice x.ptr x.len x.cap), (19, [], Value.int .i64 i1), (156, [], Value.slice pp x.len x.cap), (157, [], Value.int .i64 i1)] : GEnv)) hp_50) ?_
                    obtain ⟨h0, h1, h⟩ := h
                    refine reg_indexS (t := 22) (e := 30) (x := (Go.Operand.tmp 156)) (ix := (Go.Operand.tmp 157)) (b := (pblk x.ptr)) (o := (poff x.ptr)) (l := x.len) (c := x.cap) (k := .i64) (j := i1) (ty := 0) (dst := some 158) (sz := 3) (by kernel_rfl) (by kernel_rfl) (by kernel_rfl) (by kernel_rfl) (by kernel_rfl) h0 h1 ?_
                    refine reg_run [.plain] 4 [(1, [], Value.int .u16 mark), (10, [], Value.slice x.ptr x.len x.cap), (19, [], Value.int .i64 i1), (159, [], Value.pointer (some ⟨(pblk x.ptr), (poff x.ptr) + i1.toNat * 3, none⟩))] (by kernel_rfl) (by kernel_rfl) ?_
                    obtain ⟨v160, hc, h⟩ := h
                    refine reg_load1 (t := 3) (a := (Go.Operand.tmp 159)) (b := (pblk x.ptr)) (o := ((poff x.ptr) + i1.toNat * 3)) (ty := 3) (dst := some 160) (by kernel_rfl) (by kernel_rfl) (by kernel_rfl) hc ?_
                    refine reg_run [.plain, .plain, .plain, .plain, .plain, .plain, .plain, .plain, .plain] 14 [(1, [], Value.int .u16 mark), (10, [], Value.slice x.ptr x.len x.cap), (19, [], Value.int .i64 i1), (164, [], Value.bool (decide (v160 ≤ (IntKind.i64.wrap mark)))), (167, [(164, true)], Value.bool (decide (i1 > 0))), (168, [(167, false), (164, true)], Value.slice x.ptr x.len x.cap), (169, [(167, false), (164, true)], Value.int .i64 i1)] (by kernel_rfl) (by kernel_rfl) ?_
                    refine reg_split 164 (decide (v160 ≤ (IntKind.i64.wrap mark))) (by kernel_rfl) (fun hb => ?_) (fun hb => ?_)
                    · replace h := h.1 hb
                      refine reg_run [] 14 [(1, [], Value.int .u16 mark), (10, [], Value.slice x.ptr x.len x.cap), (19, [], Value.int .i64 i1), (164, [], Value.bool true), (167, [], Value.bool (decide (i1 > 0))), (168, [(167, false)], Value.slice x.ptr x.len x.cap), (169, [(167, false)], Value.int .i64 i1)] (by kernel_rfl) (by kernel_rfl) ?_
                      refine reg_run [] 14 [(1, [], Value.int .u16 mark), (10, [], Value.slice x.ptr x.len x.cap), (19, [], Value.int .i64 i1), (164, [], Value.bool true), (167, [], Value.bool (decide (i1 > 0))), (168, [(167, false)], Value.slice x.ptr x.len x.cap), (169, [(167, false)], Value.int .i64 i1)] (by kernel_rfl) (by kernel_rfl) ?_
                      refine reg_split 167 (decide (i1 > 0)) (by kernel_rfl) (fun hb => ?_) (fun hb => ?_)
                      · replace h := h.1 hb
                        refine reg_run [] 14 [(1, [], Value.int .u16 mark), (10, [], Value.slice x.ptr x.len x.cap), (19, [], Value.int .i64 i1), (164, [], Value.bool true), (167, [], Value.bool true), (168, [], undef), (169, [], undef)] (by kernel_rfl) (by kernel_rfl) ?_
                        refine reg_run [.skip, .skip, .skip, .sure, .plain] 19 [(1, [], Value.int .u16 mark), (10, [], Value.slice x.ptr x.len x.cap), (19, [], Value.int .i64 i1), (174, [], Value.bool true)] (by kernel_rfl) (by kernel_rfl) ?_
                        refine reg_end [(1, Value.int .u16 mark), (10, Value.slice x.ptr x.len x.cap), (19, Value.int .i64 i1), (174, Value.bool true)] (by kernel_rfl) (by kernel_rfl) ?_
                        exact ⟨[(1, Value.int .u16 mark), (10, Value.slice x.ptr x.len x.cap), (19, Value.int .i64 i1), (174, Value.bool true)], Sub.mk (by kernel_rfl), true, rfl, h⟩
                      · replace h := h.2 hb
                        refine reg_run [] 14 [(1, [], Value.int .u16 mark), (10, [], Value.slice x.ptr x.len x.cap), (19, [], Value.int .i64 i1), (164, [], Value.bool true), (167, [], Value.bool false), (168, [], Value.slice x.ptr x.len x.cap), (169, [], Value.int .i64 i1)] (by kernel_rfl) (by kernel_rfl) ?_
                        refine reg_run [] 14 [(1, [], Value.int .u16 mark), (10, [], Value.slice x.ptr x.len x.cap), (19, [], Value.int .i64 i1), (164, [], Value.bool true), (167, [], Value.bool false), (168, [], Value.slice x.ptr x.len x.cap), (169, [], Value.int .i64 i1)] (by kernel_rfl) (by kernel_rfl) ?_
                        obtain ⟨hp_51, h⟩ := h
                        refine reg_conv [(1, [], Value.int .u16 mark), (10, [], Value.slice x.ptr x.len x.cap), (19, [], Value.int .i64 i1), (164, [], Value.bool true), (167, [], Value.bool false), (168, [], Value.slice (some ⟨(pblk x.ptr), (poff x.ptr), none⟩) x.len x.cap), (169, [], Value.int .i64 i1)] (congrArg (fun pp => ([(1, [], Value.int .u16 mark), (10, [], Value.slice x.ptr x.len x.cap), (19, [], Value.int .i64 i1), (164, [], Value.bool true), (167, [], Value.bool false), (168, [], Value.slice pp x.len x.cap), (169, [], Value.int .i64 i1)] : GEnv)) hp_51) ?_
                        obtain ⟨h0, h1, h⟩ := h
                        refine reg_indexS (t := 22) (e := 30) (x := (Go.Operand.tmp 168)) (ix := (Go.Operand.tmp 169)) (b := (pblk x.ptr)) (o := (poff x.ptr)) (l := x.len) (c := x.cap) (k := .i64) (j := i1) (ty := 0) (dst := some 170) (sz := 3) (by kernel_rfl) (by kernel_rfl) (by kernel_rfl) (by kernel_rfl) (by kernel_rfl) h0 h1 ?_
                        refine reg_run [.sure] 16 [(1, [], Value.int .u16 mark), (10, [], Value.slice x.ptr x.len x.cap), (19, [], Value.int .i64 i1), (164, [], Value.bool true), (167, [], Value.bool false), (171, [], Value.pointer (some ⟨(pblk x.ptr), ((poff x.ptr) + i1.toNat * 3) + 2, none⟩))] (by kernel_rfl) (by kernel_rfl) ?_
                        obtain ⟨v172, hc, h⟩ := h
                        refine reg_load1 (t := 4) (a := (Go.Operand.tmp 171)) (b := (pblk x.ptr)) (o := (((poff x.ptr) + i1.toNat * 3) + 2)) (ty := 4) (dst := some 172) (by kernel_rfl) (by kernel_rfl) (by kernel_rfl) hc ?_
                        refine reg_run [.sure, .plain] 19 [(1, [], Value.int .u16 mark), (10, [], Value.slice x.ptr x.len x.cap), (19, [], Value.int .i64 i1), (174, [], Value.bool v172)] (by kernel_rfl) (by kernel_rfl) ?_
                        refine reg_end [(1, Value.int .u16 mark), (10, Value.slice x.ptr x.len x.cap), (19, Value.int .i64 i1), (174, Value.bool v172)] (by kernel_rfl) (by kernel_rfl) ?_
                        exact ⟨[(1, Value.int .u16 mark), (10, Value.slice x.ptr x.len x.cap), (19, Value.int .i64 i1), (174, Value.bool v172)], Sub.mk (by kernel_rfl), v172, rfl, h⟩
                    · replace h := h.2 hb
                      refine reg_run [] 14 [(1, [], Value.int .u16 mark), (10, [], Value.slice x.ptr x.len x.cap), (19, [], Value.int .i64 i1), (164, [], Value.bool false), (167, [], undef), (168, [], undef), (169, [], undef)] (by kernel_rfl) (by kernel_rfl) ?_
                      refine reg_run [.skip, .skip, .skip, .skip, .plain] 19 [(1, [], Value.int .u16 mark), (10, [], Value.slice x.ptr x.len x.cap), (19, [], Value.int .i64 i1), (174, [], Value.bool false)] (by kernel_rfl) (by kernel_rfl) ?_
                      refine reg_end [(1, Value.int .u16 mark), (10, Value.slice x.ptr x.len x.cap), (19, Value.int .i64 i1), (174, Value.bool false)] (by kernel_rfl) (by kernel_rfl) ?_
                      exact ⟨[(1, Value.int .u16 mark), (10, Value.slice x.ptr x.len x.cap), (19, Value.int .i64 i1), (174, Value.bool false)], Sub.mk (by kernel_rfl), false, rfl, h⟩
                  · rintro _ w22 ⟨t174, rfl, h⟩
                    unfold F_towpathlaw08_ChainKeeps_k11 at h
                    refine wpE_cond (o := (Operand.tmp 174)) (b := t174) (x := c_towpathlaw08_ChainKeeps_138) (y := c_towpathlaw08_ChainKeeps_142) (by kernel_rfl) (by kernel_rfl) (fun hb => ?_) (fun hb => ?_)
                    · replace h := h.1 hb
                      refine wpE_seq (x := c_towpathlaw08_ChainKeeps_139) (y := c_towpathlaw08_ChainKeeps_141) (by kernel_rfl) ?_
                      refine wpE_region (id := 31) (ops := r_towpathlaw08_ChainKeeps_139) (by kernel_rfl) ?_
                      refine reg_run [.plain] 1 [(6, [], Value.bool false)] (by kernel_rfl) (by kernel_rfl) ?_
                      refine reg_end [(6, Value.bool false)] (by kernel_rfl) (by kernel_rfl) ?_
                      change WpE _ _ c_towpathlaw08_ChainKeeps_141 _ _ _
                      refine wpE_ret (by kernel_rfl) ?_
                      repeat (first | refine seqQ_ret ?_ | refine blockQ_ret ?_ | refine loopQ_ret ?_ | refine cutQ_ret ?_)
                      exact retS (rs := [(Go.ResultVar.tmp 6)]) (v := Value.bool false) (by kernel_rfl) (⟨by kernel_rfl, trivial⟩) ⟨false, rfl, h⟩
                    · replace h := h.2 hb
                      refine wpE_skip (by kernel_rfl) ?_
                      change WpE _ _ c_towpathlaw08_ChainKeeps_143 _ _ _
                      refine wpE_region (id := 29) (ops := r_towpathlaw08_ChainKeeps_143) (by kernel_rfl) ?_
                      refine reg_run [.plain, .plain, .plain] 3 [(1, [], Value.int .u16 mark), (10, [], Value.slice x.ptr x.len x.cap), (19, [], Value.int .i64 (IntKind.i64.wrap (i1 + 1)))] (by kernel_rfl) (by kernel_rfl) ?_
                      refine reg_end [(1, Value.int .u16 mark), (10, Value.slice x.ptr x.len x.cap), (19, Value.int .i64 (IntKind.i64.wrap (i1 + 1)))] (by kernel_rfl) (by kernel_rfl) ?_
                      have hb_ := again_2_h _ _ h
                      exact ⟨_, hb_.2, [(1, Value.int .u16 mark), (10, Value.slice x.ptr x.len x.cap), (19, Value.int .i64 (IntKind.i64.wrap (i1 + 1)))], Sub.mk (by kernel_rfl), (IntKind.i64.wrap (i1 + 1)), rfl, hb_.1, rfl⟩
                · replace h := h.2 hb
                  refine wpE_exit (id := 4) (by kernel_rfl) ?_
                  change WpE _ _ c_towpathlaw08_ChainKeeps_145 _ _ _
                  refine wpE_seq (x := c_towpathlaw08_ChainKeeps_146) (y := c_towpathlaw08_ChainKeeps_148) (by kernel_rfl) ?_
                  refine wpE_region (id := 32) (ops := r_towpathlaw08_ChainKeeps_146) (by kernel_rfl) ?_
                  refine reg_run [.plain] 1 [(6, [], Value.bool true)] (by kernel_rfl) (by kernel_rfl) ?_
                  refine reg_end [(6, Value.bool true)] (by kernel_rfl) (by kernel_rfl) ?_
                  change WpE _ _ c_towpathlaw08_ChainKeeps_148 _ _ _
                  refine wpE_ret (by kernel_rfl) ?_
                  repeat (first | refine seqQ_ret ?_ | refine blockQ_ret ?_ | refine loopQ_ret ?_ | refine cutQ_ret ?_)
                  exact retS (rs := [(Go.ResultVar.tmp 6)]) (v := Value.bool true) (by kernel_rfl) (⟨by kernel_rfl, trivial⟩) ⟨true, rfl, h⟩
  · rintro e w' ⟨v, rfl, r0, rfl, h⟩; exact ⟨r0, rfl, h⟩
end Go.Proofs.Ytcgfmkpddhhmgaa
