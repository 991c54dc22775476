/- WRITTEN BY PROGRAM (dec.py): for each Go function the clean formula F, the call's contract C, and the proof S that F gives C. -/
import Derived.Test.YtfmkemmgakdddaaRows
import Derived.Test.YtfmkemmgakdddaaGF
namespace Go.Proofs.Ytfmkemmgakdddaa
open Go
set_option linter.unusedVariables false

/-! ### towpath/towpathlaw14.LaneStill (function 6) -/
noncomputable def c_towpathlaw14_LaneStill_0 : Code := (Try.f6.body).getD Code.skip
noncomputable def c_towpathlaw14_LaneStill_1 : Code := Code.l c_towpathlaw14_LaneStill_0
noncomputable def r_towpathlaw14_LaneStill_1 : Array Oper := Code.ops c_towpathlaw14_LaneStill_1
noncomputable def c_towpathlaw14_LaneStill_3 : Code := Code.r c_towpathlaw14_LaneStill_0
noncomputable def c_towpathlaw14_LaneStill_4 : Code := Code.l c_towpathlaw14_LaneStill_3
noncomputable def c_towpathlaw14_LaneStill_5 : Code := Code.l c_towpathlaw14_LaneStill_4
noncomputable def r_towpathlaw14_LaneStill_5 : Array Oper := Code.ops c_towpathlaw14_LaneStill_5
noncomputable def c_towpathlaw14_LaneStill_7 : Code := Code.r c_towpathlaw14_LaneStill_4
noncomputable def c_towpathlaw14_LaneStill_8 : Code := Code.l c_towpathlaw14_LaneStill_7
noncomputable def c_towpathlaw14_LaneStill_9 : Code := Code.l c_towpathlaw14_LaneStill_8
noncomputable def r_towpathlaw14_LaneStill_9 : Array Oper := Code.ops c_towpathlaw14_LaneStill_9
noncomputable def c_towpathlaw14_LaneStill_11 : Code := Code.r c_towpathlaw14_LaneStill_8
noncomputable def c_towpathlaw14_LaneStill_12 : Code := Code.r c_towpathlaw14_LaneStill_7
noncomputable def c_towpathlaw14_LaneStill_13 : Code := Code.r c_towpathlaw14_LaneStill_3
noncomputable def c_towpathlaw14_LaneStill_14 : Code := Code.l c_towpathlaw14_LaneStill_13
noncomputable def r_towpathlaw14_LaneStill_14 : Array Oper := Code.ops c_towpathlaw14_LaneStill_14
noncomputable def c_towpathlaw14_LaneStill_16 : Code := Code.r c_towpathlaw14_LaneStill_13
noncomputable def c_towpathlaw14_LaneStill_17 : Code := Code.l c_towpathlaw14_LaneStill_16
noncomputable def c_towpathlaw14_LaneStill_18 : Code := Code.l c_towpathlaw14_LaneStill_17
noncomputable def r_towpathlaw14_LaneStill_18 : Array Oper := Code.ops c_towpathlaw14_LaneStill_18
noncomputable def c_towpathlaw14_LaneStill_20 : Code := Code.r c_towpathlaw14_LaneStill_17
noncomputable def c_towpathlaw14_LaneStill_21 : Code := Code.l c_towpathlaw14_LaneStill_20
noncomputable def c_towpathlaw14_LaneStill_22 : Code := Code.l c_towpathlaw14_LaneStill_21
noncomputable def r_towpathlaw14_LaneStill_22 : Array Oper := Code.ops c_towpathlaw14_LaneStill_22
noncomputable def c_towpathlaw14_LaneStill_24 : Code := Code.r c_towpathlaw14_LaneStill_21
noncomputable def c_towpathlaw14_LaneStill_25 : Code := Code.r c_towpathlaw14_LaneStill_20
noncomputable def c_towpathlaw14_LaneStill_26 : Code := Code.r c_towpathlaw14_LaneStill_16
noncomputable def c_towpathlaw14_LaneStill_27 : Code := Code.l c_towpathlaw14_LaneStill_26
noncomputable def r_towpathlaw14_LaneStill_27 : Array Oper := Code.ops c_towpathlaw14_LaneStill_27
noncomputable def c_towpathlaw14_LaneStill_29 : Code := Code.r c_towpathlaw14_LaneStill_26
noncomputable def c_towpathlaw14_LaneStill_30 : Code := Code.l c_towpathlaw14_LaneStill_29
noncomputable def c_towpathlaw14_LaneStill_31 : Code := Code.l c_towpathlaw14_LaneStill_30
noncomputable def r_towpathlaw14_LaneStill_31 : Array Oper := Code.ops c_towpathlaw14_LaneStill_31
noncomputable def c_towpathlaw14_LaneStill_33 : Code := Code.r c_towpathlaw14_LaneStill_30
noncomputable def c_towpathlaw14_LaneStill_34 : Code := Code.l c_towpathlaw14_LaneStill_33
noncomputable def c_towpathlaw14_LaneStill_35 : Code := Code.l c_towpathlaw14_LaneStill_34
noncomputable def c_towpathlaw14_LaneStill_36 : Code := Code.l c_towpathlaw14_LaneStill_35
noncomputable def c_towpathlaw14_LaneStill_37 : Code := Code.l c_towpathlaw14_LaneStill_36
noncomputable def r_towpathlaw14_LaneStill_37 : Array Oper := Code.ops c_towpathlaw14_LaneStill_37
noncomputable def c_towpathlaw14_LaneStill_39 : Code := Code.r c_towpathlaw14_LaneStill_36
noncomputable def c_towpathlaw14_LaneStill_40 : Code := Code.l c_towpathlaw14_LaneStill_39
noncomputable def c_towpathlaw14_LaneStill_41 : Code := Code.r c_towpathlaw14_LaneStill_39
noncomputable def c_towpathlaw14_LaneStill_42 : Code := Code.r c_towpathlaw14_LaneStill_35
noncomputable def c_towpathlaw14_LaneStill_43 : Code := Code.l c_towpathlaw14_LaneStill_42
noncomputable def c_towpathlaw14_LaneStill_44 : Code := Code.l c_towpathlaw14_LaneStill_43
noncomputable def c_towpathlaw14_LaneStill_45 : Code := Code.l c_towpathlaw14_LaneStill_44
noncomputable def r_towpathlaw14_LaneStill_45 : Array Oper := Code.ops c_towpathlaw14_LaneStill_45
noncomputable def c_towpathlaw14_LaneStill_47 : Code := Code.r c_towpathlaw14_LaneStill_44
noncomputable def c_towpathlaw14_LaneStill_48 : Code := Code.l c_towpathlaw14_LaneStill_47
noncomputable def c_towpathlaw14_LaneStill_49 : Code := Code.l c_towpathlaw14_LaneStill_48
noncomputable def r_towpathlaw14_LaneStill_49 : Array Oper := Code.ops c_towpathlaw14_LaneStill_49
noncomputable def c_towpathlaw14_LaneStill_51 : Code := Code.r c_towpathlaw14_LaneStill_48
noncomputable def c_towpathlaw14_LaneStill_52 : Code := Code.l c_towpathlaw14_LaneStill_51
noncomputable def c_towpathlaw14_LaneStill_53 : Code := Code.l c_towpathlaw14_LaneStill_52
noncomputable def r_towpathlaw14_LaneStill_53 : Array Oper := Code.ops c_towpathlaw14_LaneStill_53
noncomputable def c_towpathlaw14_LaneStill_55 : Code := Code.r c_towpathlaw14_LaneStill_52
noncomputable def c_towpathlaw14_LaneStill_56 : Code := Code.l c_towpathlaw14_LaneStill_55
noncomputable def c_towpathlaw14_LaneStill_57 : Code := Code.l c_towpathlaw14_LaneStill_56
noncomputable def r_towpathlaw14_LaneStill_57 : Array Oper := Code.ops c_towpathlaw14_LaneStill_57
noncomputable def c_towpathlaw14_LaneStill_59 : Code := Code.r c_towpathlaw14_LaneStill_56
noncomputable def c_towpathlaw14_LaneStill_60 : Code := Code.l c_towpathlaw14_LaneStill_59
noncomputable def c_towpathlaw14_LaneStill_61 : Code := Code.l c_towpathlaw14_LaneStill_60
noncomputable def r_towpathlaw14_LaneStill_61 : Array Oper := Code.ops c_towpathlaw14_LaneStill_61
noncomputable def c_towpathlaw14_LaneStill_63 : Code := Code.r c_towpathlaw14_LaneStill_60
noncomputable def c_towpathlaw14_LaneStill_64 : Code := Code.l c_towpathlaw14_LaneStill_63
noncomputable def c_towpathlaw14_LaneStill_65 : Code := Code.l c_towpathlaw14_LaneStill_64
noncomputable def r_towpathlaw14_LaneStill_65 : Array Oper := Code.ops c_towpathlaw14_LaneStill_65
noncomputable def c_towpathlaw14_LaneStill_67 : Code := Code.r c_towpathlaw14_LaneStill_64
noncomputable def c_towpathlaw14_LaneStill_68 : Code := Code.r c_towpathlaw14_LaneStill_63
noncomputable def c_towpathlaw14_LaneStill_69 : Code := Code.r c_towpathlaw14_LaneStill_59
noncomputable def c_towpathlaw14_LaneStill_70 : Code := Code.l c_towpathlaw14_LaneStill_69
noncomputable def r_towpathlaw14_LaneStill_70 : Array Oper := Code.ops c_towpathlaw14_LaneStill_70
noncomputable def c_towpathlaw14_LaneStill_72 : Code := Code.r c_towpathlaw14_LaneStill_69
noncomputable def c_towpathlaw14_LaneStill_73 : Code := Code.l c_towpathlaw14_LaneStill_72
noncomputable def r_towpathlaw14_LaneStill_73 : Array Oper := Code.ops c_towpathlaw14_LaneStill_73
noncomputable def c_towpathlaw14_LaneStill_75 : Code := Code.r c_towpathlaw14_LaneStill_72
noncomputable def c_towpathlaw14_LaneStill_76 : Code := Code.r c_towpathlaw14_LaneStill_55
noncomputable def c_towpathlaw14_LaneStill_77 : Code := Code.l c_towpathlaw14_LaneStill_76
noncomputable def r_towpathlaw14_LaneStill_77 : Array Oper := Code.ops c_towpathlaw14_LaneStill_77
noncomputable def c_towpathlaw14_LaneStill_79 : Code := Code.r c_towpathlaw14_LaneStill_76
noncomputable def c_towpathlaw14_LaneStill_80 : Code := Code.l c_towpathlaw14_LaneStill_79
noncomputable def c_towpathlaw14_LaneStill_81 : Code := Code.l c_towpathlaw14_LaneStill_80
noncomputable def r_towpathlaw14_LaneStill_81 : Array Oper := Code.ops c_towpathlaw14_LaneStill_81
noncomputable def c_towpathlaw14_LaneStill_83 : Code := Code.r c_towpathlaw14_LaneStill_80
noncomputable def c_towpathlaw14_LaneStill_84 : Code := Code.l c_towpathlaw14_LaneStill_83
noncomputable def c_towpathlaw14_LaneStill_85 : Code := Code.l c_towpathlaw14_LaneStill_84
noncomputable def r_towpathlaw14_LaneStill_85 : Array Oper := Code.ops c_towpathlaw14_LaneStill_85
noncomputable def c_towpathlaw14_LaneStill_87 : Code := Code.r c_towpathlaw14_LaneStill_84
noncomputable def c_towpathlaw14_LaneStill_88 : Code := Code.r c_towpathlaw14_LaneStill_83
noncomputable def c_towpathlaw14_LaneStill_89 : Code := Code.r c_towpathlaw14_LaneStill_79
noncomputable def c_towpathlaw14_LaneStill_90 : Code := Code.l c_towpathlaw14_LaneStill_89
noncomputable def r_towpathlaw14_LaneStill_90 : Array Oper := Code.ops c_towpathlaw14_LaneStill_90
noncomputable def c_towpathlaw14_LaneStill_92 : Code := Code.r c_towpathlaw14_LaneStill_89
noncomputable def c_towpathlaw14_LaneStill_93 : Code := Code.l c_towpathlaw14_LaneStill_92
noncomputable def c_towpathlaw14_LaneStill_94 : Code := Code.l c_towpathlaw14_LaneStill_93
noncomputable def r_towpathlaw14_LaneStill_94 : Array Oper := Code.ops c_towpathlaw14_LaneStill_94
noncomputable def c_towpathlaw14_LaneStill_96 : Code := Code.r c_towpathlaw14_LaneStill_93
noncomputable def c_towpathlaw14_LaneStill_97 : Code := Code.l c_towpathlaw14_LaneStill_96
noncomputable def c_towpathlaw14_LaneStill_98 : Code := Code.l c_towpathlaw14_LaneStill_97
noncomputable def r_towpathlaw14_LaneStill_98 : Array Oper := Code.ops c_towpathlaw14_LaneStill_98
noncomputable def c_towpathlaw14_LaneStill_100 : Code := Code.r c_towpathlaw14_LaneStill_97
noncomputable def c_towpathlaw14_LaneStill_101 : Code := Code.l c_towpathlaw14_LaneStill_100
noncomputable def c_towpathlaw14_LaneStill_102 : Code := Code.l c_towpathlaw14_LaneStill_101
noncomputable def r_towpathlaw14_LaneStill_102 : Array Oper := Code.ops c_towpathlaw14_LaneStill_102
noncomputable def c_towpathlaw14_LaneStill_104 : Code := Code.r c_towpathlaw14_LaneStill_101
noncomputable def c_towpathlaw14_LaneStill_105 : Code := Code.r c_towpathlaw14_LaneStill_100
noncomputable def c_towpathlaw14_LaneStill_106 : Code := Code.r c_towpathlaw14_LaneStill_96
noncomputable def c_towpathlaw14_LaneStill_107 : Code := Code.l c_towpathlaw14_LaneStill_106
noncomputable def c_towpathlaw14_LaneStill_108 : Code := Code.l c_towpathlaw14_LaneStill_107
noncomputable def r_towpathlaw14_LaneStill_108 : Array Oper := Code.ops c_towpathlaw14_LaneStill_108
noncomputable def c_towpathlaw14_LaneStill_110 : Code := Code.r c_towpathlaw14_LaneStill_107
noncomputable def c_towpathlaw14_LaneStill_111 : Code := Code.l c_towpathlaw14_LaneStill_110
noncomputable def c_towpathlaw14_LaneStill_112 : Code := Code.l c_towpathlaw14_LaneStill_111
noncomputable def r_towpathlaw14_LaneStill_112 : Array Oper := Code.ops c_towpathlaw14_LaneStill_112
noncomputable def c_towpathlaw14_LaneStill_114 : Code := Code.r c_towpathlaw14_LaneStill_111
noncomputable def r_towpathlaw14_LaneStill_114 : Array Oper := Code.ops c_towpathlaw14_LaneStill_114
noncomputable def c_towpathlaw14_LaneStill_116 : Code := Code.r c_towpathlaw14_LaneStill_110
noncomputable def c_towpathlaw14_LaneStill_117 : Code := Code.r c_towpathlaw14_LaneStill_106
noncomputable def c_towpathlaw14_LaneStill_118 : Code := Code.r c_towpathlaw14_LaneStill_92
noncomputable def c_towpathlaw14_LaneStill_119 : Code := Code.l c_towpathlaw14_LaneStill_118
noncomputable def c_towpathlaw14_LaneStill_120 : Code := Code.l c_towpathlaw14_LaneStill_119
noncomputable def r_towpathlaw14_LaneStill_120 : Array Oper := Code.ops c_towpathlaw14_LaneStill_120
noncomputable def c_towpathlaw14_LaneStill_122 : Code := Code.r c_towpathlaw14_LaneStill_119
noncomputable def c_towpathlaw14_LaneStill_123 : Code := Code.l c_towpathlaw14_LaneStill_122
noncomputable def c_towpathlaw14_LaneStill_124 : Code := Code.l c_towpathlaw14_LaneStill_123
noncomputable def r_towpathlaw14_LaneStill_124 : Array Oper := Code.ops c_towpathlaw14_LaneStill_124
noncomputable def c_towpathlaw14_LaneStill_126 : Code := Code.r c_towpathlaw14_LaneStill_123
noncomputable def c_towpathlaw14_LaneStill_127 : Code := Code.r c_towpathlaw14_LaneStill_122
noncomputable def c_towpathlaw14_LaneStill_128 : Code := Code.r c_towpathlaw14_LaneStill_118
noncomputable def c_towpathlaw14_LaneStill_129 : Code := Code.l c_towpathlaw14_LaneStill_128
noncomputable def r_towpathlaw14_LaneStill_129 : Array Oper := Code.ops c_towpathlaw14_LaneStill_129
noncomputable def c_towpathlaw14_LaneStill_131 : Code := Code.r c_towpathlaw14_LaneStill_128
noncomputable def c_towpathlaw14_LaneStill_132 : Code := Code.l c_towpathlaw14_LaneStill_131
noncomputable def r_towpathlaw14_LaneStill_132 : Array Oper := Code.ops c_towpathlaw14_LaneStill_132
noncomputable def c_towpathlaw14_LaneStill_134 : Code := Code.r c_towpathlaw14_LaneStill_131
noncomputable def c_towpathlaw14_LaneStill_135 : Code := Code.l c_towpathlaw14_LaneStill_134
noncomputable def c_towpathlaw14_LaneStill_136 : Code := Code.l c_towpathlaw14_LaneStill_135
noncomputable def r_towpathlaw14_LaneStill_136 : Array Oper := Code.ops c_towpathlaw14_LaneStill_136
noncomputable def c_towpathlaw14_LaneStill_138 : Code := Code.r c_towpathlaw14_LaneStill_135
noncomputable def c_towpathlaw14_LaneStill_139 : Code := Code.r c_towpathlaw14_LaneStill_134
noncomputable def c_towpathlaw14_LaneStill_140 : Code := Code.r c_towpathlaw14_LaneStill_47
noncomputable def c_towpathlaw14_LaneStill_141 : Code := Code.l c_towpathlaw14_LaneStill_140
noncomputable def r_towpathlaw14_LaneStill_141 : Array Oper := Code.ops c_towpathlaw14_LaneStill_141
noncomputable def c_towpathlaw14_LaneStill_143 : Code := Code.r c_towpathlaw14_LaneStill_140
noncomputable def c_towpathlaw14_LaneStill_144 : Code := Code.l c_towpathlaw14_LaneStill_143
noncomputable def r_towpathlaw14_LaneStill_144 : Array Oper := Code.ops c_towpathlaw14_LaneStill_144
noncomputable def c_towpathlaw14_LaneStill_146 : Code := Code.r c_towpathlaw14_LaneStill_143
noncomputable def c_towpathlaw14_LaneStill_147 : Code := Code.l c_towpathlaw14_LaneStill_146
noncomputable def c_towpathlaw14_LaneStill_148 : Code := Code.l c_towpathlaw14_LaneStill_147
noncomputable def r_towpathlaw14_LaneStill_148 : Array Oper := Code.ops c_towpathlaw14_LaneStill_148
noncomputable def c_towpathlaw14_LaneStill_150 : Code := Code.r c_towpathlaw14_LaneStill_147
noncomputable def c_towpathlaw14_LaneStill_151 : Code := Code.r c_towpathlaw14_LaneStill_146
noncomputable def c_towpathlaw14_LaneStill_152 : Code := Code.r c_towpathlaw14_LaneStill_42
noncomputable def r_towpathlaw14_LaneStill_152 : Array Oper := Code.ops c_towpathlaw14_LaneStill_152
noncomputable def c_towpathlaw14_LaneStill_154 : Code := Code.r c_towpathlaw14_LaneStill_29
noncomputable def c_towpathlaw14_LaneStill_155 : Code := Code.l c_towpathlaw14_LaneStill_154
noncomputable def r_towpathlaw14_LaneStill_155 : Array Oper := Code.ops c_towpathlaw14_LaneStill_155
noncomputable def c_towpathlaw14_LaneStill_157 : Code := Code.r c_towpathlaw14_LaneStill_154
def o_towpathlaw14_LaneStill_144 : List Nat := [0, 1, 2, 3, 4, 5, 6, 7, 8, 9, 10, 11, 12, 13, 14, 15, 17, 18, 16, 19, 20]

set_option maxRecDepth 100000 in
set_option maxHeartbeats 4000000 in
theorem S_towpathlaw14_LaneStill {c : T_api_Config} {t_ : T_api_Txn} {asks : Slc} {w : World} {R : Bool → World → Prop} (h : F_towpathlaw14_LaneStill c t_ asks R w) : C_towpathlaw14_LaneStill c t_ asks w R := by
  unfold F_towpathlaw14_LaneStill at h
  unfold C_towpathlaw14_LaneStill
  refine Calls.mono (calls_of_wpE (args := [Value.agg #[Value.int .i64 c.Lanes, Value.int .i64 c.Shards, Value.int .i64 c.Window, Value.int .i64 c.Queue], Value.agg #[Value.int .i64 t_.Number, Value.slice t_.Writes.ptr t_.Writes.len t_.Writes.cap], Value.slice asks.ptr asks.len asks.cap]) (R := fun v w' => ∃ (r0 : Bool), v = Value.bool r0 ∧ R r0 w') Try.func6 (c := c_towpathlaw14_LaneStill_0) (by kernel_rfl) 155 (by kernel_rfl) (by kernel_rfl) [(0, Value.agg #[Value.int .i64 c.Lanes, Value.int .i64 c.Shards, Value.int .i64 c.Window, Value.int .i64 c.Queue]), (1, Value.agg #[Value.int .i64 t_.Number, Value.slice t_.Writes.ptr t_.Writes.len t_.Writes.cap]), (2, Value.slice asks.ptr asks.len asks.cap)] (by kernel_rfl) ?_) ?_
  · refine wpE_seq (x := c_towpathlaw14_LaneStill_1) (y := c_towpathlaw14_LaneStill_3) (by kernel_rfl) ?_
    refine wpE_region (id := 0) (ops := r_towpathlaw14_LaneStill_1) (by kernel_rfl) ?_
    refine reg_run [] 0 [(0, [], Value.agg #[Value.int .i64 c.Lanes, Value.int .i64 c.Shards, Value.int .i64 c.Window, Value.int .i64 c.Queue]), (1, [], Value.agg #[Value.int .i64 t_.Number, Value.slice t_.Writes.ptr t_.Writes.len t_.Writes.cap]), (2, [], Value.slice asks.ptr asks.len asks.cap)] (by kernel_rfl) (by kernel_rfl) ?_
    refine reg_new (op := (Go.Op.box 35 (Go.Operand.tmp 0))) (ty := 0) (dst := some 3) (fun bb => Value.pointer (some ⟨bb, 0, none⟩)) (Obj.cells ([Value.int .i64 c.Lanes, Value.int .i64 c.Shards, Value.int .i64 c.Window, Value.int .i64 c.Queue]).toArray ty_api_Config (0, 0)) (by kernel_rfl) (by kernel_rfl) (fun b_ w1 hb hw => ?_)
    replace h := h b_ w1 hb hw
    clear hb hw
    refine reg_run [] 1 [(1, [], Value.agg #[Value.int .i64 t_.Number, Value.slice t_.Writes.ptr t_.Writes.len t_.Writes.cap]), (2, [], Value.slice asks.ptr asks.len asks.cap), (3, [], Value.pointer (some ⟨b_, 0, none⟩))] (by kernel_rfl) (by kernel_rfl) ?_
    refine reg_new (op := (Go.Op.box 27 (Go.Operand.tmp 1))) (ty := 0) (dst := some 4) (fun bb => Value.pointer (some ⟨bb, 0, none⟩)) (Obj.cells ([Value.int .i64 t_.Number, Value.slice t_.Writes.ptr t_.Writes.len t_.Writes.cap]).toArray ty_api_Txn (0, 0)) (by kernel_rfl) (by kernel_rfl) (fun b_1 w2 hb hw => ?_)
    replace h := h b_1 w2 hb hw
    clear hb hw
    refine reg_run [.plain] 3 [(2, [], Value.slice asks.ptr asks.len asks.cap), (3, [], Value.pointer (some ⟨b_, 0, none⟩)), (4, [], Value.pointer (some ⟨b_1, 0, none⟩))] (by kernel_rfl) (by kernel_rfl) ?_
    refine reg_end [(2, Value.slice asks.ptr asks.len asks.cap), (3, Value.pointer (some ⟨b_, 0, none⟩)), (4, Value.pointer (some ⟨b_1, 0, none⟩))] (by kernel_rfl) (by kernel_rfl) ?_
    change WpE _ _ c_towpathlaw14_LaneStill_3 _ _ _
    refine wpE_seq (x := c_towpathlaw14_LaneStill_4) (y := c_towpathlaw14_LaneStill_13) (by kernel_rfl) ?_
    refine wpE_seq_cut (x := c_towpathlaw14_LaneStill_5) (y := c_towpathlaw14_LaneStill_7) (by kernel_rfl) (fun l w => ∃ (t39 : Bool), l = [(2, Value.slice asks.ptr asks.len asks.cap), (3, Value.pointer (some ⟨b_, 0, none⟩)), (4, Value.pointer (some ⟨b_1, 0, none⟩)), (39, Value.bool t39)] ∧ F_towpathlaw14_LaneStill_k0 asks R b_ b_1 t39 w) ?_ ?_
    · refine wpE_region (id := 1) (ops := r_towpathlaw14_LaneStill_5) (by kernel_rfl) ?_
      refine reg_run [] 0 [(2, [], Value.slice asks.ptr asks.len asks.cap), (3, [], Value.pointer (some ⟨b_, 0, none⟩)), (4, [], Value.pointer (some ⟨b_1, 0, none⟩))] (by kernel_rfl) (by kernel_rfl) ?_
      refine reg_enter (op := (Go.Op.call (Go.Call.mk (Go.Callee.value (Go.Operand.func 20)) #[] #[]))) (ty := 4) (dst := some 22) 20 #[] (by kernel_rfl) (fun ww => by kernel_rfl) (Calls.mono h ?_)
      rintro _ w27 ⟨v22, rfl, h⟩
      refine ⟨_, rfl, ?_⟩
      refine reg_run [.plain, .plain] 3 [(2, [], Value.slice asks.ptr asks.len asks.cap), (3, [], Value.pointer (some ⟨b_, 0, none⟩)), (4, [], Value.pointer (some ⟨b_1, 0, none⟩)), (24, [], Value.bool (!v22))] (by kernel_rfl) (by kernel_rfl) ?_
      refine reg_split 24 (!v22) (by kernel_rfl) (fun hb => ?_) (fun hb => ?_)
      · replace h := h.1 hb
        refine reg_run [] 3 [(2, [], Value.slice asks.ptr asks.len asks.cap), (3, [], Value.pointer (some ⟨b_, 0, none⟩)), (4, [], Value.pointer (some ⟨b_1, 0, none⟩)), (24, [], Value.bool true)] (by kernel_rfl) (by kernel_rfl) ?_
        refine reg_run [.skip, .skip, .skip, .plain, .plain, .skip, .skip, .skip, .plain, .plain, .skip, .skip, .skip, .skip, .plain] 18 [(2, [], Value.slice asks.ptr asks.len asks.cap), (3, [], Value.pointer (some ⟨b_, 0, none⟩)), (4, [], Value.pointer (some ⟨b_1, 0, none⟩)), (39, [], Value.bool true)] (by kernel_rfl) (by kernel_rfl) ?_
        refine reg_end [(2, Value.slice asks.ptr asks.len asks.cap), (3, Value.pointer (some ⟨b_, 0, none⟩)), (4, Value.pointer (some ⟨b_1, 0, none⟩)), (39, Value.bool true)] (by kernel_rfl) (by kernel_rfl) ?_
        exact ⟨[(2, Value.slice asks.ptr asks.len asks.cap), (3, Value.pointer (some ⟨b_, 0, none⟩)), (4, Value.pointer (some ⟨b_1, 0, none⟩)), (39, Value.bool true)], Sub.mk (by kernel_rfl), true, rfl, h⟩
      · replace h := h.2 hb
        refine reg_run [] 3 [(2, [], Value.slice asks.ptr asks.len asks.cap), (3, [], Value.pointer (some ⟨b_, 0, none⟩)), (4, [], Value.pointer (some ⟨b_1, 0, none⟩)), (24, [], Value.bool false)] (by kernel_rfl) (by kernel_rfl) ?_
        refine reg_run [] 3 [(2, [], Value.slice asks.ptr asks.len asks.cap), (3, [], Value.pointer (some ⟨b_, 0, none⟩)), (4, [], Value.pointer (some ⟨b_1, 0, none⟩)), (24, [], Value.bool false)] (by kernel_rfl) (by kernel_rfl) ?_
        obtain ⟨v25, hc, h⟩ := h
        refine reg_loadN (t := 35) (a := (Go.Operand.tmp 3)) (b := b_) (o := 0) (ty := 35) (dst := some 25) [Value.int .i64 v25.Lanes, Value.int .i64 v25.Shards, Value.int .i64 v25.Window, Value.int .i64 v25.Queue] (by kernel_rfl) (by kernel_rfl) (by kernel_rfl) (k := 4) (by kernel_rfl) (by kernel_rfl) hc ?_
        refine reg_run [] 4 [(2, [], Value.slice asks.ptr asks.len asks.cap), (3, [], Value.pointer (some ⟨b_, 0, none⟩)), (4, [], Value.pointer (some ⟨b_1, 0, none⟩)), (24, [], Value.bool false), (25, [], Value.agg #[Value.int .i64 v25.Lanes, Value.int .i64 v25.Shards, Value.int .i64 v25.Window, Value.int .i64 v25.Queue])] (by kernel_rfl) (by kernel_rfl) ?_
        refine reg_enter (op := (Go.Op.call (Go.Call.mk (Go.Callee.value (Go.Operand.func 21)) #[(Go.Operand.tmp 25)] #[35]))) (ty := 28) (dst := some 26) 21 #[Value.agg #[Value.int .i64 v25.Lanes, Value.int .i64 v25.Shards, Value.int .i64 v25.Window, Value.int .i64 v25.Queue]] (by kernel_rfl) (fun ww => by kernel_rfl) (Calls.mono h ?_)
        rintro _ w28 ⟨v26, rfl, h⟩
        refine ⟨_, rfl, ?_⟩
        refine reg_run [.sure, .plain, .plain] 8 [(2, [], Value.slice asks.ptr asks.len asks.cap), (3, [], Value.pointer (some ⟨b_, 0, none⟩)), (4, [], Value.pointer (some ⟨b_1, 0, none⟩)), (29, [], Value.bool (v26 != 0))] (by kernel_rfl) (by kernel_rfl) ?_
        refine reg_split 29 (v26 != 0) (by kernel_rfl) (fun hb => ?_) (fun hb => ?_)
        · replace h := h.1 hb
          refine reg_run [] 8 [(2, [], Value.slice asks.ptr asks.len asks.cap), (3, [], Value.pointer (some ⟨b_, 0, none⟩)), (4, [], Value.pointer (some ⟨b_1, 0, none⟩)), (29, [], Value.bool true)] (by kernel_rfl) (by kernel_rfl) ?_
          refine reg_run [.skip, .skip, .skip, .plain, .plain, .skip, .skip, .skip, .skip, .plain] 18 [(2, [], Value.slice asks.ptr asks.len asks.cap), (3, [], Value.pointer (some ⟨b_, 0, none⟩)), (4, [], Value.pointer (some ⟨b_1, 0, none⟩)), (39, [], Value.bool true)] (by kernel_rfl) (by kernel_rfl) ?_
          refine reg_end [(2, Value.slice asks.ptr asks.len asks.cap), (3, Value.pointer (some ⟨b_, 0, none⟩)), (4, Value.pointer (some ⟨b_1, 0, none⟩)), (39, Value.bool true)] (by kernel_rfl) (by kernel_rfl) ?_
          exact ⟨[(2, Value.slice asks.ptr asks.len asks.cap), (3, Value.pointer (some ⟨b_, 0, none⟩)), (4, Value.pointer (some ⟨b_1, 0, none⟩)), (39, Value.bool true)], Sub.mk (by kernel_rfl), true, rfl, h⟩
        · replace h := h.2 hb
          refine reg_run [] 8 [(2, [], Value.slice asks.ptr asks.len asks.cap), (3, [], Value.pointer (some ⟨b_, 0, none⟩)), (4, [], Value.pointer (some ⟨b_1, 0, none⟩)), (29, [], Value.bool false)] (by kernel_rfl) (by kernel_rfl) ?_
          refine reg_run [] 8 [(2, [], Value.slice asks.ptr asks.len asks.cap), (3, [], Value.pointer (some ⟨b_, 0, none⟩)), (4, [], Value.pointer (some ⟨b_1, 0, none⟩)), (29, [], Value.bool false)] (by kernel_rfl) (by kernel_rfl) ?_
          obtain ⟨v30, hc, h⟩ := h
          refine reg_loadN (t := 27) (a := (Go.Operand.tmp 4)) (b := b_1) (o := 0) (ty := 27) (dst := some 30) [Value.int .i64 v30.Number, Value.slice v30.Writes.ptr v30.Writes.len v30.Writes.cap] (by kernel_rfl) (by kernel_rfl) (by kernel_rfl) (k := 2) (by kernel_rfl) (by kernel_rfl) hc ?_
          refine reg_run [] 9 [(2, [], Value.slice asks.ptr asks.len asks.cap), (3, [], Value.pointer (some ⟨b_, 0, none⟩)), (4, [], Value.pointer (some ⟨b_1, 0, none⟩)), (29, [], Value.bool false), (30, [], Value.agg #[Value.int .i64 v30.Number, Value.slice v30.Writes.ptr v30.Writes.len v30.Writes.cap])] (by kernel_rfl) (by kernel_rfl) ?_
          refine reg_enter (op := (Go.Op.call (Go.Call.mk (Go.Callee.value (Go.Operand.func 24)) #[(Go.Operand.tmp 30)] #[27]))) (ty := 28) (dst := some 31) 24 #[Value.agg #[Value.int .i64 v30.Number, Value.slice v30.Writes.ptr v30.Writes.len v30.Writes.cap]] (by kernel_rfl) (fun ww => by kernel_rfl) (Calls.mono h ?_)
          rintro _ w29 ⟨v31, rfl, h⟩
          refine ⟨_, rfl, ?_⟩
          refine reg_run [.sure, .plain, .plain] 13 [(2, [], Value.slice asks.ptr asks.len asks.cap), (3, [], Value.pointer (some ⟨b_, 0, none⟩)), (4, [], Value.pointer (some ⟨b_1, 0, none⟩)), (34, [], Value.bool (v31 != 0))] (by kernel_rfl) (by kernel_rfl) ?_
          refine reg_split 34 (v31 != 0) (by kernel_rfl) (fun hb => ?_) (fun hb => ?_)
          · replace h := h.1 hb
            refine reg_run [] 13 [(2, [], Value.slice asks.ptr asks.len asks.cap), (3, [], Value.pointer (some ⟨b_, 0, none⟩)), (4, [], Value.pointer (some ⟨b_1, 0, none⟩)), (34, [], Value.bool true)] (by kernel_rfl) (by kernel_rfl) ?_
            refine reg_run [.skip, .skip, .skip, .skip, .plain] 18 [(2, [], Value.slice asks.ptr asks.len asks.cap), (3, [], Value.pointer (some ⟨b_, 0, none⟩)), (4, [], Value.pointer (some ⟨b_1, 0, none⟩)), (39, [], Value.bool true)] (by kernel_rfl) (by kernel_rfl) ?_
            refine reg_end [(2, Value.slice asks.ptr asks.len asks.cap), (3, Value.pointer (some ⟨b_, 0, none⟩)), (4, Value.pointer (some ⟨b_1, 0, none⟩)), (39, Value.bool true)] (by kernel_rfl) (by kernel_rfl) ?_
            exact ⟨[(2, Value.slice asks.ptr asks.len asks.cap), (3, Value.pointer (some ⟨b_, 0, none⟩)), (4, Value.pointer (some ⟨b_1, 0, none⟩)), (39, Value.bool true)], Sub.mk (by kernel_rfl), true, rfl, h⟩
          · replace h := h.2 hb
            refine reg_run [] 13 [(2, [], Value.slice asks.ptr asks.len asks.cap), (3, [], Value.pointer (some ⟨b_, 0, none⟩)), (4, [], Value.pointer (some ⟨b_1, 0, none⟩)), (34, [], Value.bool false)] (by kernel_rfl) (by kernel_rfl) ?_
            refine reg_run [] 13 [(2, [], Value.slice asks.ptr asks.len asks.cap), (3, [], Value.pointer (some ⟨b_, 0, none⟩)), (4, [], Value.pointer (some ⟨b_1, 0, none⟩)), (34, [], Value.bool false)] (by kernel_rfl) (by kernel_rfl) ?_
            obtain ⟨v35, hc, h⟩ := h
            refine reg_loadN (t := 27) (a := (Go.Operand.tmp 4)) (b := b_1) (o := 0) (ty := 27) (dst := some 35) [Value.int .i64 v35.Number, Value.slice v35.Writes.ptr v35.Writes.len v35.Writes.cap] (by kernel_rfl) (by kernel_rfl) (by kernel_rfl) (k := 2) (by kernel_rfl) (by kernel_rfl) hc ?_
            refine reg_run [] 14 [(2, [], Value.slice asks.ptr asks.len asks.cap), (3, [], Value.pointer (some ⟨b_, 0, none⟩)), (4, [], Value.pointer (some ⟨b_1, 0, none⟩)), (34, [], Value.bool false), (35, [], Value.agg #[Value.int .i64 v35.Number, Value.slice v35.Writes.ptr v35.Writes.len v35.Writes.cap])] (by kernel_rfl) (by kernel_rfl) ?_
            refine reg_enter (op := (Go.Op.call (Go.Call.mk (Go.Callee.value (Go.Operand.func 32)) #[(Go.Operand.tmp 35)] #[27]))) (ty := 3) (dst := some 36) 32 #[Value.agg #[Value.int .i64 v35.Number, Value.slice v35.Writes.ptr v35.Writes.len v35.Writes.cap]] (by kernel_rfl) (fun ww => by kernel_rfl) (Calls.mono h ?_)
            rintro _ w30 ⟨v36, rfl, h⟩
            refine ⟨_, rfl, ?_⟩
            refine reg_run [] 15 [(2, [], Value.slice asks.ptr asks.len asks.cap), (3, [], Value.pointer (some ⟨b_, 0, none⟩)), (4, [], Value.pointer (some ⟨b_1, 0, none⟩)), (34, [], Value.bool false), (36, [], Value.int .i64 v36)] (by kernel_rfl) (by kernel_rfl) ?_
            refine reg_new (op := (Go.Op.buildSlice 63 1 #[(0, (Go.Operand.tmp 36))])) (ty := 63) (dst := some 37) (fun bb => Value.slice (some ⟨bb, 0, none⟩) 1 1) (Obj.cells ([Value.int .i64 v36]).toArray ty_int (0, 0)) (by kernel_rfl) (by kernel_rfl) (fun b_4 w31 hb hw => ?_)
            replace h := h b_4 w31 hb hw
            clear hb hw
            refine reg_run [] 16 [(2, [], Value.slice asks.ptr asks.len asks.cap), (3, [], Value.pointer (some ⟨b_, 0, none⟩)), (4, [], Value.pointer (some ⟨b_1, 0, none⟩)), (34, [], Value.bool false), (37, [], Value.slice (some ⟨b_4, 0, none⟩) 1 1)] (by kernel_rfl) (by kernel_rfl) ?_
            refine reg_enter (op := (Go.Op.call (Go.Call.mk (Go.Callee.value (Go.Operand.func 10)) #[(Go.Operand.tmp 37)] #[63]))) (ty := 4) (dst := some 38) 10 #[Value.slice (some ⟨b_4, 0, none⟩) 1 1] (by kernel_rfl) (fun ww => by kernel_rfl) (Calls.mono h ?_)
            rintro _ w32 ⟨v38, rfl, h⟩
            refine ⟨_, rfl, ?_⟩
            refine reg_run [.plain] 18 [(2, [], Value.slice asks.ptr asks.len asks.cap), (3, [], Value.pointer (some ⟨b_, 0, none⟩)), (4, [], Value.pointer (some ⟨b_1, 0, none⟩)), (39, [], Value.bool v38)] (by kernel_rfl) (by kernel_rfl) ?_
            refine reg_end [(2, Value.slice asks.ptr asks.len asks.cap), (3, Value.pointer (some ⟨b_, 0, none⟩)), (4, Value.pointer (some ⟨b_1, 0, none⟩)), (39, Value.bool v38)] (by kernel_rfl) (by kernel_rfl) ?_
            exact ⟨[(2, Value.slice asks.ptr asks.len asks.cap), (3, Value.pointer (some ⟨b_, 0, none⟩)), (4, Value.pointer (some ⟨b_1, 0, none⟩)), (39, Value.bool v38)], Sub.mk (by kernel_rfl), v38, rfl, h⟩
    · rintro _ w3 ⟨t39, rfl, h⟩
      unfold F_towpathlaw14_LaneStill_k0 at h
      refine wpE_cond (o := (Operand.tmp 39)) (b := t39) (x := c_towpathlaw14_LaneStill_8) (y := c_towpathlaw14_LaneStill_12) (by kernel_rfl) (by kernel_rfl) (fun hb => ?_) (fun hb => ?_)
      · replace h := h.1 hb
        refine wpE_seq (x := c_towpathlaw14_LaneStill_9) (y := c_towpathlaw14_LaneStill_11) (by kernel_rfl) ?_
        refine wpE_region (id := 2) (ops := r_towpathlaw14_LaneStill_9) (by kernel_rfl) ?_
        refine reg_run [] 0 [] (by kernel_rfl) (by kernel_rfl) ?_
        refine reg_enter (op := (Go.Op.call (Go.Call.mk (Go.Callee.value (Go.Operand.func 20)) #[] #[]))) (ty := 4) (dst := some 40) 20 #[] (by kernel_rfl) (fun ww => by kernel_rfl) (Calls.mono h ?_)
        rintro _ w4 ⟨v40, rfl, h⟩
        refine ⟨_, rfl, ?_⟩
        refine reg_run [.plain] 2 [(6, [], Value.bool v40)] (by kernel_rfl) (by kernel_rfl) ?_
        refine reg_end [(6, Value.bool v40)] (by kernel_rfl) (by kernel_rfl) ?_
        change WpE _ _ c_towpathlaw14_LaneStill_11 _ _ _
        refine wpE_ret (by kernel_rfl) ?_
        repeat (first | refine seqQ_ret ?_ | refine blockQ_ret ?_ | refine loopQ_ret ?_ | refine cutQ_ret ?_)
        exact retS (rs := [(Go.ResultVar.tmp 6)]) (v := Value.bool v40) (by kernel_rfl) (⟨by kernel_rfl, trivial⟩) ⟨v40, rfl, h⟩
      · replace h := h.2 hb
        refine wpE_skip (by kernel_rfl) ?_
        change WpE _ _ c_towpathlaw14_LaneStill_13 _ _ _
        refine wpE_seq (x := c_towpathlaw14_LaneStill_14) (y := c_towpathlaw14_LaneStill_16) (by kernel_rfl) ?_
        refine wpE_region (id := 3) (ops := r_towpathlaw14_LaneStill_14) (by kernel_rfl) ?_
        refine reg_run [] 0 [(2, [], Value.slice asks.ptr asks.len asks.cap), (3, [], Value.pointer (some ⟨b_, 0, none⟩)), (4, [], Value.pointer (some ⟨b_1, 0, none⟩))] (by kernel_rfl) (by kernel_rfl) ?_
        obtain ⟨v42, hc, h⟩ := h
        refine reg_loadN (t := 35) (a := (Go.Operand.tmp 3)) (b := b_) (o := 0) (ty := 35) (dst := some 42) [Value.int .i64 v42.Lanes, Value.int .i64 v42.Shards, Value.int .i64 v42.Window, Value.int .i64 v42.Queue] (by kernel_rfl) (by kernel_rfl) (by kernel_rfl) (k := 4) (by kernel_rfl) (by kernel_rfl) hc ?_
        refine reg_run [] 1 [(2, [], Value.slice asks.ptr asks.len asks.cap), (4, [], Value.pointer (some ⟨b_1, 0, none⟩)), (42, [], Value.agg #[Value.int .i64 v42.Lanes, Value.int .i64 v42.Shards, Value.int .i64 v42.Window, Value.int .i64 v42.Queue])] (by kernel_rfl) (by kernel_rfl) ?_
        refine reg_enter (op := (Go.Op.call (Go.Call.mk (Go.Callee.value (Go.Operand.func 17)) #[(Go.Operand.const (Go.Value.int Go.IntKind.i64 1)), (Go.Operand.tmp 42)] #[3, 35]))) (ty := 39) (dst := some 43) 17 #[Value.int .i64 1, Value.agg #[Value.int .i64 v42.Lanes, Value.int .i64 v42.Shards, Value.int .i64 v42.Window, Value.int .i64 v42.Queue]] (by kernel_rfl) (fun ww => by kernel_rfl) (Calls.mono h ?_)
        rintro _ w5 ⟨l_, e, rfl, h⟩
        refine ⟨_, rfl, ?_⟩
        refine reg_run [.plain, .plain, .plain, .plain, .plain] 7 [(2, [], Value.slice asks.ptr asks.len asks.cap), (4, [], Value.pointer (some ⟨b_1, 0, none⟩)), (7, [], Value.pointer l_), (8, [], Value.int .i64 e)] (by kernel_rfl) (by kernel_rfl) ?_
        refine reg_end [(2, Value.slice asks.ptr asks.len asks.cap), (4, Value.pointer (some ⟨b_1, 0, none⟩)), (7, Value.pointer l_), (8, Value.int .i64 e)] (by kernel_rfl) (by kernel_rfl) ?_
        change WpE _ _ c_towpathlaw14_LaneStill_16 _ _ _
        refine wpE_seq (x := c_towpathlaw14_LaneStill_17) (y := c_towpathlaw14_LaneStill_26) (by kernel_rfl) ?_
        refine wpE_seq_cut (x := c_towpathlaw14_LaneStill_18) (y := c_towpathlaw14_LaneStill_20) (by kernel_rfl) (fun l w => ∃ (t53 : Bool), l = [(2, Value.slice asks.ptr asks.len asks.cap), (4, Value.pointer (some ⟨b_1, 0, none⟩)), (7, Value.pointer l_), (53, Value.bool t53)] ∧ F_towpathlaw14_LaneStill_k1 asks R b_1 l_ t53 w) ?_ ?_
        · refine wpE_region (id := 4) (ops := r_towpathlaw14_LaneStill_18) (by kernel_rfl) ?_
          refine reg_run [.plain, .plain, .plain, .plain] 4 [(2, [], Value.slice asks.ptr asks.len asks.cap), (4, [], Value.pointer (some ⟨b_1, 0, none⟩)), (7, [], Value.pointer l_), (48, [], Value.bool (e != 0)), (49, [(48, false)], Value.pointer l_)] (by kernel_rfl) (by kernel_rfl) ?_
          refine reg_split 48 (e != 0) (by kernel_rfl) (fun hb => ?_) (fun hb => ?_)
          · replace h := h.1 hb
            refine reg_run [] 4 [(2, [], Value.slice asks.ptr asks.len asks.cap), (4, [], Value.pointer (some ⟨b_1, 0, none⟩)), (7, [], Value.pointer l_), (48, [], Value.bool true), (49, [], undef)] (by kernel_rfl) (by kernel_rfl) ?_
            refine reg_run [.skip, .skip, .skip, .plain] 8 [(2, [], Value.slice asks.ptr asks.len asks.cap), (4, [], Value.pointer (some ⟨b_1, 0, none⟩)), (7, [], Value.pointer l_), (53, [], Value.bool true)] (by kernel_rfl) (by kernel_rfl) ?_
            refine reg_end [(2, Value.slice asks.ptr asks.len asks.cap), (4, Value.pointer (some ⟨b_1, 0, none⟩)), (7, Value.pointer l_), (53, Value.bool true)] (by kernel_rfl) (by kernel_rfl) ?_
            exact ⟨[(2, Value.slice asks.ptr asks.len asks.cap), (4, Value.pointer (some ⟨b_1, 0, none⟩)), (7, Value.pointer l_), (53, Value.bool true)], Sub.mk (by kernel_rfl), true, rfl, h⟩
          · replace h := h.2 hb
            refine reg_run [] 4 [(2, [], Value.slice asks.ptr asks.len asks.cap), (4, [], Value.pointer (some ⟨b_1, 0, none⟩)), (7, [], Value.pointer l_), (48, [], Value.bool false), (49, [], Value.pointer l_)] (by kernel_rfl) (by kernel_rfl) ?_
            refine reg_run [] 4 [(2, [], Value.slice asks.ptr asks.len asks.cap), (4, [], Value.pointer (some ⟨b_1, 0, none⟩)), (7, [], Value.pointer l_), (48, [], Value.bool false), (49, [], Value.pointer l_)] (by kernel_rfl) (by kernel_rfl) ?_
            obtain ⟨v50, hc, h⟩ := h
            refine reg_loadN (t := 27) (a := (Go.Operand.tmp 4)) (b := b_1) (o := 0) (ty := 27) (dst := some 50) [Value.int .i64 v50.Number, Value.slice v50.Writes.ptr v50.Writes.len v50.Writes.cap] (by kernel_rfl) (by kernel_rfl) (by kernel_rfl) (k := 2) (by kernel_rfl) (by kernel_rfl) hc ?_
            refine reg_run [] 5 [(2, [], Value.slice asks.ptr asks.len asks.cap), (4, [], Value.pointer (some ⟨b_1, 0, none⟩)), (7, [], Value.pointer l_), (48, [], Value.bool false), (49, [], Value.pointer l_), (50, [], Value.agg #[Value.int .i64 v50.Number, Value.slice v50.Writes.ptr v50.Writes.len v50.Writes.cap])] (by kernel_rfl) (by kernel_rfl) ?_
            refine reg_enter (op := (Go.Op.call (Go.Call.mk (Go.Callee.value (Go.Operand.func 23)) #[(Go.Operand.tmp 49), (Go.Operand.tmp 50)] #[38, 27]))) (ty := 28) (dst := some 51) 23 #[Value.pointer l_, Value.agg #[Value.int .i64 v50.Number, Value.slice v50.Writes.ptr v50.Writes.len v50.Writes.cap]] (by kernel_rfl) (fun ww => by kernel_rfl) (Calls.mono h ?_)
            rintro _ w26 ⟨v51, rfl, h⟩
            refine ⟨_, rfl, ?_⟩
            refine reg_run [.sure, .plain] 8 [(2, [], Value.slice asks.ptr asks.len asks.cap), (4, [], Value.pointer (some ⟨b_1, 0, none⟩)), (7, [], Value.pointer l_), (53, [], Value.bool (v51 != 0))] (by kernel_rfl) (by kernel_rfl) ?_
            refine reg_end [(2, Value.slice asks.ptr asks.len asks.cap), (4, Value.pointer (some ⟨b_1, 0, none⟩)), (7, Value.pointer l_), (53, Value.bool (v51 != 0))] (by kernel_rfl) (by kernel_rfl) ?_
            exact ⟨[(2, Value.slice asks.ptr asks.len asks.cap), (4, Value.pointer (some ⟨b_1, 0, none⟩)), (7, Value.pointer l_), (53, Value.bool (v51 != 0))], Sub.mk (by kernel_rfl), (v51 != 0), rfl, h⟩
        · rintro _ w6 ⟨t53, rfl, h⟩
          unfold F_towpathlaw14_LaneStill_k1 at h
          refine wpE_cond (o := (Operand.tmp 53)) (b := t53) (x := c_towpathlaw14_LaneStill_21) (y := c_towpathlaw14_LaneStill_25) (by kernel_rfl) (by kernel_rfl) (fun hb => ?_) (fun hb => ?_)
          · replace h := h.1 hb
            refine wpE_seq (x := c_towpathlaw14_LaneStill_22) (y := c_towpathlaw14_LaneStill_24) (by kernel_rfl) ?_
            refine wpE_region (id := 5) (ops := r_towpathlaw14_LaneStill_22) (by kernel_rfl) ?_
            refine reg_run [.plain] 1 [(6, [], Value.bool false)] (by kernel_rfl) (by kernel_rfl) ?_
            refine reg_end [(6, Value.bool false)] (by kernel_rfl) (by kernel_rfl) ?_
            change WpE _ _ c_towpathlaw14_LaneStill_24 _ _ _
            refine wpE_ret (by kernel_rfl) ?_
            repeat (first | refine seqQ_ret ?_ | refine blockQ_ret ?_ | refine loopQ_ret ?_ | refine cutQ_ret ?_)
            exact retS (rs := [(Go.ResultVar.tmp 6)]) (v := Value.bool false) (by kernel_rfl) (⟨by kernel_rfl, trivial⟩) ⟨false, rfl, h⟩
          · replace h := h.2 hb
            refine wpE_skip (by kernel_rfl) ?_
            change WpE _ _ c_towpathlaw14_LaneStill_26 _ _ _
            refine wpE_seq (x := c_towpathlaw14_LaneStill_27) (y := c_towpathlaw14_LaneStill_29) (by kernel_rfl) ?_
            refine wpE_region (id := 6) (ops := r_towpathlaw14_LaneStill_27) (by kernel_rfl) ?_
            refine reg_run [.plain, .plain] 2 [(2, [], Value.slice asks.ptr asks.len asks.cap), (4, [], Value.pointer (some ⟨b_1, 0, none⟩)), (7, [], Value.pointer l_), (9, [], Value.int .i64 0), (10, [], Value.int .i64 0)] (by kernel_rfl) (by kernel_rfl) ?_
            refine reg_end [(2, Value.slice asks.ptr asks.len asks.cap), (4, Value.pointer (some ⟨b_1, 0, none⟩)), (7, Value.pointer l_), (9, Value.int .i64 0), (10, Value.int .i64 0)] (by kernel_rfl) (by kernel_rfl) ?_
            change WpE _ _ c_towpathlaw14_LaneStill_29 _ _ _
            refine wpE_seq (x := c_towpathlaw14_LaneStill_30) (y := c_towpathlaw14_LaneStill_154) (by kernel_rfl) ?_
            refine wpE_seq (x := c_towpathlaw14_LaneStill_31) (y := c_towpathlaw14_LaneStill_33) (by kernel_rfl) ?_
            refine wpE_region (id := 7) (ops := r_towpathlaw14_LaneStill_31) (by kernel_rfl) ?_
            refine reg_run [.plain] 1 [(2, [], Value.slice asks.ptr asks.len asks.cap), (4, [], Value.pointer (some ⟨b_1, 0, none⟩)), (7, [], Value.pointer l_), (9, [], Value.int .i64 0), (10, [], Value.int .i64 0), (11, [], Value.int .i64 0)] (by kernel_rfl) (by kernel_rfl) ?_
            refine reg_end [(2, Value.slice asks.ptr asks.len asks.cap), (4, Value.pointer (some ⟨b_1, 0, none⟩)), (7, Value.pointer l_), (9, Value.int .i64 0), (10, Value.int .i64 0), (11, Value.int .i64 0)] (by kernel_rfl) (by kernel_rfl) ?_
            change WpE _ _ c_towpathlaw14_LaneStill_33 _ _ _
            refine wpE_block (id := 0) (x := c_towpathlaw14_LaneStill_34) (by kernel_rfl) ?_
            obtain ⟨I, μ, h0, hr⟩ := h
            refine wpE_loop (x := c_towpathlaw14_LaneStill_35) (by kernel_rfl) (fun m l w => ∃ (out : Int) (all : Int) (i : Int), l = [(2, Value.slice asks.ptr asks.len asks.cap), (4, Value.pointer (some ⟨b_1, 0, none⟩)), (7, Value.pointer l_), (9, Value.int .i64 out), (10, Value.int .i64 all), (11, Value.int .i64 i)] ∧ I out all i w ∧ μ out all i w = m) (l' := [(2, Value.slice asks.ptr asks.len asks.cap), (4, Value.pointer (some ⟨b_1, 0, none⟩)), (7, Value.pointer l_), (9, Value.int .i64 0), (10, Value.int .i64 0), (11, Value.int .i64 0)]) (Sub.mk (by kernel_rfl)) ⟨0, 0, 0, rfl, h0, rfl⟩ ?_
            rintro _ _ w7 ⟨out, all, i, rfl, hI, rfl⟩
            obtain ⟨again_, again__h, h⟩ : ∃ again_ : Int → Int → Int → World → Prop, (∀ out' all' i' w', again_ out' all' i' w' → I out' all' i' w' ∧ μ out' all' i' w' < μ out all i w7) ∧ F_towpathlaw14_LaneStill_L2 asks R b_1 l_ again_ out all i w7 := ⟨_, fun _ _ _ _ h => h, hr out all i w7 hI⟩
            clear h0 hI
            unfold F_towpathlaw14_LaneStill_L2 at h
            refine wpE_seq (x := c_towpathlaw14_LaneStill_36) (y := c_towpathlaw14_LaneStill_42) (by kernel_rfl) ?_
            refine wpE_seq (x := c_towpathlaw14_LaneStill_37) (y := c_towpathlaw14_LaneStill_39) (by kernel_rfl) ?_
            refine wpE_region (id := 8) (ops := r_towpathlaw14_LaneStill_37) (by kernel_rfl) ?_
            refine reg_run [.plain, .plain, .plain, .plain, .plain, .plain, .plain, .pick] 8 [(2, [], Value.slice asks.ptr asks.len asks.cap), (4, [], Value.pointer (some ⟨b_1, 0, none⟩)), (7, [], Value.pointer l_), (9, [], Value.int .i64 out), (10, [], Value.int .i64 all), (11, [], Value.int .i64 i), (61, [], Value.bool ((decide (i < ((asks.len : Nat) : Int))) && (decide (i < 500))))] (by kernel_rfl) (by kernel_rfl) ?_
            refine reg_end [(2, Value.slice asks.ptr asks.len asks.cap), (4, Value.pointer (some ⟨b_1, 0, none⟩)), (7, Value.pointer l_), (9, Value.int .i64 out), (10, Value.int .i64 all), (11, Value.int .i64 i), (61, Value.bool ((decide (i < ((asks.len : Nat) : Int))) && (decide (i < 500))))] (by kernel_rfl) (by kernel_rfl) ?_
            change WpE _ _ c_towpathlaw14_LaneStill_39 _ _ _
            refine wpE_cond (o := (Operand.tmp 61)) (b := ((decide (i < ((asks.len : Nat) : Int))) && (decide (i < 500)))) (x := c_towpathlaw14_LaneStill_40) (y := c_towpathlaw14_LaneStill_41) (by kernel_rfl) (by kernel_rfl) (fun hb => ?_) (fun hb => ?_)
            · replace h := h.1 hb
              refine wpE_skip (by kernel_rfl) ?_
              change WpE _ _ c_towpathlaw14_LaneStill_42 _ _ _
              refine wpE_seq_cut (x := c_towpathlaw14_LaneStill_43) (y := c_towpathlaw14_LaneStill_152) (by kernel_rfl) (fun l w => ∃ (out1 : Int) (all1 : Int), l = [(2, Value.slice asks.ptr asks.len asks.cap), (4, Value.pointer (some ⟨b_1, 0, none⟩)), (7, Value.pointer l_), (9, Value.int .i64 out1), (10, Value.int .i64 all1), (11, Value.int .i64 i)] ∧ F_towpathlaw14_LaneStill_k3 i again_ out1 all1 w) ?_ ?_
              · refine wpE_block (id := 1) (x := c_towpathlaw14_LaneStill_44) (by kernel_rfl) ?_
                refine wpE_seq (x := c_towpathlaw14_LaneStill_45) (y := c_towpathlaw14_LaneStill_47) (by kernel_rfl) ?_
                refine wpE_region (id := 10) (ops := r_towpathlaw14_LaneStill_45) (by kernel_rfl) ?_
                refine reg_run [.plain] 1 [(2, [], Value.slice asks.ptr asks.len asks.cap), (4, [], Value.pointer (some ⟨b_1, 0, none⟩)), (7, [], Value.pointer l_), (9, [], Value.int .i64 out), (10, [], Value.int .i64 all), (11, [], Value.int .i64 i), (65, [], Value.pointer l_)] (by kernel_rfl) (by kernel_rfl) ?_
                refine reg_enter (op := (Go.Op.call (Go.Call.mk (Go.Callee.value (Go.Operand.func 26)) #[(Go.Operand.tmp 65)] #[38]))) (ty := 66) (dst := some 66) 26 #[Value.pointer l_] (by kernel_rfl) (fun ww => by kernel_rfl) (Calls.mono h ?_)
                rintro _ w9 ⟨s, v66_1, ok, rfl, h⟩
                refine ⟨_, rfl, ?_⟩
                refine reg_run [.plain, .plain, .plain, .plain] 6 [(2, [], Value.slice asks.ptr asks.len asks.cap), (4, [], Value.pointer (some ⟨b_1, 0, none⟩)), (7, [], Value.pointer l_), (9, [], Value.int .i64 out), (10, [], Value.int .i64 all), (11, [], Value.int .i64 i), (67, [], Value.int .i64 s), (68, [], Value.agg #[Value.int .u8 v66_1.Kind, Value.int .i64 v66_1.From, Value.int .i64 v66_1.Number, Value.string v66_1.Write.Key, Value.string v66_1.Write.Val, Value.bool v66_1.Write.Drop, Value.string v66_1.Key, Value.string v66_1.End, Value.slice v66_1.Beyond.ptr v66_1.Beyond.len v66_1.Beyond.cap]), (69, [], Value.bool ok)] (by kernel_rfl) (by kernel_rfl) ?_
                refine reg_new (op := (Go.Op.alloc 65)) (ty := 0) (dst := some 13) (fun bb => Value.pointer (some ⟨bb, 0, none⟩)) (Obj.cells ([Value.int .u8 0, Value.int .i64 0, Value.int .i64 0, Value.string ByteArray.empty, Value.string ByteArray.empty, Value.bool false, Value.string ByteArray.empty, Value.string ByteArray.empty, Value.slice none 0 0]).toArray ty_api_Req (0, 0)) (by kernel_rfl) (by kernel_rfl) (fun b_2 w10 hb hw => ?_)
                replace h := h b_2 w10 hb hw
                clear hb hw
                refine reg_run [.plain] 8 [(2, [], Value.slice asks.ptr asks.len asks.cap), (4, [], Value.pointer (some ⟨b_1, 0, none⟩)), (7, [], Value.pointer l_), (9, [], Value.int .i64 out), (10, [], Value.int .i64 all), (11, [], Value.int .i64 i), (12, [], Value.int .i64 s), (13, [], Value.pointer (some ⟨b_2, 0, none⟩)), (68, [], Value.agg #[Value.int .u8 v66_1.Kind, Value.int .i64 v66_1.From, Value.int .i64 v66_1.Number, Value.string v66_1.Write.Key, Value.string v66_1.Write.Val, Value.bool v66_1.Write.Drop, Value.string v66_1.Key, Value.string v66_1.End, Value.slice v66_1.Beyond.ptr v66_1.Beyond.len v66_1.Beyond.cap]), (69, [], Value.bool ok)] (by kernel_rfl) (by kernel_rfl) ?_
                obtain ⟨hc, h⟩ := h
                refine reg_store (t := 65) (a := (Go.Operand.tmp 13)) (x := (Go.Operand.tmp 68)) (b := b_2) (o := 0) (ty := 0) (dst := none) [Value.int .u8 v66_1.Kind, Value.int .i64 v66_1.From, Value.int .i64 v66_1.Number, Value.string v66_1.Write.Key, Value.string v66_1.Write.Val, Value.bool v66_1.Write.Drop, Value.string v66_1.Key, Value.string v66_1.End, Value.slice v66_1.Beyond.ptr v66_1.Beyond.len v66_1.Beyond.cap] (by kernel_rfl) (by kernel_rfl) (by kernel_rfl) (k := 9) (by kernel_rfl) (by kernel_rfl) (by kernel_rfl) hc (fun w11 hw => ?_)
                replace h := h w11 hw
                clear hw
                refine reg_run [.plain] 10 [(2, [], Value.slice asks.ptr asks.len asks.cap), (4, [], Value.pointer (some ⟨b_1, 0, none⟩)), (7, [], Value.pointer l_), (9, [], Value.int .i64 out), (10, [], Value.int .i64 all), (11, [], Value.int .i64 i), (12, [], Value.int .i64 s), (13, [], Value.pointer (some ⟨b_2, 0, none⟩)), (14, [], Value.bool ok)] (by kernel_rfl) (by kernel_rfl) ?_
                refine reg_end [(2, Value.slice asks.ptr asks.len asks.cap), (4, Value.pointer (some ⟨b_1, 0, none⟩)), (7, Value.pointer l_), (9, Value.int .i64 out), (10, Value.int .i64 all), (11, Value.int .i64 i), (12, Value.int .i64 s), (13, Value.pointer (some ⟨b_2, 0, none⟩)), (14, Value.bool ok)] (by kernel_rfl) (by kernel_rfl) ?_
                change WpE _ _ c_towpathlaw14_LaneStill_47 _ _ _
                refine wpE_seq_cut (x := c_towpathlaw14_LaneStill_48) (y := c_towpathlaw14_LaneStill_140) (by kernel_rfl) (fun l w => ∃ (out2 : Int), l = [(2, Value.slice asks.ptr asks.len asks.cap), (4, Value.pointer (some ⟨b_1, 0, none⟩)), (7, Value.pointer l_), (9, Value.int .i64 out2), (10, Value.int .i64 all), (11, Value.int .i64 i), (12, Value.int .i64 s), (13, Value.pointer (some ⟨b_2, 0, none⟩)), (14, Value.bool ok)] ∧ F_towpathlaw14_LaneStill_k4 R b_1 l_ all i again_ s ok b_2 out2 w) ?_ ?_
                · refine wpE_seq (x := c_towpathlaw14_LaneStill_49) (y := c_towpathlaw14_LaneStill_51) (by kernel_rfl) ?_
                  refine wpE_region (id := 11) (ops := r_towpathlaw14_LaneStill_49) (by kernel_rfl) ?_
                  refine reg_run [.plain, .plain] 2 [(2, [], Value.slice asks.ptr asks.len asks.cap), (4, [], Value.pointer (some ⟨b_1, 0, none⟩)), (7, [], Value.pointer l_), (9, [], Value.int .i64 out), (10, [], Value.int .i64 all), (11, [], Value.int .i64 i), (12, [], Value.int .i64 s), (13, [], Value.pointer (some ⟨b_2, 0, none⟩)), (14, [], Value.bool ok), (70, [], Value.slice asks.ptr asks.len asks.cap), (71, [], Value.int .i64 i)] (by kernel_rfl) (by kernel_rfl) ?_
                  obtain ⟨hp_15, h⟩ := h
                  refine reg_conv [(2, [], Value.slice asks.ptr asks.len asks.cap), (4, [], Value.pointer (some ⟨b_1, 0, none⟩)), (7, [], Value.pointer l_), (9, [], Value.int .i64 out), (10, [], Value.int .i64 all), (11, [], Value.int .i64 i), (12, [], Value.int .i64 s), (13, [], Value.pointer (some ⟨b_2, 0, none⟩)), (14, [], Value.bool ok), (70, [], Value.slice (some ⟨(pblk asks.ptr), (poff asks.ptr), none⟩) asks.len asks.cap), (71, [], Value.int .i64 i)] (congrArg (fun pp => ([(2, [], Value.slice asks.ptr asks.len asks.cap), (4, [], Value.pointer (some ⟨b_1, 0, none⟩)), (7, [], Value.pointer l_), (9, [], Value.int .i64 out), (10, [], Value.int .i64 all), (11, [], Value.int .i64 i), (12, [], Value.int .i64 s), (13, [], Value.pointer (some ⟨b_2, 0, none⟩)), (14, [], Value.bool ok), (70, [], Value.slice pp asks.len asks.cap), (71, [], Value.int .i64 i)] : GEnv)) hp_15) ?_
                  obtain ⟨h0, h1, h⟩ := h
                  refine reg_indexS1 (t := 22) (e := 5) (x := (Go.Operand.tmp 70)) (ix := (Go.Operand.tmp 71)) (b := (pblk asks.ptr)) (o := (poff asks.ptr)) (l := asks.len) (c := asks.cap) (k := .i64) (j := i) (ty := 0) (dst := some 72) (by kernel_rfl) (by kernel_rfl) (by kernel_rfl) (by kernel_rfl) (by kernel_rfl) h0 h1 ?_
                  refine reg_run [] 3 [(2, [], Value.slice asks.ptr asks.len asks.cap), (4, [], Value.pointer (some ⟨b_1, 0, none⟩)), (7, [], Value.pointer l_), (9, [], Value.int .i64 out), (10, [], Value.int .i64 all), (11, [], Value.int .i64 i), (12, [], Value.int .i64 s), (13, [], Value.pointer (some ⟨b_2, 0, none⟩)), (14, [], Value.bool ok), (72, [], Value.pointer (some ⟨(pblk asks.ptr), (poff asks.ptr) + i.toNat, none⟩))] (by kernel_rfl) (by kernel_rfl) ?_
                  obtain ⟨v73, hc, h⟩ := h
                  refine reg_load1 (t := 5) (a := (Go.Operand.tmp 72)) (b := (pblk asks.ptr)) (o := ((poff asks.ptr) + i.toNat)) (ty := 5) (dst := some 73) (by kernel_rfl) (by kernel_rfl) (by kernel_rfl) hc ?_
                  refine reg_run [.plain] 5 [(2, [], Value.slice asks.ptr asks.len asks.cap), (4, [], Value.pointer (some ⟨b_1, 0, none⟩)), (7, [], Value.pointer l_), (9, [], Value.int .i64 out), (10, [], Value.int .i64 all), (11, [], Value.int .i64 i), (12, [], Value.int .i64 s), (13, [], Value.pointer (some ⟨b_2, 0, none⟩)), (14, [], Value.bool ok), (74, [], Value.int .u8 (Int.tmod v73 4))] (by kernel_rfl) (by kernel_rfl) ?_
                  refine reg_end [(2, Value.slice asks.ptr asks.len asks.cap), (4, Value.pointer (some ⟨b_1, 0, none⟩)), (7, Value.pointer l_), (9, Value.int .i64 out), (10, Value.int .i64 all), (11, Value.int .i64 i), (12, Value.int .i64 s), (13, Value.pointer (some ⟨b_2, 0, none⟩)), (14, Value.bool ok), (74, Value.int .u8 (Int.tmod v73 4))] (by kernel_rfl) (by kernel_rfl) ?_
                  change WpE _ _ c_towpathlaw14_LaneStill_51 _ _ _
                  refine wpE_block (id := 2) (x := c_towpathlaw14_LaneStill_52) (by kernel_rfl) ?_
                  refine wpE_seq (x := c_towpathlaw14_LaneStill_53) (y := c_towpathlaw14_LaneStill_55) (by kernel_rfl) ?_
                  refine wpE_region (id := 17) (ops := r_towpathlaw14_LaneStill_53) (by kernel_rfl) ?_
                  refine reg_run [.plain, .plain] 2 [(2, [], Value.slice asks.ptr asks.len asks.cap), (4, [], Value.pointer (some ⟨b_1, 0, none⟩)), (7, [], Value.pointer l_), (9, [], Value.int .i64 out), (10, [], Value.int .i64 all), (11, [], Value.int .i64 i), (12, [], Value.int .i64 s), (13, [], Value.pointer (some ⟨b_2, 0, none⟩)), (14, [], Value.bool ok), (74, [], Value.int .u8 (Int.tmod v73 4)), (90, [], Value.bool ((Int.tmod v73 4) == 0))] (by kernel_rfl) (by kernel_rfl) ?_
                  refine reg_end [(2, Value.slice asks.ptr asks.len asks.cap), (4, Value.pointer (some ⟨b_1, 0, none⟩)), (7, Value.pointer l_), (9, Value.int .i64 out), (10, Value.int .i64 all), (11, Value.int .i64 i), (12, Value.int .i64 s), (13, Value.pointer (some ⟨b_2, 0, none⟩)), (14, Value.bool ok), (74, Value.int .u8 (Int.tmod v73 4)), (90, Value.bool ((Int.tmod v73 4) == 0))] (by kernel_rfl) (by kernel_rfl) ?_
                  change WpE _ _ c_towpathlaw14_LaneStill_55 _ _ _
                  refine wpE_cond (o := (Operand.tmp 90)) (b := ((Int.tmod v73 4) == 0)) (x := c_towpathlaw14_LaneStill_56) (y := c_towpathlaw14_LaneStill_76) (by kernel_rfl) (by kernel_rfl) (fun hb => ?_) (fun hb => ?_)
                  · replace h := h.1 hb
                    refine wpE_seq (x := c_towpathlaw14_LaneStill_57) (y := c_towpathlaw14_LaneStill_59) (by kernel_rfl) ?_
                    refine wpE_region (id := 18) (ops := r_towpathlaw14_LaneStill_57) (by kernel_rfl) ?_
                    refine reg_run [.plain] 1 [(2, [], Value.slice asks.ptr asks.len asks.cap), (4, [], Value.pointer (some ⟨b_1, 0, none⟩)), (7, [], Value.pointer l_), (9, [], Value.int .i64 out), (10, [], Value.int .i64 all), (11, [], Value.int .i64 i), (12, [], Value.int .i64 s), (13, [], Value.pointer (some ⟨b_2, 0, none⟩)), (14, [], Value.bool ok), (92, [], Value.pointer l_)] (by kernel_rfl) (by kernel_rfl) ?_
                    refine reg_enter (op := (Go.Op.call (Go.Call.mk (Go.Callee.value (Go.Operand.func 30)) #[(Go.Operand.tmp 92)] #[38]))) (ty := 28) (dst := some 93) 30 #[Value.pointer l_] (by kernel_rfl) (fun ww => by kernel_rfl) (Calls.mono h ?_)
                    rintro _ w20 ⟨v93, rfl, h⟩
                    refine ⟨_, rfl, ?_⟩
                    refine reg_run [.plain] 3 [(2, [], Value.slice asks.ptr asks.len asks.cap), (4, [], Value.pointer (some ⟨b_1, 0, none⟩)), (7, [], Value.pointer l_), (9, [], Value.int .i64 out), (10, [], Value.int .i64 all), (11, [], Value.int .i64 i), (12, [], Value.int .i64 s), (13, [], Value.pointer (some ⟨b_2, 0, none⟩)), (14, [], Value.bool ok), (15, [], Value.int .i64 v93)] (by kernel_rfl) (by kernel_rfl) ?_
                    refine reg_end [(2, Value.slice asks.ptr asks.len asks.cap), (4, Value.pointer (some ⟨b_1, 0, none⟩)), (7, Value.pointer l_), (9, Value.int .i64 out), (10, Value.int .i64 all), (11, Value.int .i64 i), (12, Value.int .i64 s), (13, Value.pointer (some ⟨b_2, 0, none⟩)), (14, Value.bool ok), (15, Value.int .i64 v93)] (by kernel_rfl) (by kernel_rfl) ?_
                    change WpE _ _ c_towpathlaw14_LaneStill_59 _ _ _
                    refine wpE_seq (x := c_towpathlaw14_LaneStill_60) (y := c_towpathlaw14_LaneStill_69) (by kernel_rfl) ?_
                    refine wpE_seq (x := c_towpathlaw14_LaneStill_61) (y := c_towpathlaw14_LaneStill_63) (by kernel_rfl) ?_
                    refine wpE_region (id := 19) (ops := r_towpathlaw14_LaneStill_61) (by kernel_rfl) ?_
                    refine reg_run [.plain, .plain, .plain, .plain, .plain] 5 [(2, [], Value.slice asks.ptr asks.len asks.cap), (4, [], Value.pointer (some ⟨b_1, 0, none⟩)), (7, [], Value.pointer l_), (9, [], Value.int .i64 out), (10, [], Value.int .i64 all), (11, [], Value.int .i64 i), (12, [], Value.int .i64 s), (13, [], Value.pointer (some ⟨b_2, 0, none⟩)), (14, [], Value.bool ok), (15, [], Value.int .i64 v93), (98, [], Value.bool (!((v93 == 0) == (decide (out > 0)))))] (by kernel_rfl) (by kernel_rfl) ?_
                    refine reg_end [(2, Value.slice asks.ptr asks.len asks.cap), (4, Value.pointer (some ⟨b_1, 0, none⟩)), (7, Value.pointer l_), (9, Value.int .i64 out), (10, Value.int .i64 all), (11, Value.int .i64 i), (12, Value.int .i64 s), (13, Value.pointer (some ⟨b_2, 0, none⟩)), (14, Value.bool ok), (15, Value.int .i64 v93), (98, Value.bool (!((v93 == 0) == (decide (out > 0)))))] (by kernel_rfl) (by kernel_rfl) ?_
                    change WpE _ _ c_towpathlaw14_LaneStill_63 _ _ _
                    refine wpE_cond (o := (Operand.tmp 98)) (b := (!((v93 == 0) == (decide (out > 0))))) (x := c_towpathlaw14_LaneStill_64) (y := c_towpathlaw14_LaneStill_68) (by kernel_rfl) (by kernel_rfl) (fun hb => ?_) (fun hb => ?_)
                    · replace h := h.1 hb
                      refine wpE_seq (x := c_towpathlaw14_LaneStill_65) (y := c_towpathlaw14_LaneStill_67) (by kernel_rfl) ?_
                      refine wpE_region (id := 20) (ops := r_towpathlaw14_LaneStill_65) (by kernel_rfl) ?_
                      refine reg_run [.plain] 1 [(6, [], Value.bool false)] (by kernel_rfl) (by kernel_rfl) ?_
                      refine reg_end [(6, Value.bool false)] (by kernel_rfl) (by kernel_rfl) ?_
                      change WpE _ _ c_towpathlaw14_LaneStill_67 _ _ _
                      refine wpE_ret (by kernel_rfl) ?_
                      repeat (first | refine seqQ_ret ?_ | refine blockQ_ret ?_ | refine loopQ_ret ?_ | refine cutQ_ret ?_)
                      exact retS (rs := [(Go.ResultVar.tmp 6)]) (v := Value.bool false) (by kernel_rfl) (⟨by kernel_rfl, trivial⟩) ⟨false, rfl, h⟩
                    · replace h := h.2 hb
                      refine wpE_skip (by kernel_rfl) ?_
                      change WpE _ _ c_towpathlaw14_LaneStill_69 _ _ _
                      refine wpE_seq (x := c_towpathlaw14_LaneStill_70) (y := c_towpathlaw14_LaneStill_72) (by kernel_rfl) ?_
                      refine wpE_region (id := 21) (ops := r_towpathlaw14_LaneStill_70) (by kernel_rfl) ?_
                      refine reg_run [.plain, .plain] 2 [(2, [], Value.slice asks.ptr asks.len asks.cap), (4, [], Value.pointer (some ⟨b_1, 0, none⟩)), (7, [], Value.pointer l_), (9, [], Value.int .i64 out), (10, [], Value.int .i64 all), (11, [], Value.int .i64 i), (12, [], Value.int .i64 s), (13, [], Value.pointer (some ⟨b_2, 0, none⟩)), (14, [], Value.bool ok), (100, [], Value.bool (v93 == 0))] (by kernel_rfl) (by kernel_rfl) ?_
                      refine reg_end [(2, Value.slice asks.ptr asks.len asks.cap), (4, Value.pointer (some ⟨b_1, 0, none⟩)), (7, Value.pointer l_), (9, Value.int .i64 out), (10, Value.int .i64 all), (11, Value.int .i64 i), (12, Value.int .i64 s), (13, Value.pointer (some ⟨b_2, 0, none⟩)), (14, Value.bool ok), (100, Value.bool (v93 == 0))] (by kernel_rfl) (by kernel_rfl) ?_
                      change WpE _ _ c_towpathlaw14_LaneStill_72 _ _ _
                      refine wpE_cond (o := (Operand.tmp 100)) (b := (v93 == 0)) (x := c_towpathlaw14_LaneStill_73) (y := c_towpathlaw14_LaneStill_75) (by kernel_rfl) (by kernel_rfl) (fun hb => ?_) (fun hb => ?_)
                      · replace h := h.1 hb
                        refine wpE_region (id := 22) (ops := r_towpathlaw14_LaneStill_73) (by kernel_rfl) ?_
                        refine reg_run [.plain, .plain, .plain] 3 [(2, [], Value.slice asks.ptr asks.len asks.cap), (4, [], Value.pointer (some ⟨b_1, 0, none⟩)), (7, [], Value.pointer l_), (9, [], Value.int .i64 (IntKind.i64.wrap (out - 1))), (10, [], Value.int .i64 all), (11, [], Value.int .i64 i), (12, [], Value.int .i64 s), (13, [], Value.pointer (some ⟨b_2, 0, none⟩)), (14, [], Value.bool ok)] (by kernel_rfl) (by kernel_rfl) ?_
                        refine reg_end [(2, Value.slice asks.ptr asks.len asks.cap), (4, Value.pointer (some ⟨b_1, 0, none⟩)), (7, Value.pointer l_), (9, Value.int .i64 (IntKind.i64.wrap (out - 1))), (10, Value.int .i64 all), (11, Value.int .i64 i), (12, Value.int .i64 s), (13, Value.pointer (some ⟨b_2, 0, none⟩)), (14, Value.bool ok)] (by kernel_rfl) (by kernel_rfl) ?_
                        exact ⟨[(2, Value.slice asks.ptr asks.len asks.cap), (4, Value.pointer (some ⟨b_1, 0, none⟩)), (7, Value.pointer l_), (9, Value.int .i64 (IntKind.i64.wrap (out - 1))), (10, Value.int .i64 all), (11, Value.int .i64 i), (12, Value.int .i64 s), (13, Value.pointer (some ⟨b_2, 0, none⟩)), (14, Value.bool ok)], Sub.mk (by kernel_rfl), (IntKind.i64.wrap (out - 1)), rfl, h⟩
                      · replace h := h.2 hb
                        refine wpE_skip (by kernel_rfl) ?_
                        exact ⟨[(2, Value.slice asks.ptr asks.len asks.cap), (4, Value.pointer (some ⟨b_1, 0, none⟩)), (7, Value.pointer l_), (9, Value.int .i64 out), (10, Value.int .i64 all), (11, Value.int .i64 i), (12, Value.int .i64 s), (13, Value.pointer (some ⟨b_2, 0, none⟩)), (14, Value.bool ok)], Sub.mk (by kernel_rfl), out, rfl, h⟩
                  · replace h := h.2 hb
                    refine wpE_seq (x := c_towpathlaw14_LaneStill_77) (y := c_towpathlaw14_LaneStill_79) (by kernel_rfl) ?_
                    refine wpE_region (id := 23) (ops := r_towpathlaw14_LaneStill_77) (by kernel_rfl) ?_
                    refine reg_run [.plain, .plain] 2 [(2, [], Value.slice asks.ptr asks.len asks.cap), (4, [], Value.pointer (some ⟨b_1, 0, none⟩)), (7, [], Value.pointer l_), (9, [], Value.int .i64 out), (10, [], Value.int .i64 all), (11, [], Value.int .i64 i), (12, [], Value.int .i64 s), (13, [], Value.pointer (some ⟨b_2, 0, none⟩)), (14, [], Value.bool ok), (74, [], Value.int .u8 (Int.tmod v73 4)), (103, [], Value.bool ((Int.tmod v73 4) == 1))] (by kernel_rfl) (by kernel_rfl) ?_
                    refine reg_end [(2, Value.slice asks.ptr asks.len asks.cap), (4, Value.pointer (some ⟨b_1, 0, none⟩)), (7, Value.pointer l_), (9, Value.int .i64 out), (10, Value.int .i64 all), (11, Value.int .i64 i), (12, Value.int .i64 s), (13, Value.pointer (some ⟨b_2, 0, none⟩)), (14, Value.bool ok), (74, Value.int .u8 (Int.tmod v73 4)), (103, Value.bool ((Int.tmod v73 4) == 1))] (by kernel_rfl) (by kernel_rfl) ?_
                    change WpE _ _ c_towpathlaw14_LaneStill_79 _ _ _
                    refine wpE_cond (o := (Operand.tmp 103)) (b := ((Int.tmod v73 4) == 1)) (x := c_towpathlaw14_LaneStill_80) (y := c_towpathlaw14_LaneStill_89) (by kernel_rfl) (by kernel_rfl) (fun hb => ?_) (fun hb => ?_)
                    · replace h := h.1 hb
                      refine wpE_seq (x := c_towpathlaw14_LaneStill_81) (y := c_towpathlaw14_LaneStill_83) (by kernel_rfl) ?_
                      refine wpE_region (id := 24) (ops := r_towpathlaw14_LaneStill_81) (by kernel_rfl) ?_
                      refine reg_run [.plain] 1 [(2, [], Value.slice asks.ptr asks.len asks.cap), (4, [], Value.pointer (some ⟨b_1, 0, none⟩)), (7, [], Value.pointer l_), (9, [], Value.int .i64 out), (10, [], Value.int .i64 all), (11, [], Value.int .i64 i), (12, [], Value.int .i64 s), (13, [], Value.pointer (some ⟨b_2, 0, none⟩)), (14, [], Value.bool ok), (105, [], Value.pointer l_)] (by kernel_rfl) (by kernel_rfl) ?_
                      obtain ⟨v106, hc, h⟩ := h
                      refine reg_loadN (t := 27) (a := (Go.Operand.tmp 4)) (b := b_1) (o := 0) (ty := 27) (dst := some 106) [Value.int .i64 v106.Number, Value.slice v106.Writes.ptr v106.Writes.len v106.Writes.cap] (by kernel_rfl) (by kernel_rfl) (by kernel_rfl) (k := 2) (by kernel_rfl) (by kernel_rfl) hc ?_
                      refine reg_run [] 2 [(2, [], Value.slice asks.ptr asks.len asks.cap), (4, [], Value.pointer (some ⟨b_1, 0, none⟩)), (7, [], Value.pointer l_), (9, [], Value.int .i64 out), (10, [], Value.int .i64 all), (11, [], Value.int .i64 i), (12, [], Value.int .i64 s), (13, [], Value.pointer (some ⟨b_2, 0, none⟩)), (14, [], Value.bool ok), (105, [], Value.pointer l_), (106, [], Value.agg #[Value.int .i64 v106.Number, Value.slice v106.Writes.ptr v106.Writes.len v106.Writes.cap])] (by kernel_rfl) (by kernel_rfl) ?_
                      refine reg_enter (op := (Go.Op.call (Go.Call.mk (Go.Callee.value (Go.Operand.func 23)) #[(Go.Operand.tmp 105), (Go.Operand.tmp 106)] #[38, 27]))) (ty := 28) (dst := some 107) 23 #[Value.pointer l_, Value.agg #[Value.int .i64 v106.Number, Value.slice v106.Writes.ptr v106.Writes.len v106.Writes.cap]] (by kernel_rfl) (fun ww => by kernel_rfl) (Calls.mono h ?_)
                      rintro _ w21 ⟨v107, rfl, h⟩
                      refine ⟨_, rfl, ?_⟩
                      refine reg_run [.plain] 4 [(2, [], Value.slice asks.ptr asks.len asks.cap), (4, [], Value.pointer (some ⟨b_1, 0, none⟩)), (7, [], Value.pointer l_), (9, [], Value.int .i64 out), (10, [], Value.int .i64 all), (11, [], Value.int .i64 i), (12, [], Value.int .i64 s), (13, [], Value.pointer (some ⟨b_2, 0, none⟩)), (14, [], Value.bool ok), (108, [], Value.bool (v107 != 10))] (by kernel_rfl) (by kernel_rfl) ?_
                      refine reg_end [(2, Value.slice asks.ptr asks.len asks.cap), (4, Value.pointer (some ⟨b_1, 0, none⟩)), (7, Value.pointer l_), (9, Value.int .i64 out), (10, Value.int .i64 all), (11, Value.int .i64 i), (12, Value.int .i64 s), (13, Value.pointer (some ⟨b_2, 0, none⟩)), (14, Value.bool ok), (108, Value.bool (v107 != 10))] (by kernel_rfl) (by kernel_rfl) ?_
                      change WpE _ _ c_towpathlaw14_LaneStill_83 _ _ _
                      refine wpE_cond (o := (Operand.tmp 108)) (b := (v107 != 10)) (x := c_towpathlaw14_LaneStill_84) (y := c_towpathlaw14_LaneStill_88) (by kernel_rfl) (by kernel_rfl) (fun hb => ?_) (fun hb => ?_)
                      · replace h := h.1 hb
                        refine wpE_seq (x := c_towpathlaw14_LaneStill_85) (y := c_towpathlaw14_LaneStill_87) (by kernel_rfl) ?_
                        refine wpE_region (id := 25) (ops := r_towpathlaw14_LaneStill_85) (by kernel_rfl) ?_
                        refine reg_run [.plain] 1 [(6, [], Value.bool false)] (by kernel_rfl) (by kernel_rfl) ?_
                        refine reg_end [(6, Value.bool false)] (by kernel_rfl) (by kernel_rfl) ?_
                        change WpE _ _ c_towpathlaw14_LaneStill_87 _ _ _
                        refine wpE_ret (by kernel_rfl) ?_
                        repeat (first | refine seqQ_ret ?_ | refine blockQ_ret ?_ | refine loopQ_ret ?_ | refine cutQ_ret ?_)
                        exact retS (rs := [(Go.ResultVar.tmp 6)]) (v := Value.bool false) (by kernel_rfl) (⟨by kernel_rfl, trivial⟩) ⟨false, rfl, h⟩
                      · replace h := h.2 hb
                        refine wpE_skip (by kernel_rfl) ?_
                        exact ⟨[(2, Value.slice asks.ptr asks.len asks.cap), (4, Value.pointer (some ⟨b_1, 0, none⟩)), (7, Value.pointer l_), (9, Value.int .i64 out), (10, Value.int .i64 all), (11, Value.int .i64 i), (12, Value.int .i64 s), (13, Value.pointer (some ⟨b_2, 0, none⟩)), (14, Value.bool ok)], Sub.mk (by kernel_rfl), out, rfl, h⟩
                    · replace h := h.2 hb
                      refine wpE_seq (x := c_towpathlaw14_LaneStill_90) (y := c_towpathlaw14_LaneStill_92) (by kernel_rfl) ?_
                      refine wpE_region (id := 26) (ops := r_towpathlaw14_LaneStill_90) (by kernel_rfl) ?_
                      refine reg_run [.plain, .plain] 2 [(2, [], Value.slice asks.ptr asks.len asks.cap), (4, [], Value.pointer (some ⟨b_1, 0, none⟩)), (7, [], Value.pointer l_), (9, [], Value.int .i64 out), (10, [], Value.int .i64 all), (11, [], Value.int .i64 i), (12, [], Value.int .i64 s), (13, [], Value.pointer (some ⟨b_2, 0, none⟩)), (14, [], Value.bool ok), (109, [], Value.bool ((Int.tmod v73 4) == 2))] (by kernel_rfl) (by kernel_rfl) ?_
                      refine reg_end [(2, Value.slice asks.ptr asks.len asks.cap), (4, Value.pointer (some ⟨b_1, 0, none⟩)), (7, Value.pointer l_), (9, Value.int .i64 out), (10, Value.int .i64 all), (11, Value.int .i64 i), (12, Value.int .i64 s), (13, Value.pointer (some ⟨b_2, 0, none⟩)), (14, Value.bool ok), (109, Value.bool ((Int.tmod v73 4) == 2))] (by kernel_rfl) (by kernel_rfl) ?_
                      change WpE _ _ c_towpathlaw14_LaneStill_92 _ _ _
                      refine wpE_cond (o := (Operand.tmp 109)) (b := ((Int.tmod v73 4) == 2)) (x := c_towpathlaw14_LaneStill_93) (y := c_towpathlaw14_LaneStill_118) (by kernel_rfl) (by kernel_rfl) (fun hb => ?_) (fun hb => ?_)
                      · replace h := h.1 hb
                        refine wpE_seq (x := c_towpathlaw14_LaneStill_94) (y := c_towpathlaw14_LaneStill_96) (by kernel_rfl) ?_
                        refine wpE_region (id := 27) (ops := r_towpathlaw14_LaneStill_94) (by kernel_rfl) ?_
                        refine reg_run [.plain] 1 [(2, [], Value.slice asks.ptr asks.len asks.cap), (4, [], Value.pointer (some ⟨b_1, 0, none⟩)), (7, [], Value.pointer l_), (9, [], Value.int .i64 out), (10, [], Value.int .i64 all), (11, [], Value.int .i64 i), (14, [], Value.bool ok), (111, [], Value.pointer l_)] (by kernel_rfl) (by kernel_rfl) ?_
                        refine reg_enter (op := (Go.Op.call (Go.Call.mk (Go.Callee.value (Go.Operand.func 29)) #[(Go.Operand.tmp 111)] #[38]))) (ty := 28) (dst := some 112) 29 #[Value.pointer l_] (by kernel_rfl) (fun ww => by kernel_rfl) (Calls.mono h ?_)
                        rintro _ w22 ⟨v112, rfl, h⟩
                        refine ⟨_, rfl, ?_⟩
                        refine reg_run [.plain] 3 [(2, [], Value.slice asks.ptr asks.len asks.cap), (4, [], Value.pointer (some ⟨b_1, 0, none⟩)), (7, [], Value.pointer l_), (9, [], Value.int .i64 out), (10, [], Value.int .i64 all), (11, [], Value.int .i64 i), (14, [], Value.bool ok), (16, [], Value.int .i64 v112)] (by kernel_rfl) (by kernel_rfl) ?_
                        refine reg_end [(2, Value.slice asks.ptr asks.len asks.cap), (4, Value.pointer (some ⟨b_1, 0, none⟩)), (7, Value.pointer l_), (9, Value.int .i64 out), (10, Value.int .i64 all), (11, Value.int .i64 i), (14, Value.bool ok), (16, Value.int .i64 v112)] (by kernel_rfl) (by kernel_rfl) ?_
                        change WpE _ _ c_towpathlaw14_LaneStill_96 _ _ _
                        refine wpE_seq (x := c_towpathlaw14_LaneStill_97) (y := c_towpathlaw14_LaneStill_106) (by kernel_rfl) ?_
                        refine wpE_seq (x := c_towpathlaw14_LaneStill_98) (y := c_towpathlaw14_LaneStill_100) (by kernel_rfl) ?_
                        refine wpE_region (id := 28) (ops := r_towpathlaw14_LaneStill_98) (by kernel_rfl) ?_
                        refine reg_run [.plain, .plain, .plain, .plain] 4 [(2, [], Value.slice asks.ptr asks.len asks.cap), (4, [], Value.pointer (some ⟨b_1, 0, none⟩)), (7, [], Value.pointer l_), (9, [], Value.int .i64 out), (10, [], Value.int .i64 all), (11, [], Value.int .i64 i), (16, [], Value.int .i64 v112), (116, [], Value.bool (!((v112 == 0) == ok)))] (by kernel_rfl) (by kernel_rfl) ?_
                        refine reg_end [(2, Value.slice asks.ptr asks.len asks.cap), (4, Value.pointer (some ⟨b_1, 0, none⟩)), (7, Value.pointer l_), (9, Value.int .i64 out), (10, Value.int .i64 all), (11, Value.int .i64 i), (16, Value.int .i64 v112), (116, Value.bool (!((v112 == 0) == ok)))] (by kernel_rfl) (by kernel_rfl) ?_
                        change WpE _ _ c_towpathlaw14_LaneStill_100 _ _ _
                        refine wpE_cond (o := (Operand.tmp 116)) (b := (!((v112 == 0) == ok))) (x := c_towpathlaw14_LaneStill_101) (y := c_towpathlaw14_LaneStill_105) (by kernel_rfl) (by kernel_rfl) (fun hb => ?_) (fun hb => ?_)
                        · replace h := h.1 hb
                          refine wpE_seq (x := c_towpathlaw14_LaneStill_102) (y := c_towpathlaw14_LaneStill_104) (by kernel_rfl) ?_
                          refine wpE_region (id := 29) (ops := r_towpathlaw14_LaneStill_102) (by kernel_rfl) ?_
                          refine reg_run [.plain] 1 [(6, [], Value.bool false)] (by kernel_rfl) (by kernel_rfl) ?_
                          refine reg_end [(6, Value.bool false)] (by kernel_rfl) (by kernel_rfl) ?_
                          change WpE _ _ c_towpathlaw14_LaneStill_104 _ _ _
                          refine wpE_ret (by kernel_rfl) ?_
                          repeat (first | refine seqQ_ret ?_ | refine blockQ_ret ?_ | refine loopQ_ret ?_ | refine cutQ_ret ?_)
                          exact retS (rs := [(Go.ResultVar.tmp 6)]) (v := Value.bool false) (by kernel_rfl) (⟨by kernel_rfl, trivial⟩) ⟨false, rfl, h⟩
                        · replace h := h.2 hb
                          refine wpE_skip (by kernel_rfl) ?_
                          change WpE _ _ c_towpathlaw14_LaneStill_106 _ _ _
                          refine wpE_seq_cut (x := c_towpathlaw14_LaneStill_107) (y := c_towpathlaw14_LaneStill_117) (by kernel_rfl) (fun l w => ∃ (out3 : Int) (all2 : Int), l = [(2, Value.slice asks.ptr asks.len asks.cap), (4, Value.pointer (some ⟨b_1, 0, none⟩)), (7, Value.pointer l_), (9, Value.int .i64 out3), (10, Value.int .i64 all2), (11, Value.int .i64 i)] ∧ F_towpathlaw14_LaneStill_k6 i again_ out3 all2 w) ?_ ?_
                          · refine wpE_seq (x := c_towpathlaw14_LaneStill_108) (y := c_towpathlaw14_LaneStill_110) (by kernel_rfl) ?_
                            refine wpE_region (id := 30) (ops := r_towpathlaw14_LaneStill_108) (by kernel_rfl) ?_
                            refine reg_run [.plain, .plain] 2 [(2, [], Value.slice asks.ptr asks.len asks.cap), (4, [], Value.pointer (some ⟨b_1, 0, none⟩)), (7, [], Value.pointer l_), (9, [], Value.int .i64 out), (10, [], Value.int .i64 all), (11, [], Value.int .i64 i), (118, [], Value.bool (v112 == 0))] (by kernel_rfl) (by kernel_rfl) ?_
                            refine reg_end [(2, Value.slice asks.ptr asks.len asks.cap), (4, Value.pointer (some ⟨b_1, 0, none⟩)), (7, Value.pointer l_), (9, Value.int .i64 out), (10, Value.int .i64 all), (11, Value.int .i64 i), (118, Value.bool (v112 == 0))] (by kernel_rfl) (by kernel_rfl) ?_
                            change WpE _ _ c_towpathlaw14_LaneStill_110 _ _ _
                            refine wpE_cond (o := (Operand.tmp 118)) (b := (v112 == 0)) (x := c_towpathlaw14_LaneStill_111) (y := c_towpathlaw14_LaneStill_116) (by kernel_rfl) (by kernel_rfl) (fun hb => ?_) (fun hb => ?_)
                            · replace h := h.1 hb
                              refine wpE_seq (x := c_towpathlaw14_LaneStill_112) (y := c_towpathlaw14_LaneStill_114) (by kernel_rfl) ?_
                              refine wpE_region (id := 31) (ops := r_towpathlaw14_LaneStill_112) (by kernel_rfl) ?_
                              refine reg_run [.plain, .plain, .plain] 3 [(2, [], Value.slice asks.ptr asks.len asks.cap), (4, [], Value.pointer (some ⟨b_1, 0, none⟩)), (7, [], Value.pointer l_), (9, [], Value.int .i64 (IntKind.i64.wrap (out + 1))), (10, [], Value.int .i64 all), (11, [], Value.int .i64 i)] (by kernel_rfl) (by kernel_rfl) ?_
                              refine reg_end [(2, Value.slice asks.ptr asks.len asks.cap), (4, Value.pointer (some ⟨b_1, 0, none⟩)), (7, Value.pointer l_), (9, Value.int .i64 (IntKind.i64.wrap (out + 1))), (10, Value.int .i64 all), (11, Value.int .i64 i)] (by kernel_rfl) (by kernel_rfl) ?_
                              change WpE _ _ c_towpathlaw14_LaneStill_114 _ _ _
                              refine wpE_region (id := 32) (ops := r_towpathlaw14_LaneStill_114) (by kernel_rfl) ?_
                              refine reg_run [.plain, .plain, .plain] 3 [(2, [], Value.slice asks.ptr asks.len asks.cap), (4, [], Value.pointer (some ⟨b_1, 0, none⟩)), (7, [], Value.pointer l_), (9, [], Value.int .i64 (IntKind.i64.wrap (out + 1))), (10, [], Value.int .i64 (IntKind.i64.wrap (all + 1))), (11, [], Value.int .i64 i)] (by kernel_rfl) (by kernel_rfl) ?_
                              refine reg_end [(2, Value.slice asks.ptr asks.len asks.cap), (4, Value.pointer (some ⟨b_1, 0, none⟩)), (7, Value.pointer l_), (9, Value.int .i64 (IntKind.i64.wrap (out + 1))), (10, Value.int .i64 (IntKind.i64.wrap (all + 1))), (11, Value.int .i64 i)] (by kernel_rfl) (by kernel_rfl) ?_
                              exact ⟨[(2, Value.slice asks.ptr asks.len asks.cap), (4, Value.pointer (some ⟨b_1, 0, none⟩)), (7, Value.pointer l_), (9, Value.int .i64 (IntKind.i64.wrap (out + 1))), (10, Value.int .i64 (IntKind.i64.wrap (all + 1))), (11, Value.int .i64 i)], Sub.mk (by kernel_rfl), (IntKind.i64.wrap (out + 1)), (IntKind.i64.wrap (all + 1)), rfl, h⟩
                            · replace h := h.2 hb
                              refine wpE_skip (by kernel_rfl) ?_
                              exact ⟨[(2, Value.slice asks.ptr asks.len asks.cap), (4, Value.pointer (some ⟨b_1, 0, none⟩)), (7, Value.pointer l_), (9, Value.int .i64 out), (10, Value.int .i64 all), (11, Value.int .i64 i)], Sub.mk (by kernel_rfl), out, all, rfl, h⟩
                          · rintro _ w23 ⟨out3, all2, rfl, h⟩
                            unfold F_towpathlaw14_LaneStill_k6 at h
                            refine wpE_exit (id := 1) (by kernel_rfl) ?_
                            exact ⟨[(2, Value.slice asks.ptr asks.len asks.cap), (4, Value.pointer (some ⟨b_1, 0, none⟩)), (7, Value.pointer l_), (9, Value.int .i64 out3), (10, Value.int .i64 all2), (11, Value.int .i64 i)], Sub.mk (by kernel_rfl), out3, all2, rfl, h⟩
                      · replace h := h.2 hb
                        refine wpE_seq (x := c_towpathlaw14_LaneStill_119) (y := c_towpathlaw14_LaneStill_128) (by kernel_rfl) ?_
                        refine wpE_seq (x := c_towpathlaw14_LaneStill_120) (y := c_towpathlaw14_LaneStill_122) (by kernel_rfl) ?_
                        refine wpE_region (id := 12) (ops := r_towpathlaw14_LaneStill_120) (by kernel_rfl) ?_
                        refine reg_run [.plain] 1 [(2, [], Value.slice asks.ptr asks.len asks.cap), (4, [], Value.pointer (some ⟨b_1, 0, none⟩)), (7, [], Value.pointer l_), (9, [], Value.int .i64 out), (10, [], Value.int .i64 all), (11, [], Value.int .i64 i), (12, [], Value.int .i64 s), (13, [], Value.pointer (some ⟨b_2, 0, none⟩)), (14, [], Value.bool ok), (75, [], Value.pointer l_)] (by kernel_rfl) (by kernel_rfl) ?_
                        refine reg_enter (op := (Go.Op.call (Go.Call.mk (Go.Callee.value (Go.Operand.func 28)) #[(Go.Operand.tmp 75)] #[38]))) (ty := 4) (dst := some 76) 28 #[Value.pointer l_] (by kernel_rfl) (fun ww => by kernel_rfl) (Calls.mono h ?_)
                        rintro _ w24 ⟨v76, rfl, h⟩
                        refine ⟨_, rfl, ?_⟩
                        refine reg_end [(2, Value.slice asks.ptr asks.len asks.cap), (4, Value.pointer (some ⟨b_1, 0, none⟩)), (7, Value.pointer l_), (9, Value.int .i64 out), (10, Value.int .i64 all), (11, Value.int .i64 i), (12, Value.int .i64 s), (13, Value.pointer (some ⟨b_2, 0, none⟩)), (14, Value.bool ok), (76, Value.bool v76)] (by kernel_rfl) (by kernel_rfl) ?_
                        change WpE _ _ c_towpathlaw14_LaneStill_122 _ _ _
                        refine wpE_cond (o := (Operand.tmp 76)) (b := v76) (x := c_towpathlaw14_LaneStill_123) (y := c_towpathlaw14_LaneStill_127) (by kernel_rfl) (by kernel_rfl) (fun hb => ?_) (fun hb => ?_)
                        · replace h := h.1 hb
                          refine wpE_seq (x := c_towpathlaw14_LaneStill_124) (y := c_towpathlaw14_LaneStill_126) (by kernel_rfl) ?_
                          refine wpE_region (id := 13) (ops := r_towpathlaw14_LaneStill_124) (by kernel_rfl) ?_
                          refine reg_run [.plain, .plain, .plain, .plain, .plain, .pick, .plain] 7 [(6, [], Value.bool ((!ok) && (out == 0)))] (by kernel_rfl) (by kernel_rfl) ?_
                          refine reg_end [(6, Value.bool ((!ok) && (out == 0)))] (by kernel_rfl) (by kernel_rfl) ?_
                          change WpE _ _ c_towpathlaw14_LaneStill_126 _ _ _
                          refine wpE_ret (by kernel_rfl) ?_
                          repeat (first | refine seqQ_ret ?_ | refine blockQ_ret ?_ | refine loopQ_ret ?_ | refine cutQ_ret ?_)
                          exact retS (rs := [(Go.ResultVar.tmp 6)]) (v := Value.bool ((!ok) && (out == 0))) (by kernel_rfl) (⟨by kernel_rfl, trivial⟩) ⟨((!ok) && (out == 0)), rfl, h⟩
                        · replace h := h.2 hb
                          refine wpE_skip (by kernel_rfl) ?_
                          change WpE _ _ c_towpathlaw14_LaneStill_128 _ _ _
                          refine wpE_seq (x := c_towpathlaw14_LaneStill_129) (y := c_towpathlaw14_LaneStill_131) (by kernel_rfl) ?_
                          refine wpE_region (id := 14) (ops := r_towpathlaw14_LaneStill_129) (by kernel_rfl) ?_
                          refine reg_run [.plain] 1 [(2, [], Value.slice asks.ptr asks.len asks.cap), (4, [], Value.pointer (some ⟨b_1, 0, none⟩)), (7, [], Value.pointer l_), (9, [], Value.int .i64 out), (10, [], Value.int .i64 all), (11, [], Value.int .i64 i), (12, [], Value.int .i64 s), (13, [], Value.pointer (some ⟨b_2, 0, none⟩)), (14, [], Value.bool ok), (84, [], Value.pointer l_)] (by kernel_rfl) (by kernel_rfl) ?_
                          refine reg_enter (op := (Go.Op.call (Go.Call.mk (Go.Callee.value (Go.Operand.func 31)) #[(Go.Operand.tmp 84)] #[38]))) (ty := 68) (dst := some 85) 31 #[Value.pointer l_] (by kernel_rfl) (fun ww => by kernel_rfl) (Calls.mono h ?_)
                          rintro _ w25 ⟨v85, f, rfl, h⟩
                          refine ⟨_, rfl, ?_⟩
                          refine reg_run [.plain, .plain, .plain, .plain, .plain] 7 [(2, [], Value.slice asks.ptr asks.len asks.cap), (4, [], Value.pointer (some ⟨b_1, 0, none⟩)), (7, [], Value.pointer l_), (9, [], Value.int .i64 out), (10, [], Value.int .i64 all), (11, [], Value.int .i64 i), (12, [], Value.int .i64 s), (13, [], Value.pointer (some ⟨b_2, 0, none⟩)), (14, [], Value.bool ok), (18, [], Value.int .i64 f)] (by kernel_rfl) (by kernel_rfl) ?_
                          refine reg_end [(2, Value.slice asks.ptr asks.len asks.cap), (4, Value.pointer (some ⟨b_1, 0, none⟩)), (7, Value.pointer l_), (9, Value.int .i64 out), (10, Value.int .i64 all), (11, Value.int .i64 i), (12, Value.int .i64 s), (13, Value.pointer (some ⟨b_2, 0, none⟩)), (14, Value.bool ok), (18, Value.int .i64 f)] (by kernel_rfl) (by kernel_rfl) ?_
                          change WpE _ _ c_towpathlaw14_LaneStill_131 _ _ _
                          refine wpE_seq (x := c_towpathlaw14_LaneStill_132) (y := c_towpathlaw14_LaneStill_134) (by kernel_rfl) ?_
                          refine wpE_region (id := 15) (ops := r_towpathlaw14_LaneStill_132) (by kernel_rfl) ?_
                          refine reg_run [.plain, .plain] 2 [(2, [], Value.slice asks.ptr asks.len asks.cap), (4, [], Value.pointer (some ⟨b_1, 0, none⟩)), (7, [], Value.pointer l_), (9, [], Value.int .i64 out), (10, [], Value.int .i64 all), (11, [], Value.int .i64 i), (12, [], Value.int .i64 s), (13, [], Value.pointer (some ⟨b_2, 0, none⟩)), (14, [], Value.bool ok), (89, [], Value.bool (f != 10))] (by kernel_rfl) (by kernel_rfl) ?_
                          refine reg_end [(2, Value.slice asks.ptr asks.len asks.cap), (4, Value.pointer (some ⟨b_1, 0, none⟩)), (7, Value.pointer l_), (9, Value.int .i64 out), (10, Value.int .i64 all), (11, Value.int .i64 i), (12, Value.int .i64 s), (13, Value.pointer (some ⟨b_2, 0, none⟩)), (14, Value.bool ok), (89, Value.bool (f != 10))] (by kernel_rfl) (by kernel_rfl) ?_
                          change WpE _ _ c_towpathlaw14_LaneStill_134 _ _ _
                          refine wpE_cond (o := (Operand.tmp 89)) (b := (f != 10)) (x := c_towpathlaw14_LaneStill_135) (y := c_towpathlaw14_LaneStill_139) (by kernel_rfl) (by kernel_rfl) (fun hb => ?_) (fun hb => ?_)
                          · replace h := h.1 hb
                            refine wpE_seq (x := c_towpathlaw14_LaneStill_136) (y := c_towpathlaw14_LaneStill_138) (by kernel_rfl) ?_
                            refine wpE_region (id := 16) (ops := r_towpathlaw14_LaneStill_136) (by kernel_rfl) ?_
                            refine reg_run [.plain] 1 [(6, [], Value.bool false)] (by kernel_rfl) (by kernel_rfl) ?_
                            refine reg_end [(6, Value.bool false)] (by kernel_rfl) (by kernel_rfl) ?_
                            change WpE _ _ c_towpathlaw14_LaneStill_138 _ _ _
                            refine wpE_ret (by kernel_rfl) ?_
                            repeat (first | refine seqQ_ret ?_ | refine blockQ_ret ?_ | refine loopQ_ret ?_ | refine cutQ_ret ?_)
                            exact retS (rs := [(Go.ResultVar.tmp 6)]) (v := Value.bool false) (by kernel_rfl) (⟨by kernel_rfl, trivial⟩) ⟨false, rfl, h⟩
                          · replace h := h.2 hb
                            refine wpE_skip (by kernel_rfl) ?_
                            exact ⟨[(2, Value.slice asks.ptr asks.len asks.cap), (4, Value.pointer (some ⟨b_1, 0, none⟩)), (7, Value.pointer l_), (9, Value.int .i64 out), (10, Value.int .i64 all), (11, Value.int .i64 i), (12, Value.int .i64 s), (13, Value.pointer (some ⟨b_2, 0, none⟩)), (14, Value.bool ok)], Sub.mk (by kernel_rfl), out, rfl, h⟩
                · rintro _ w12 ⟨out2, rfl, h⟩
                  unfold F_towpathlaw14_LaneStill_k4 at h
                  refine wpE_seq (x := c_towpathlaw14_LaneStill_141) (y := c_towpathlaw14_LaneStill_143) (by kernel_rfl) ?_
                  refine wpE_region (id := 33) (ops := r_towpathlaw14_LaneStill_141) (by kernel_rfl) ?_
                  refine reg_run [.plain] 1 [(2, [], Value.slice asks.ptr asks.len asks.cap), (4, [], Value.pointer (some ⟨b_1, 0, none⟩)), (7, [], Value.pointer l_), (9, [], Value.int .i64 out2), (10, [], Value.int .i64 all), (11, [], Value.int .i64 i), (12, [], Value.int .i64 s), (13, [], Value.pointer (some ⟨b_2, 0, none⟩)), (14, [], Value.bool ok), (124, [], Value.pointer l_)] (by kernel_rfl) (by kernel_rfl) ?_
                  refine reg_enter (op := (Go.Op.call (Go.Call.mk (Go.Callee.value (Go.Operand.func 26)) #[(Go.Operand.tmp 124)] #[38]))) (ty := 66) (dst := some 125) 26 #[Value.pointer l_] (by kernel_rfl) (fun ww => by kernel_rfl) (Calls.mono h ?_)
                  rintro _ w13 ⟨n_, v125_1, is, rfl, h⟩
                  refine ⟨_, rfl, ?_⟩
                  refine reg_run [.plain, .plain, .plain, .plain] 6 [(2, [], Value.slice asks.ptr asks.len asks.cap), (4, [], Value.pointer (some ⟨b_1, 0, none⟩)), (7, [], Value.pointer l_), (9, [], Value.int .i64 out2), (10, [], Value.int .i64 all), (11, [], Value.int .i64 i), (12, [], Value.int .i64 s), (13, [], Value.pointer (some ⟨b_2, 0, none⟩)), (14, [], Value.bool ok), (126, [], Value.int .i64 n_), (127, [], Value.agg #[Value.int .u8 v125_1.Kind, Value.int .i64 v125_1.From, Value.int .i64 v125_1.Number, Value.string v125_1.Write.Key, Value.string v125_1.Write.Val, Value.bool v125_1.Write.Drop, Value.string v125_1.Key, Value.string v125_1.End, Value.slice v125_1.Beyond.ptr v125_1.Beyond.len v125_1.Beyond.cap]), (128, [], Value.bool is)] (by kernel_rfl) (by kernel_rfl) ?_
                  refine reg_new (op := (Go.Op.alloc 65)) (ty := 0) (dst := some 20) (fun bb => Value.pointer (some ⟨bb, 0, none⟩)) (Obj.cells ([Value.int .u8 0, Value.int .i64 0, Value.int .i64 0, Value.string ByteArray.empty, Value.string ByteArray.empty, Value.bool false, Value.string ByteArray.empty, Value.string ByteArray.empty, Value.slice none 0 0]).toArray ty_api_Req (0, 0)) (by kernel_rfl) (by kernel_rfl) (fun b_3 w14 hb hw => ?_)
                  replace h := h b_3 w14 hb hw
                  clear hb hw
                  refine reg_run [.plain] 8 [(2, [], Value.slice asks.ptr asks.len asks.cap), (4, [], Value.pointer (some ⟨b_1, 0, none⟩)), (7, [], Value.pointer l_), (9, [], Value.int .i64 out2), (10, [], Value.int .i64 all), (11, [], Value.int .i64 i), (12, [], Value.int .i64 s), (13, [], Value.pointer (some ⟨b_2, 0, none⟩)), (14, [], Value.bool ok), (19, [], Value.int .i64 n_), (20, [], Value.pointer (some ⟨b_3, 0, none⟩)), (127, [], Value.agg #[Value.int .u8 v125_1.Kind, Value.int .i64 v125_1.From, Value.int .i64 v125_1.Number, Value.string v125_1.Write.Key, Value.string v125_1.Write.Val, Value.bool v125_1.Write.Drop, Value.string v125_1.Key, Value.string v125_1.End, Value.slice v125_1.Beyond.ptr v125_1.Beyond.len v125_1.Beyond.cap]), (128, [], Value.bool is)] (by kernel_rfl) (by kernel_rfl) ?_
                  obtain ⟨hc, h⟩ := h
                  refine reg_store (t := 65) (a := (Go.Operand.tmp 20)) (x := (Go.Operand.tmp 127)) (b := b_3) (o := 0) (ty := 0) (dst := none) [Value.int .u8 v125_1.Kind, Value.int .i64 v125_1.From, Value.int .i64 v125_1.Number, Value.string v125_1.Write.Key, Value.string v125_1.Write.Val, Value.bool v125_1.Write.Drop, Value.string v125_1.Key, Value.string v125_1.End, Value.slice v125_1.Beyond.ptr v125_1.Beyond.len v125_1.Beyond.cap] (by kernel_rfl) (by kernel_rfl) (by kernel_rfl) (k := 9) (by kernel_rfl) (by kernel_rfl) (by kernel_rfl) hc (fun w15 hw => ?_)
                  replace h := h w15 hw
                  clear hw
                  refine reg_run [.plain] 10 [(2, [], Value.slice asks.ptr asks.len asks.cap), (4, [], Value.pointer (some ⟨b_1, 0, none⟩)), (7, [], Value.pointer l_), (9, [], Value.int .i64 out2), (10, [], Value.int .i64 all), (11, [], Value.int .i64 i), (12, [], Value.int .i64 s), (13, [], Value.pointer (some ⟨b_2, 0, none⟩)), (14, [], Value.bool ok), (19, [], Value.int .i64 n_), (20, [], Value.pointer (some ⟨b_3, 0, none⟩)), (21, [], Value.bool is)] (by kernel_rfl) (by kernel_rfl) ?_
                  refine reg_end [(2, Value.slice asks.ptr asks.len asks.cap), (4, Value.pointer (some ⟨b_1, 0, none⟩)), (7, Value.pointer l_), (9, Value.int .i64 out2), (10, Value.int .i64 all), (11, Value.int .i64 i), (12, Value.int .i64 s), (13, Value.pointer (some ⟨b_2, 0, none⟩)), (14, Value.bool ok), (19, Value.int .i64 n_), (20, Value.pointer (some ⟨b_3, 0, none⟩)), (21, Value.bool is)] (by kernel_rfl) (by kernel_rfl) ?_
                  change WpE _ _ c_towpathlaw14_LaneStill_143 _ _ _
                  refine wpE_seq_cut (x := c_towpathlaw14_LaneStill_144) (y := c_towpathlaw14_LaneStill_146) (by kernel_rfl) (fun l w => ∃ (t149 : Bool), l = [(2, Value.slice asks.ptr asks.len asks.cap), (4, Value.pointer (some ⟨b_1, 0, none⟩)), (7, Value.pointer l_), (9, Value.int .i64 out2), (10, Value.int .i64 all), (11, Value.int .i64 i), (149, Value.bool t149)] ∧ F_towpathlaw14_LaneStill_k5 R all i again_ out2 t149 w) ?_ ?_
                  · refine wpE_mixregion (id := 34) (ops := r_towpathlaw14_LaneStill_144) o_towpathlaw14_LaneStill_144 (by kernel_rfl) (by kernel_rfl) (by kernel_rfl) (by kernel_rfl) (fun w17 hw => ?_)
                    replace h := h w17 hw
                    clear hw
                    refine mreg_run [.plain, .plain, .plain, .plain, .plain, .plain, .plain, .pick, .plain] 9 [(2, [], Value.slice asks.ptr asks.len asks.cap), (4, [], Value.pointer (some ⟨b_1, 0, none⟩)), (7, [], Value.pointer l_), (9, [], Value.int .i64 out2), (10, [], Value.int .i64 all), (11, [], Value.int .i64 i), (13, [], Value.pointer (some ⟨b_2, 0, none⟩)), (20, [], Value.pointer (some ⟨b_3, 0, none⟩)), (137, [], Value.bool ((n_ != s) || (!(is == ok))))] (by kernel_rfl) (by kernel_rfl) ?_
                    refine mreg_split 137 ((n_ != s) || (!(is == ok))) (by kernel_rfl) (fun hb => ?_) (fun hb => ?_)
                    · replace h := h.1 hb
                      refine mreg_run [] 9 [(2, [], Value.slice asks.ptr asks.len asks.cap), (4, [], Value.pointer (some ⟨b_1, 0, none⟩)), (7, [], Value.pointer l_), (9, [], Value.int .i64 out2), (10, [], Value.int .i64 all), (11, [], Value.int .i64 i), (13, [], Value.pointer (some ⟨b_2, 0, none⟩)), (20, [], Value.pointer (some ⟨b_3, 0, none⟩)), (137, [], Value.bool true)] (by kernel_rfl) (by kernel_rfl) ?_
                      refine mreg_run [.skip, .skip, .skip, .skip, .plain, .plain, .skip, .skip, .skip, .skip, .skip, .plain] 21 [(2, [], Value.slice asks.ptr asks.len asks.cap), (4, [], Value.pointer (some ⟨b_1, 0, none⟩)), (7, [], Value.pointer l_), (9, [], Value.int .i64 out2), (10, [], Value.int .i64 all), (11, [], Value.int .i64 i), (149, [], Value.bool true)] (by kernel_rfl) (by kernel_rfl) ?_
                      refine mreg_end [(2, Value.slice asks.ptr asks.len asks.cap), (4, Value.pointer (some ⟨b_1, 0, none⟩)), (7, Value.pointer l_), (9, Value.int .i64 out2), (10, Value.int .i64 all), (11, Value.int .i64 i), (149, Value.bool true)] (by kernel_rfl) (by kernel_rfl) (by kernel_rfl) ?_
                      exact ⟨[(2, Value.slice asks.ptr asks.len asks.cap), (4, Value.pointer (some ⟨b_1, 0, none⟩)), (7, Value.pointer l_), (9, Value.int .i64 out2), (10, Value.int .i64 all), (11, Value.int .i64 i), (149, Value.bool true)], Sub.mk (by kernel_rfl), true, rfl, h⟩
                    · replace h := h.2 hb
                      refine mreg_run [] 9 [(2, [], Value.slice asks.ptr asks.len asks.cap), (4, [], Value.pointer (some ⟨b_1, 0, none⟩)), (7, [], Value.pointer l_), (9, [], Value.int .i64 out2), (10, [], Value.int .i64 all), (11, [], Value.int .i64 i), (13, [], Value.pointer (some ⟨b_2, 0, none⟩)), (20, [], Value.pointer (some ⟨b_3, 0, none⟩)), (137, [], Value.bool false)] (by kernel_rfl) (by kernel_rfl) ?_
                      refine mreg_run [] 9 [(2, [], Value.slice asks.ptr asks.len asks.cap), (4, [], Value.pointer (some ⟨b_1, 0, none⟩)), (7, [], Value.pointer l_), (9, [], Value.int .i64 out2), (10, [], Value.int .i64 all), (11, [], Value.int .i64 i), (13, [], Value.pointer (some ⟨b_2, 0, none⟩)), (20, [], Value.pointer (some ⟨b_3, 0, none⟩)), (137, [], Value.bool false)] (by kernel_rfl) (by kernel_rfl) ?_
                      obtain ⟨v138, hc, h⟩ := h
                      refine mreg_loadN (i := 9) (by kernel_rfl) (t := 65) (a := (Go.Operand.tmp 20)) (b := b_3) (o := 0) (ty := 65) (dst := some 138) [Value.int .u8 v138.Kind, Value.int .i64 v138.From, Value.int .i64 v138.Number, Value.string v138.Write.Key, Value.string v138.Write.Val, Value.bool v138.Write.Drop, Value.string v138.Key, Value.string v138.End, Value.slice v138.Beyond.ptr v138.Beyond.len v138.Beyond.cap] (by kernel_rfl) (by kernel_rfl) (by kernel_rfl) (k := 9) (by kernel_rfl) (by kernel_rfl) hc ?_
                      refine mreg_run [] 10 [(2, [], Value.slice asks.ptr asks.len asks.cap), (4, [], Value.pointer (some ⟨b_1, 0, none⟩)), (7, [], Value.pointer l_), (9, [], Value.int .i64 out2), (10, [], Value.int .i64 all), (11, [], Value.int .i64 i), (13, [], Value.pointer (some ⟨b_2, 0, none⟩)), (137, [], Value.bool false), (138, [], Value.agg #[Value.int .u8 v138.Kind, Value.int .i64 v138.From, Value.int .i64 v138.Number, Value.string v138.Write.Key, Value.string v138.Write.Val, Value.bool v138.Write.Drop, Value.string v138.Key, Value.string v138.End, Value.slice v138.Beyond.ptr v138.Beyond.len v138.Beyond.cap])] (by kernel_rfl) (by kernel_rfl) ?_
                      obtain ⟨v139, hc, h⟩ := h
                      refine mreg_loadN (i := 10) (by kernel_rfl) (t := 65) (a := (Go.Operand.tmp 13)) (b := b_2) (o := 0) (ty := 65) (dst := some 139) [Value.int .u8 v139.Kind, Value.int .i64 v139.From, Value.int .i64 v139.Number, Value.string v139.Write.Key, Value.string v139.Write.Val, Value.bool v139.Write.Drop, Value.string v139.Key, Value.string v139.End, Value.slice v139.Beyond.ptr v139.Beyond.len v139.Beyond.cap] (by kernel_rfl) (by kernel_rfl) (by kernel_rfl) (k := 9) (by kernel_rfl) (by kernel_rfl) hc ?_
                      refine mreg_run [] 11 [(2, [], Value.slice asks.ptr asks.len asks.cap), (4, [], Value.pointer (some ⟨b_1, 0, none⟩)), (7, [], Value.pointer l_), (9, [], Value.int .i64 out2), (10, [], Value.int .i64 all), (11, [], Value.int .i64 i), (137, [], Value.bool false), (138, [], Value.agg #[Value.int .u8 v138.Kind, Value.int .i64 v138.From, Value.int .i64 v138.Number, Value.string v138.Write.Key, Value.string v138.Write.Val, Value.bool v138.Write.Drop, Value.string v138.Key, Value.string v138.End, Value.slice v138.Beyond.ptr v138.Beyond.len v138.Beyond.cap]), (139, [], Value.agg #[Value.int .u8 v139.Kind, Value.int .i64 v139.From, Value.int .i64 v139.Number, Value.string v139.Write.Key, Value.string v139.Write.Val, Value.bool v139.Write.Drop, Value.string v139.Key, Value.string v139.End, Value.slice v139.Beyond.ptr v139.Beyond.len v139.Beyond.cap])] (by kernel_rfl) (by kernel_rfl) ?_
                      refine mreg_enter (op := (Go.Op.call (Go.Call.mk (Go.Callee.value (Go.Operand.func 33)) #[(Go.Operand.tmp 138), (Go.Operand.tmp 139)] #[65, 65]))) (ty := 4) (dst := some 140) 11 [8, 9, 10, 3, 7, 2, 6, 0, 1, 4, 5] [] 33 #[Value.agg #[Value.int .u8 v138.Kind, Value.int .i64 v138.From, Value.int .i64 v138.Number, Value.string v138.Write.Key, Value.string v138.Write.Val, Value.bool v138.Write.Drop, Value.string v138.Key, Value.string v138.End, Value.slice v138.Beyond.ptr v138.Beyond.len v138.Beyond.cap], Value.agg #[Value.int .u8 v139.Kind, Value.int .i64 v139.From, Value.int .i64 v139.Number, Value.string v139.Write.Key, Value.string v139.Write.Val, Value.bool v139.Write.Drop, Value.string v139.Key, Value.string v139.End, Value.slice v139.Beyond.ptr v139.Beyond.len v139.Beyond.cap]] (by kernel_rfl) (by kernel_rfl) (by kernel_rfl) (by kernel_rfl) (by kernel_rfl) (fun ww => by kernel_rfl) (Calls.mono h ?_)
                      rintro _ w18 ⟨v140, rfl, h⟩
                      refine ⟨_, rfl, trivial, ?_⟩
                      refine mreg_run [.sure, .plain, .plain, .plain, .plain] 17 [(2, [], Value.slice asks.ptr asks.len asks.cap), (4, [], Value.pointer (some ⟨b_1, 0, none⟩)), (7, [], Value.pointer l_), (9, [], Value.int .i64 out2), (10, [], Value.int .i64 all), (11, [], Value.int .i64 i), (143, [], Value.bool (!v140)), (144, [(143, false)], Value.pointer l_), (146, [(143, false)], Value.pointer (some ⟨b_1, 0, none⟩))] (by kernel_rfl) (by kernel_rfl) ?_
                      refine mreg_split 143 (!v140) (by kernel_rfl) (fun hb => ?_) (fun hb => ?_)
                      · replace h := h.1 hb
                        refine mreg_run [] 17 [(2, [], Value.slice asks.ptr asks.len asks.cap), (4, [], Value.pointer (some ⟨b_1, 0, none⟩)), (7, [], Value.pointer l_), (9, [], Value.int .i64 out2), (10, [], Value.int .i64 all), (11, [], Value.int .i64 i), (143, [], Value.bool true), (144, [], undef), (146, [], undef)] (by kernel_rfl) (by kernel_rfl) ?_
                        refine mreg_run [.skip, .skip, .skip, .plain] 21 [(2, [], Value.slice asks.ptr asks.len asks.cap), (4, [], Value.pointer (some ⟨b_1, 0, none⟩)), (7, [], Value.pointer l_), (9, [], Value.int .i64 out2), (10, [], Value.int .i64 all), (11, [], Value.int .i64 i), (149, [], Value.bool true)] (by kernel_rfl) (by kernel_rfl) ?_
                        refine mreg_end [(2, Value.slice asks.ptr asks.len asks.cap), (4, Value.pointer (some ⟨b_1, 0, none⟩)), (7, Value.pointer l_), (9, Value.int .i64 out2), (10, Value.int .i64 all), (11, Value.int .i64 i), (149, Value.bool true)] (by kernel_rfl) (by kernel_rfl) (by kernel_rfl) ?_
                        exact ⟨[(2, Value.slice asks.ptr asks.len asks.cap), (4, Value.pointer (some ⟨b_1, 0, none⟩)), (7, Value.pointer l_), (9, Value.int .i64 out2), (10, Value.int .i64 all), (11, Value.int .i64 i), (149, Value.bool true)], Sub.mk (by kernel_rfl), true, rfl, h⟩
                      · replace h := h.2 hb
                        refine mreg_run [] 17 [(2, [], Value.slice asks.ptr asks.len asks.cap), (4, [], Value.pointer (some ⟨b_1, 0, none⟩)), (7, [], Value.pointer l_), (9, [], Value.int .i64 out2), (10, [], Value.int .i64 all), (11, [], Value.int .i64 i), (143, [], Value.bool false), (144, [], Value.pointer l_), (146, [], Value.pointer (some ⟨b_1, 0, none⟩))] (by kernel_rfl) (by kernel_rfl) ?_
                        refine mreg_run [] 17 [(2, [], Value.slice asks.ptr asks.len asks.cap), (4, [], Value.pointer (some ⟨b_1, 0, none⟩)), (7, [], Value.pointer l_), (9, [], Value.int .i64 out2), (10, [], Value.int .i64 all), (11, [], Value.int .i64 i), (143, [], Value.bool false), (144, [], Value.pointer l_), (146, [], Value.pointer (some ⟨b_1, 0, none⟩))] (by kernel_rfl) (by kernel_rfl) ?_
                        obtain ⟨v147, hc, h⟩ := h
                        refine mreg_load1 (i := 18) (by kernel_rfl) (t := 3) (a := (Go.Operand.tmp 146)) (b := b_1) (o := 0) (ty := 3) (dst := some 147) (by kernel_rfl) (by kernel_rfl) (by kernel_rfl) hc ?_
                        refine mreg_run [] 18 [(2, [], Value.slice asks.ptr asks.len asks.cap), (4, [], Value.pointer (some ⟨b_1, 0, none⟩)), (7, [], Value.pointer l_), (9, [], Value.int .i64 out2), (10, [], Value.int .i64 all), (11, [], Value.int .i64 i), (143, [], Value.bool false), (144, [], Value.pointer l_), (147, [], Value.int .i64 v147)] (by kernel_rfl) (by kernel_rfl) ?_
                        refine mreg_enter (op := (Go.Op.call (Go.Call.mk (Go.Callee.value (Go.Operand.func 25)) #[(Go.Operand.tmp 144)] #[38]))) (ty := 3) (dst := some 145) 16 [14, 15, 11, 13, 8, 9, 10, 12, 3, 7, 2, 6, 0, 1, 4, 5] [(18, fun w' => w'.cell? ⟨b_1, 0, none⟩ = some (Value.int .i64 v147))] 25 #[Value.pointer l_] (by kernel_rfl) (by kernel_rfl) (by kernel_rfl) (by kernel_rfl) (by kernel_rfl) (fun ww => by kernel_rfl) (Calls.mono h ?_)
                        rintro _ w19 ⟨v145, rfl, h⟩
                        obtain ⟨hk0, h⟩ := h
                        refine ⟨_, rfl, ⟨hk0, trivial⟩, ?_⟩
                        refine mreg_run [.sure, .plain] 21 [(2, [], Value.slice asks.ptr asks.len asks.cap), (4, [], Value.pointer (some ⟨b_1, 0, none⟩)), (7, [], Value.pointer l_), (9, [], Value.int .i64 out2), (10, [], Value.int .i64 all), (11, [], Value.int .i64 i), (149, [], Value.bool (v145 != v147))] (by kernel_rfl) (by kernel_rfl) ?_
                        refine mreg_end [(2, Value.slice asks.ptr asks.len asks.cap), (4, Value.pointer (some ⟨b_1, 0, none⟩)), (7, Value.pointer l_), (9, Value.int .i64 out2), (10, Value.int .i64 all), (11, Value.int .i64 i), (149, Value.bool (v145 != v147))] (by kernel_rfl) (by kernel_rfl) (by kernel_rfl) ?_
                        exact ⟨[(2, Value.slice asks.ptr asks.len asks.cap), (4, Value.pointer (some ⟨b_1, 0, none⟩)), (7, Value.pointer l_), (9, Value.int .i64 out2), (10, Value.int .i64 all), (11, Value.int .i64 i), (149, Value.bool (v145 != v147))], Sub.mk (by kernel_rfl), (v145 != v147), rfl, h⟩
                  · rintro _ w16 ⟨t149, rfl, h⟩
                    unfold F_towpathlaw14_LaneStill_k5 at h
                    refine wpE_cond (o := (Operand.tmp 149)) (b := t149) (x := c_towpathlaw14_LaneStill_147) (y := c_towpathlaw14_LaneStill_151) (by kernel_rfl) (by kernel_rfl) (fun hb => ?_) (fun hb => ?_)
                    · replace h := h.1 hb
                      refine wpE_seq (x := c_towpathlaw14_LaneStill_148) (y := c_towpathlaw14_LaneStill_150) (by kernel_rfl) ?_
                      refine wpE_region (id := 35) (ops := r_towpathlaw14_LaneStill_148) (by kernel_rfl) ?_
                      refine reg_run [.plain] 1 [(6, [], Value.bool false)] (by kernel_rfl) (by kernel_rfl) ?_
                      refine reg_end [(6, Value.bool false)] (by kernel_rfl) (by kernel_rfl) ?_
                      change WpE _ _ c_towpathlaw14_LaneStill_150 _ _ _
                      refine wpE_ret (by kernel_rfl) ?_
                      repeat (first | refine seqQ_ret ?_ | refine blockQ_ret ?_ | refine loopQ_ret ?_ | refine cutQ_ret ?_)
                      exact retS (rs := [(Go.ResultVar.tmp 6)]) (v := Value.bool false) (by kernel_rfl) (⟨by kernel_rfl, trivial⟩) ⟨false, rfl, h⟩
                    · replace h := h.2 hb
                      refine wpE_skip (by kernel_rfl) ?_
                      exact ⟨[(2, Value.slice asks.ptr asks.len asks.cap), (4, Value.pointer (some ⟨b_1, 0, none⟩)), (7, Value.pointer l_), (9, Value.int .i64 out2), (10, Value.int .i64 all), (11, Value.int .i64 i)], Sub.mk (by kernel_rfl), out2, all, rfl, h⟩
              · rintro _ w8 ⟨out1, all1, rfl, h⟩
                unfold F_towpathlaw14_LaneStill_k3 at h
                refine wpE_region (id := 9) (ops := r_towpathlaw14_LaneStill_152) (by kernel_rfl) ?_
                refine reg_run [.plain, .plain, .plain] 3 [(2, [], Value.slice asks.ptr asks.len asks.cap), (4, [], Value.pointer (some ⟨b_1, 0, none⟩)), (7, [], Value.pointer l_), (9, [], Value.int .i64 out1), (10, [], Value.int .i64 all1), (11, [], Value.int .i64 (IntKind.i64.wrap (i + 1)))] (by kernel_rfl) (by kernel_rfl) ?_
                refine reg_end [(2, Value.slice asks.ptr asks.len asks.cap), (4, Value.pointer (some ⟨b_1, 0, none⟩)), (7, Value.pointer l_), (9, Value.int .i64 out1), (10, Value.int .i64 all1), (11, Value.int .i64 (IntKind.i64.wrap (i + 1)))] (by kernel_rfl) (by kernel_rfl) ?_
                have hb_ := again__h _ _ _ _ h
                exact ⟨_, hb_.2, [(2, Value.slice asks.ptr asks.len asks.cap), (4, Value.pointer (some ⟨b_1, 0, none⟩)), (7, Value.pointer l_), (9, Value.int .i64 out1), (10, Value.int .i64 all1), (11, Value.int .i64 (IntKind.i64.wrap (i + 1)))], Sub.mk (by kernel_rfl), out1, all1, (IntKind.i64.wrap (i + 1)), rfl, hb_.1, rfl⟩
            · replace h := h.2 hb
              refine wpE_exit (id := 0) (by kernel_rfl) ?_
              change WpE _ _ c_towpathlaw14_LaneStill_154 _ _ _
              refine wpE_seq (x := c_towpathlaw14_LaneStill_155) (y := c_towpathlaw14_LaneStill_157) (by kernel_rfl) ?_
              refine wpE_region (id := 36) (ops := r_towpathlaw14_LaneStill_155) (by kernel_rfl) ?_
              refine reg_run [.plain, .plain] 2 [(150, [], Value.int .i64 all), (151, [], Value.pointer (some ⟨b_1, 1, none⟩))] (by kernel_rfl) (by kernel_rfl) ?_
              obtain ⟨v152, hc, h⟩ := h
              refine reg_load1 (t := 25) (a := (Go.Operand.tmp 151)) (b := b_1) (o := 1) (ty := 25) (dst := some 152) (by kernel_rfl) (by kernel_rfl) (by kernel_rfl) hc ?_
              refine reg_run [.plain, .plain, .plain] 6 [(6, [], Value.bool (decide (all ≤ ((v152.len : Nat) : Int))))] (by kernel_rfl) (by kernel_rfl) ?_
              refine reg_end [(6, Value.bool (decide (all ≤ ((v152.len : Nat) : Int))))] (by kernel_rfl) (by kernel_rfl) ?_
              change WpE _ _ c_towpathlaw14_LaneStill_157 _ _ _
              refine wpE_ret (by kernel_rfl) ?_
              repeat (first | refine seqQ_ret ?_ | refine blockQ_ret ?_ | refine loopQ_ret ?_ | refine cutQ_ret ?_)
              exact retS (rs := [(Go.ResultVar.tmp 6)]) (v := Value.bool (decide (all ≤ ((v152.len : Nat) : Int)))) (by kernel_rfl) (⟨by kernel_rfl, trivial⟩) ⟨(decide (all ≤ ((v152.len : Nat) : Int))), rfl, h⟩
  · rintro e w' ⟨v, rfl, r0, rfl, h⟩; exact ⟨r0, rfl, h⟩
end Go.Proofs.Ytfmkemmgakdddaa
