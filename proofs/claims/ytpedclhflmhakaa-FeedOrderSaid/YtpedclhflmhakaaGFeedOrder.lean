/- WRITTEN BY PROGRAM (dec.py): for each Go function the clean formula F, the call's contract C, and the proof S that F gives C. -/
import Derived.Test.YtpedclhflmhakaaRows
import Derived.Test.YtpedclhflmhakaaGF
namespace Go.Proofs.Ytpedclhflmhakaa
open Go
set_option linter.unusedVariables false

/-! ### towpath/towpathlaw16.FeedOrder (function 4) -/
noncomputable def c_towpathlaw16_FeedOrder_0 : Code := (Try.f4.body).getD Code.skip
noncomputable def c_towpathlaw16_FeedOrder_1 : Code := Code.l c_towpathlaw16_FeedOrder_0
noncomputable def r_towpathlaw16_FeedOrder_1 : Array Oper := Code.ops c_towpathlaw16_FeedOrder_1
noncomputable def c_towpathlaw16_FeedOrder_3 : Code := Code.r c_towpathlaw16_FeedOrder_0
noncomputable def c_towpathlaw16_FeedOrder_4 : Code := Code.l c_towpathlaw16_FeedOrder_3
noncomputable def r_towpathlaw16_FeedOrder_4 : Array Oper := Code.ops c_towpathlaw16_FeedOrder_4
noncomputable def c_towpathlaw16_FeedOrder_6 : Code := Code.r c_towpathlaw16_FeedOrder_3
noncomputable def c_towpathlaw16_FeedOrder_7 : Code := Code.l c_towpathlaw16_FeedOrder_6
noncomputable def c_towpathlaw16_FeedOrder_8 : Code := Code.l c_towpathlaw16_FeedOrder_7
noncomputable def r_towpathlaw16_FeedOrder_8 : Array Oper := Code.ops c_towpathlaw16_FeedOrder_8
noncomputable def c_towpathlaw16_FeedOrder_10 : Code := Code.r c_towpathlaw16_FeedOrder_7
noncomputable def c_towpathlaw16_FeedOrder_11 : Code := Code.l c_towpathlaw16_FeedOrder_10
noncomputable def c_towpathlaw16_FeedOrder_12 : Code := Code.l c_towpathlaw16_FeedOrder_11
noncomputable def r_towpathlaw16_FeedOrder_12 : Array Oper := Code.ops c_towpathlaw16_FeedOrder_12
noncomputable def c_towpathlaw16_FeedOrder_14 : Code := Code.r c_towpathlaw16_FeedOrder_11
noncomputable def c_towpathlaw16_FeedOrder_15 : Code := Code.r c_towpathlaw16_FeedOrder_10
noncomputable def c_towpathlaw16_FeedOrder_16 : Code := Code.r c_towpathlaw16_FeedOrder_6
noncomputable def c_towpathlaw16_FeedOrder_17 : Code := Code.l c_towpathlaw16_FeedOrder_16
noncomputable def c_towpathlaw16_FeedOrder_18 : Code := Code.l c_towpathlaw16_FeedOrder_17
noncomputable def r_towpathlaw16_FeedOrder_18 : Array Oper := Code.ops c_towpathlaw16_FeedOrder_18
noncomputable def c_towpathlaw16_FeedOrder_20 : Code := Code.r c_towpathlaw16_FeedOrder_17
noncomputable def c_towpathlaw16_FeedOrder_21 : Code := Code.l c_towpathlaw16_FeedOrder_20
noncomputable def c_towpathlaw16_FeedOrder_22 : Code := Code.l c_towpathlaw16_FeedOrder_21
noncomputable def r_towpathlaw16_FeedOrder_22 : Array Oper := Code.ops c_towpathlaw16_FeedOrder_22
noncomputable def c_towpathlaw16_FeedOrder_24 : Code := Code.r c_towpathlaw16_FeedOrder_21
noncomputable def c_towpathlaw16_FeedOrder_25 : Code := Code.r c_towpathlaw16_FeedOrder_20
noncomputable def c_towpathlaw16_FeedOrder_26 : Code := Code.r c_towpathlaw16_FeedOrder_16
noncomputable def c_towpathlaw16_FeedOrder_27 : Code := Code.l c_towpathlaw16_FeedOrder_26
noncomputable def r_towpathlaw16_FeedOrder_27 : Array Oper := Code.ops c_towpathlaw16_FeedOrder_27
noncomputable def c_towpathlaw16_FeedOrder_29 : Code := Code.r c_towpathlaw16_FeedOrder_26
noncomputable def c_towpathlaw16_FeedOrder_30 : Code := Code.l c_towpathlaw16_FeedOrder_29
noncomputable def r_towpathlaw16_FeedOrder_30 : Array Oper := Code.ops c_towpathlaw16_FeedOrder_30
noncomputable def c_towpathlaw16_FeedOrder_32 : Code := Code.r c_towpathlaw16_FeedOrder_29
noncomputable def c_towpathlaw16_FeedOrder_33 : Code := Code.l c_towpathlaw16_FeedOrder_32
noncomputable def r_towpathlaw16_FeedOrder_33 : Array Oper := Code.ops c_towpathlaw16_FeedOrder_33
noncomputable def c_towpathlaw16_FeedOrder_35 : Code := Code.r c_towpathlaw16_FeedOrder_32
noncomputable def c_towpathlaw16_FeedOrder_36 : Code := Code.l c_towpathlaw16_FeedOrder_35
noncomputable def r_towpathlaw16_FeedOrder_36 : Array Oper := Code.ops c_towpathlaw16_FeedOrder_36
noncomputable def c_towpathlaw16_FeedOrder_38 : Code := Code.r c_towpathlaw16_FeedOrder_35
noncomputable def c_towpathlaw16_FeedOrder_39 : Code := Code.l c_towpathlaw16_FeedOrder_38
noncomputable def c_towpathlaw16_FeedOrder_40 : Code := Code.l c_towpathlaw16_FeedOrder_39
noncomputable def r_towpathlaw16_FeedOrder_40 : Array Oper := Code.ops c_towpathlaw16_FeedOrder_40
noncomputable def c_towpathlaw16_FeedOrder_42 : Code := Code.r c_towpathlaw16_FeedOrder_39
noncomputable def c_towpathlaw16_FeedOrder_43 : Code := Code.l c_towpathlaw16_FeedOrder_42
noncomputable def c_towpathlaw16_FeedOrder_44 : Code := Code.l c_towpathlaw16_FeedOrder_43
noncomputable def c_towpathlaw16_FeedOrder_45 : Code := Code.l c_towpathlaw16_FeedOrder_44
noncomputable def c_towpathlaw16_FeedOrder_46 : Code := Code.l c_towpathlaw16_FeedOrder_45
noncomputable def r_towpathlaw16_FeedOrder_46 : Array Oper := Code.ops c_towpathlaw16_FeedOrder_46
noncomputable def c_towpathlaw16_FeedOrder_48 : Code := Code.r c_towpathlaw16_FeedOrder_45
noncomputable def c_towpathlaw16_FeedOrder_49 : Code := Code.l c_towpathlaw16_FeedOrder_48
noncomputable def c_towpathlaw16_FeedOrder_50 : Code := Code.r c_towpathlaw16_FeedOrder_48
noncomputable def c_towpathlaw16_FeedOrder_51 : Code := Code.r c_towpathlaw16_FeedOrder_44
noncomputable def c_towpathlaw16_FeedOrder_52 : Code := Code.l c_towpathlaw16_FeedOrder_51
noncomputable def c_towpathlaw16_FeedOrder_53 : Code := Code.l c_towpathlaw16_FeedOrder_52
noncomputable def c_towpathlaw16_FeedOrder_54 : Code := Code.l c_towpathlaw16_FeedOrder_53
noncomputable def r_towpathlaw16_FeedOrder_54 : Array Oper := Code.ops c_towpathlaw16_FeedOrder_54
noncomputable def c_towpathlaw16_FeedOrder_56 : Code := Code.r c_towpathlaw16_FeedOrder_53
noncomputable def c_towpathlaw16_FeedOrder_57 : Code := Code.l c_towpathlaw16_FeedOrder_56
noncomputable def r_towpathlaw16_FeedOrder_57 : Array Oper := Code.ops c_towpathlaw16_FeedOrder_57
noncomputable def c_towpathlaw16_FeedOrder_59 : Code := Code.r c_towpathlaw16_FeedOrder_56
noncomputable def c_towpathlaw16_FeedOrder_60 : Code := Code.l c_towpathlaw16_FeedOrder_59
noncomputable def c_towpathlaw16_FeedOrder_61 : Code := Code.l c_towpathlaw16_FeedOrder_60
noncomputable def r_towpathlaw16_FeedOrder_61 : Array Oper := Code.ops c_towpathlaw16_FeedOrder_61
noncomputable def c_towpathlaw16_FeedOrder_63 : Code := Code.r c_towpathlaw16_FeedOrder_60
noncomputable def c_towpathlaw16_FeedOrder_64 : Code := Code.l c_towpathlaw16_FeedOrder_63
noncomputable def c_towpathlaw16_FeedOrder_65 : Code := Code.l c_towpathlaw16_FeedOrder_64
noncomputable def r_towpathlaw16_FeedOrder_65 : Array Oper := Code.ops c_towpathlaw16_FeedOrder_65
noncomputable def c_towpathlaw16_FeedOrder_67 : Code := Code.r c_towpathlaw16_FeedOrder_64
noncomputable def c_towpathlaw16_FeedOrder_68 : Code := Code.l c_towpathlaw16_FeedOrder_67
noncomputable def c_towpathlaw16_FeedOrder_69 : Code := Code.l c_towpathlaw16_FeedOrder_68
noncomputable def r_towpathlaw16_FeedOrder_69 : Array Oper := Code.ops c_towpathlaw16_FeedOrder_69
noncomputable def c_towpathlaw16_FeedOrder_71 : Code := Code.r c_towpathlaw16_FeedOrder_68
noncomputable def c_towpathlaw16_FeedOrder_72 : Code := Code.l c_towpathlaw16_FeedOrder_71
noncomputable def c_towpathlaw16_FeedOrder_73 : Code := Code.l c_towpathlaw16_FeedOrder_72
noncomputable def r_towpathlaw16_FeedOrder_73 : Array Oper := Code.ops c_towpathlaw16_FeedOrder_73
noncomputable def c_towpathlaw16_FeedOrder_75 : Code := Code.r c_towpathlaw16_FeedOrder_72
noncomputable def c_towpathlaw16_FeedOrder_76 : Code := Code.r c_towpathlaw16_FeedOrder_71
noncomputable def c_towpathlaw16_FeedOrder_77 : Code := Code.r c_towpathlaw16_FeedOrder_67
noncomputable def r_towpathlaw16_FeedOrder_77 : Array Oper := Code.ops c_towpathlaw16_FeedOrder_77
noncomputable def c_towpathlaw16_FeedOrder_79 : Code := Code.r c_towpathlaw16_FeedOrder_63
noncomputable def c_towpathlaw16_FeedOrder_80 : Code := Code.l c_towpathlaw16_FeedOrder_79
noncomputable def r_towpathlaw16_FeedOrder_80 : Array Oper := Code.ops c_towpathlaw16_FeedOrder_80
noncomputable def c_towpathlaw16_FeedOrder_82 : Code := Code.r c_towpathlaw16_FeedOrder_79
noncomputable def c_towpathlaw16_FeedOrder_83 : Code := Code.l c_towpathlaw16_FeedOrder_82
noncomputable def c_towpathlaw16_FeedOrder_84 : Code := Code.l c_towpathlaw16_FeedOrder_83
noncomputable def r_towpathlaw16_FeedOrder_84 : Array Oper := Code.ops c_towpathlaw16_FeedOrder_84
noncomputable def c_towpathlaw16_FeedOrder_86 : Code := Code.r c_towpathlaw16_FeedOrder_83
noncomputable def c_towpathlaw16_FeedOrder_87 : Code := Code.l c_towpathlaw16_FeedOrder_86
noncomputable def c_towpathlaw16_FeedOrder_88 : Code := Code.l c_towpathlaw16_FeedOrder_87
noncomputable def r_towpathlaw16_FeedOrder_88 : Array Oper := Code.ops c_towpathlaw16_FeedOrder_88
noncomputable def c_towpathlaw16_FeedOrder_90 : Code := Code.r c_towpathlaw16_FeedOrder_87
noncomputable def c_towpathlaw16_FeedOrder_91 : Code := Code.l c_towpathlaw16_FeedOrder_90
noncomputable def c_towpathlaw16_FeedOrder_92 : Code := Code.l c_towpathlaw16_FeedOrder_91
noncomputable def r_towpathlaw16_FeedOrder_92 : Array Oper := Code.ops c_towpathlaw16_FeedOrder_92
noncomputable def c_towpathlaw16_FeedOrder_94 : Code := Code.r c_towpathlaw16_FeedOrder_91
noncomputable def c_towpathlaw16_FeedOrder_95 : Code := Code.r c_towpathlaw16_FeedOrder_90
noncomputable def c_towpathlaw16_FeedOrder_96 : Code := Code.r c_towpathlaw16_FeedOrder_86
noncomputable def r_towpathlaw16_FeedOrder_96 : Array Oper := Code.ops c_towpathlaw16_FeedOrder_96
noncomputable def c_towpathlaw16_FeedOrder_98 : Code := Code.r c_towpathlaw16_FeedOrder_82
noncomputable def c_towpathlaw16_FeedOrder_99 : Code := Code.l c_towpathlaw16_FeedOrder_98
noncomputable def r_towpathlaw16_FeedOrder_99 : Array Oper := Code.ops c_towpathlaw16_FeedOrder_99
noncomputable def c_towpathlaw16_FeedOrder_101 : Code := Code.r c_towpathlaw16_FeedOrder_98
noncomputable def c_towpathlaw16_FeedOrder_102 : Code := Code.l c_towpathlaw16_FeedOrder_101
noncomputable def c_towpathlaw16_FeedOrder_103 : Code := Code.l c_towpathlaw16_FeedOrder_102
noncomputable def r_towpathlaw16_FeedOrder_103 : Array Oper := Code.ops c_towpathlaw16_FeedOrder_103
noncomputable def c_towpathlaw16_FeedOrder_105 : Code := Code.r c_towpathlaw16_FeedOrder_102
noncomputable def c_towpathlaw16_FeedOrder_106 : Code := Code.l c_towpathlaw16_FeedOrder_105
noncomputable def c_towpathlaw16_FeedOrder_107 : Code := Code.l c_towpathlaw16_FeedOrder_106
noncomputable def r_towpathlaw16_FeedOrder_107 : Array Oper := Code.ops c_towpathlaw16_FeedOrder_107
noncomputable def c_towpathlaw16_FeedOrder_109 : Code := Code.r c_towpathlaw16_FeedOrder_106
noncomputable def c_towpathlaw16_FeedOrder_110 : Code := Code.l c_towpathlaw16_FeedOrder_109
noncomputable def c_towpathlaw16_FeedOrder_111 : Code := Code.l c_towpathlaw16_FeedOrder_110
noncomputable def r_towpathlaw16_FeedOrder_111 : Array Oper := Code.ops c_towpathlaw16_FeedOrder_111
noncomputable def c_towpathlaw16_FeedOrder_113 : Code := Code.r c_towpathlaw16_FeedOrder_110
noncomputable def c_towpathlaw16_FeedOrder_114 : Code := Code.r c_towpathlaw16_FeedOrder_109
noncomputable def c_towpathlaw16_FeedOrder_115 : Code := Code.r c_towpathlaw16_FeedOrder_105
noncomputable def r_towpathlaw16_FeedOrder_115 : Array Oper := Code.ops c_towpathlaw16_FeedOrder_115
noncomputable def c_towpathlaw16_FeedOrder_117 : Code := Code.r c_towpathlaw16_FeedOrder_101
noncomputable def c_towpathlaw16_FeedOrder_118 : Code := Code.r c_towpathlaw16_FeedOrder_51
noncomputable def r_towpathlaw16_FeedOrder_118 : Array Oper := Code.ops c_towpathlaw16_FeedOrder_118
noncomputable def c_towpathlaw16_FeedOrder_120 : Code := Code.r c_towpathlaw16_FeedOrder_38
noncomputable def c_towpathlaw16_FeedOrder_121 : Code := Code.l c_towpathlaw16_FeedOrder_120
noncomputable def r_towpathlaw16_FeedOrder_121 : Array Oper := Code.ops c_towpathlaw16_FeedOrder_121
noncomputable def c_towpathlaw16_FeedOrder_123 : Code := Code.r c_towpathlaw16_FeedOrder_120
noncomputable def c_towpathlaw16_FeedOrder_124 : Code := Code.l c_towpathlaw16_FeedOrder_123
noncomputable def c_towpathlaw16_FeedOrder_125 : Code := Code.l c_towpathlaw16_FeedOrder_124
noncomputable def r_towpathlaw16_FeedOrder_125 : Array Oper := Code.ops c_towpathlaw16_FeedOrder_125
noncomputable def c_towpathlaw16_FeedOrder_127 : Code := Code.r c_towpathlaw16_FeedOrder_124
noncomputable def c_towpathlaw16_FeedOrder_128 : Code := Code.l c_towpathlaw16_FeedOrder_127
noncomputable def c_towpathlaw16_FeedOrder_129 : Code := Code.l c_towpathlaw16_FeedOrder_128
noncomputable def c_towpathlaw16_FeedOrder_130 : Code := Code.l c_towpathlaw16_FeedOrder_129
noncomputable def c_towpathlaw16_FeedOrder_131 : Code := Code.l c_towpathlaw16_FeedOrder_130
noncomputable def r_towpathlaw16_FeedOrder_131 : Array Oper := Code.ops c_towpathlaw16_FeedOrder_131
noncomputable def c_towpathlaw16_FeedOrder_133 : Code := Code.r c_towpathlaw16_FeedOrder_130
noncomputable def c_towpathlaw16_FeedOrder_134 : Code := Code.l c_towpathlaw16_FeedOrder_133
noncomputable def c_towpathlaw16_FeedOrder_135 : Code := Code.r c_towpathlaw16_FeedOrder_133
noncomputable def c_towpathlaw16_FeedOrder_136 : Code := Code.r c_towpathlaw16_FeedOrder_129
noncomputable def c_towpathlaw16_FeedOrder_137 : Code := Code.l c_towpathlaw16_FeedOrder_136
noncomputable def c_towpathlaw16_FeedOrder_138 : Code := Code.l c_towpathlaw16_FeedOrder_137
noncomputable def c_towpathlaw16_FeedOrder_139 : Code := Code.l c_towpathlaw16_FeedOrder_138
noncomputable def r_towpathlaw16_FeedOrder_139 : Array Oper := Code.ops c_towpathlaw16_FeedOrder_139
noncomputable def c_towpathlaw16_FeedOrder_141 : Code := Code.r c_towpathlaw16_FeedOrder_138
noncomputable def c_towpathlaw16_FeedOrder_142 : Code := Code.l c_towpathlaw16_FeedOrder_141
noncomputable def c_towpathlaw16_FeedOrder_143 : Code := Code.l c_towpathlaw16_FeedOrder_142
noncomputable def r_towpathlaw16_FeedOrder_143 : Array Oper := Code.ops c_towpathlaw16_FeedOrder_143
noncomputable def c_towpathlaw16_FeedOrder_145 : Code := Code.r c_towpathlaw16_FeedOrder_142
noncomputable def c_towpathlaw16_FeedOrder_146 : Code := Code.r c_towpathlaw16_FeedOrder_141
noncomputable def c_towpathlaw16_FeedOrder_147 : Code := Code.r c_towpathlaw16_FeedOrder_136
noncomputable def r_towpathlaw16_FeedOrder_147 : Array Oper := Code.ops c_towpathlaw16_FeedOrder_147
noncomputable def c_towpathlaw16_FeedOrder_149 : Code := Code.r c_towpathlaw16_FeedOrder_123
noncomputable def c_towpathlaw16_FeedOrder_150 : Code := Code.l c_towpathlaw16_FeedOrder_149
noncomputable def r_towpathlaw16_FeedOrder_150 : Array Oper := Code.ops c_towpathlaw16_FeedOrder_150
noncomputable def c_towpathlaw16_FeedOrder_152 : Code := Code.r c_towpathlaw16_FeedOrder_149
def o_towpathlaw16_FeedOrder_107 : List Nat := [0, 1, 2, 3, 4, 5, 6, 7, 8, 9, 10, 11, 12, 13, 14, 15, 16, 17, 18, 19, 20, 21, 22, 23, 24, 25, 26, 27, 28, 29, 30, 31]

set_option maxRecDepth 100000 in
set_option maxHeartbeats 4000000 in
theorem S_towpathlaw16_FeedOrder {l_ : Slc} {m_ : T_towpathlaw16_Made} {ups : Slc} {w : World} {R : Bool → World → Prop} (h : F_towpathlaw16_FeedOrder l_ m_ ups R w) : C_towpathlaw16_FeedOrder l_ m_ ups w R := by
  unfold F_towpathlaw16_FeedOrder at h
  unfold C_towpathlaw16_FeedOrder
  refine Calls.mono (calls_of_wpE (args := [Value.slice l_.ptr l_.len l_.cap, Value.agg #[Value.int .i64 m_.Mark, Value.slice m_.Beyond.ptr m_.Beyond.len m_.Beyond.cap, Value.int .i64 m_.Window], Value.slice ups.ptr ups.len ups.cap]) (R := fun v w' => ∃ (r0 : Bool), v = Value.bool r0 ∧ R r0 w') Try.func4 (c := c_towpathlaw16_FeedOrder_0) (by kernel_rfl) 175 (by kernel_rfl) (by kernel_rfl) [(0, Value.slice l_.ptr l_.len l_.cap), (1, Value.agg #[Value.int .i64 m_.Mark, Value.slice m_.Beyond.ptr m_.Beyond.len m_.Beyond.cap, Value.int .i64 m_.Window]), (2, Value.slice ups.ptr ups.len ups.cap)] (by kernel_rfl) ?_) ?_
  · refine wpE_seq (x := c_towpathlaw16_FeedOrder_1) (y := c_towpathlaw16_FeedOrder_3) (by kernel_rfl) ?_
    refine wpE_region (id := 0) (ops := r_towpathlaw16_FeedOrder_1) (by kernel_rfl) ?_
    refine reg_run [] 0 [(0, [], Value.slice l_.ptr l_.len l_.cap), (1, [], Value.agg #[Value.int .i64 m_.Mark, Value.slice m_.Beyond.ptr m_.Beyond.len m_.Beyond.cap, Value.int .i64 m_.Window]), (2, [], Value.slice ups.ptr ups.len ups.cap)] (by kernel_rfl) (by kernel_rfl) ?_
    refine reg_new (op := (Go.Op.box 25 (Go.Operand.tmp 1))) (ty := 0) (dst := some 4) (fun bb => Value.pointer (some ⟨bb, 0, none⟩)) (Obj.cells ([Value.int .i64 m_.Mark, Value.slice m_.Beyond.ptr m_.Beyond.len m_.Beyond.cap, Value.int .i64 m_.Window]).toArray ty_towpathlaw16_Made (0, 0)) (by kernel_rfl) (by kernel_rfl) (fun b_ w1 hb hw => ?_)
    replace h := h b_ w1 hb hw
    clear hb hw
    refine reg_run [.plain] 2 [(0, [], Value.slice l_.ptr l_.len l_.cap), (2, [], Value.slice ups.ptr ups.len ups.cap), (4, [], Value.pointer (some ⟨b_, 0, none⟩))] (by kernel_rfl) (by kernel_rfl) ?_
    refine reg_end [(0, Value.slice l_.ptr l_.len l_.cap), (2, Value.slice ups.ptr ups.len ups.cap), (4, Value.pointer (some ⟨b_, 0, none⟩))] (by kernel_rfl) (by kernel_rfl) ?_
    change WpE _ _ c_towpathlaw16_FeedOrder_3 _ _ _
    refine wpE_seq (x := c_towpathlaw16_FeedOrder_4) (y := c_towpathlaw16_FeedOrder_6) (by kernel_rfl) ?_
    refine wpE_region (id := 1) (ops := r_towpathlaw16_FeedOrder_4) (by kernel_rfl) ?_
    refine reg_run [.plain] 1 [(0, [], Value.slice l_.ptr l_.len l_.cap), (2, [], Value.slice ups.ptr ups.len ups.cap), (4, [], Value.pointer (some ⟨b_, 0, none⟩)), (24, [], Value.slice l_.ptr l_.len l_.cap)] (by kernel_rfl) (by kernel_rfl) ?_
    obtain ⟨v25, hc, h⟩ := h
    refine reg_loadN (t := 25) (a := (Go.Operand.tmp 4)) (b := b_) (o := 0) (ty := 25) (dst := some 25) [Value.int .i64 v25.Mark, Value.slice v25.Beyond.ptr v25.Beyond.len v25.Beyond.cap, Value.int .i64 v25.Window] (by kernel_rfl) (by kernel_rfl) (by kernel_rfl) (k := 3) (by kernel_rfl) (by kernel_rfl) hc ?_
    refine reg_run [] 2 [(0, [], Value.slice l_.ptr l_.len l_.cap), (2, [], Value.slice ups.ptr ups.len ups.cap), (4, [], Value.pointer (some ⟨b_, 0, none⟩)), (24, [], Value.slice l_.ptr l_.len l_.cap), (25, [], Value.agg #[Value.int .i64 v25.Mark, Value.slice v25.Beyond.ptr v25.Beyond.len v25.Beyond.cap, Value.int .i64 v25.Window])] (by kernel_rfl) (by kernel_rfl) ?_
    refine reg_enter (op := (Go.Op.call (Go.Call.mk (Go.Callee.value (Go.Operand.func 11)) #[(Go.Operand.tmp 24), (Go.Operand.tmp 25)] #[22, 25]))) (ty := 29) (dst := some 26) 11 #[Value.slice l_.ptr l_.len l_.cap, Value.agg #[Value.int .i64 v25.Mark, Value.slice v25.Beyond.ptr v25.Beyond.len v25.Beyond.cap, Value.int .i64 v25.Window]] (by kernel_rfl) (fun ww => by kernel_rfl) (Calls.mono h ?_)
    rintro _ w2 ⟨f, v26_1, s, ok, rfl, h⟩
    refine ⟨_, rfl, ?_⟩
    refine reg_run [.plain, .plain, .plain, .plain, .plain, .plain, .plain, .plain, .plain] 12 [(0, [], Value.slice l_.ptr l_.len l_.cap), (2, [], Value.slice ups.ptr ups.len ups.cap), (4, [], Value.pointer (some ⟨b_, 0, none⟩)), (7, [], Value.pointer f), (9, [], Value.pointer s), (10, [], Value.bool ok)] (by kernel_rfl) (by kernel_rfl) ?_
    refine reg_end [(0, Value.slice l_.ptr l_.len l_.cap), (2, Value.slice ups.ptr ups.len ups.cap), (4, Value.pointer (some ⟨b_, 0, none⟩)), (7, Value.pointer f), (9, Value.pointer s), (10, Value.bool ok)] (by kernel_rfl) (by kernel_rfl) ?_
    change WpE _ _ c_towpathlaw16_FeedOrder_6 _ _ _
    refine wpE_seq (x := c_towpathlaw16_FeedOrder_7) (y := c_towpathlaw16_FeedOrder_16) (by kernel_rfl) ?_
    refine wpE_seq (x := c_towpathlaw16_FeedOrder_8) (y := c_towpathlaw16_FeedOrder_10) (by kernel_rfl) ?_
    refine wpE_region (id := 2) (ops := r_towpathlaw16_FeedOrder_8) (by kernel_rfl) ?_
    refine reg_run [.plain, .plain] 2 [(0, [], Value.slice l_.ptr l_.len l_.cap), (2, [], Value.slice ups.ptr ups.len ups.cap), (4, [], Value.pointer (some ⟨b_, 0, none⟩)), (7, [], Value.pointer f), (9, [], Value.pointer s), (32, [], Value.bool (!ok))] (by kernel_rfl) (by kernel_rfl) ?_
    refine reg_end [(0, Value.slice l_.ptr l_.len l_.cap), (2, Value.slice ups.ptr ups.len ups.cap), (4, Value.pointer (some ⟨b_, 0, none⟩)), (7, Value.pointer f), (9, Value.pointer s), (32, Value.bool (!ok))] (by kernel_rfl) (by kernel_rfl) ?_
    change WpE _ _ c_towpathlaw16_FeedOrder_10 _ _ _
    refine wpE_cond (o := (Operand.tmp 32)) (b := (!ok)) (x := c_towpathlaw16_FeedOrder_11) (y := c_towpathlaw16_FeedOrder_15) (by kernel_rfl) (by kernel_rfl) (fun hb => ?_) (fun hb => ?_)
    · replace h := h.1 hb
      refine wpE_seq (x := c_towpathlaw16_FeedOrder_12) (y := c_towpathlaw16_FeedOrder_14) (by kernel_rfl) ?_
      refine wpE_region (id := 3) (ops := r_towpathlaw16_FeedOrder_12) (by kernel_rfl) ?_
      refine reg_run [.plain] 1 [(6, [], Value.bool false)] (by kernel_rfl) (by kernel_rfl) ?_
      refine reg_end [(6, Value.bool false)] (by kernel_rfl) (by kernel_rfl) ?_
      change WpE _ _ c_towpathlaw16_FeedOrder_14 _ _ _
      refine wpE_ret (by kernel_rfl) ?_
      repeat (first | refine seqQ_ret ?_ | refine blockQ_ret ?_ | refine loopQ_ret ?_ | refine cutQ_ret ?_)
      exact retS (rs := [(Go.ResultVar.tmp 6)]) (v := Value.bool false) (by kernel_rfl) (⟨by kernel_rfl, trivial⟩) ⟨false, rfl, h⟩
    · replace h := h.2 hb
      refine wpE_skip (by kernel_rfl) ?_
      change WpE _ _ c_towpathlaw16_FeedOrder_16 _ _ _
      refine wpE_seq (x := c_towpathlaw16_FeedOrder_17) (y := c_towpathlaw16_FeedOrder_26) (by kernel_rfl) ?_
      refine wpE_seq (x := c_towpathlaw16_FeedOrder_18) (y := c_towpathlaw16_FeedOrder_20) (by kernel_rfl) ?_
      refine wpE_region (id := 4) (ops := r_towpathlaw16_FeedOrder_18) (by kernel_rfl) ?_
      refine reg_run [.plain] 1 [(0, [], Value.slice l_.ptr l_.len l_.cap), (2, [], Value.slice ups.ptr ups.len ups.cap), (4, [], Value.pointer (some ⟨b_, 0, none⟩)), (7, [], Value.pointer f), (9, [], Value.pointer s), (33, [], Value.pointer f)] (by kernel_rfl) (by kernel_rfl) ?_
      refine reg_val (op := (Go.Op.binOp Go.BinOp.eql 26 (Go.Operand.tmp 33) (Go.Operand.const (Go.Value.pointer none)) 26)) (ty := 4) (dst := some 34) (Value.bool f.isNone) (by kernel_rfl) (fun ww => run_ptr_eql_R (p := f) (by kernel_rfl) (by kernel_rfl) (by kernel_rfl) ww) ?_
      refine reg_end [(0, Value.slice l_.ptr l_.len l_.cap), (2, Value.slice ups.ptr ups.len ups.cap), (4, Value.pointer (some ⟨b_, 0, none⟩)), (7, Value.pointer f), (9, Value.pointer s), (34, Value.bool f.isNone)] (by kernel_rfl) (by kernel_rfl) ?_
      change WpE _ _ c_towpathlaw16_FeedOrder_20 _ _ _
      refine wpE_cond (o := (Operand.tmp 34)) (b := f.isNone) (x := c_towpathlaw16_FeedOrder_21) (y := c_towpathlaw16_FeedOrder_25) (by kernel_rfl) (by kernel_rfl) (fun hb => ?_) (fun hb => ?_)
      · replace h := h.1 hb
        refine wpE_seq (x := c_towpathlaw16_FeedOrder_22) (y := c_towpathlaw16_FeedOrder_24) (by kernel_rfl) ?_
        refine wpE_region (id := 5) (ops := r_towpathlaw16_FeedOrder_22) (by kernel_rfl) ?_
        refine reg_run [] 0 [] (by kernel_rfl) (by kernel_rfl) ?_
        refine reg_enter (op := (Go.Op.call (Go.Call.mk (Go.Callee.value (Go.Operand.func 12)) #[] #[]))) (ty := 4) (dst := some 35) 12 #[] (by kernel_rfl) (fun ww => by kernel_rfl) (Calls.mono h ?_)
        rintro _ w3 ⟨v35, rfl, h⟩
        refine ⟨_, rfl, ?_⟩
        refine reg_run [.plain] 2 [(6, [], Value.bool v35)] (by kernel_rfl) (by kernel_rfl) ?_
        refine reg_end [(6, Value.bool v35)] (by kernel_rfl) (by kernel_rfl) ?_
        change WpE _ _ c_towpathlaw16_FeedOrder_24 _ _ _
        refine wpE_ret (by kernel_rfl) ?_
        repeat (first | refine seqQ_ret ?_ | refine blockQ_ret ?_ | refine loopQ_ret ?_ | refine cutQ_ret ?_)
        exact retS (rs := [(Go.ResultVar.tmp 6)]) (v := Value.bool v35) (by kernel_rfl) (⟨by kernel_rfl, trivial⟩) ⟨v35, rfl, h⟩
      · replace h := h.2 hb
        refine wpE_skip (by kernel_rfl) ?_
        change WpE _ _ c_towpathlaw16_FeedOrder_26 _ _ _
        refine wpE_seq (x := c_towpathlaw16_FeedOrder_27) (y := c_towpathlaw16_FeedOrder_29) (by kernel_rfl) ?_
        refine wpE_region (id := 6) (ops := r_towpathlaw16_FeedOrder_27) (by kernel_rfl) ?_
        refine reg_run [.plain, .plain, .plain] 3 [(0, [], Value.slice l_.ptr l_.len l_.cap), (2, [], Value.slice ups.ptr ups.len ups.cap), (4, [], Value.pointer (some ⟨b_, 0, none⟩)), (7, [], Value.pointer f), (9, [], Value.pointer s), (36, [], Value.pointer f), (38, [], Value.int .i64 ((l_.len : Nat) : Int))] (by kernel_rfl) (by kernel_rfl) ?_
        refine reg_enter (op := (Go.Op.call (Go.Call.mk (Go.Callee.value (Go.Operand.func 13)) #[(Go.Operand.tmp 36), (Go.Operand.tmp 38)] #[26, 3]))) (ty := 32) (dst := some 39) 13 #[Value.pointer f, Value.int .i64 ((l_.len : Nat) : Int)] (by kernel_rfl) (fun ww => by kernel_rfl) (Calls.mono h ?_)
        rintro _ w4 ⟨v39, rfl, h⟩
        refine ⟨_, rfl, ?_⟩
        refine reg_end [(0, Value.slice l_.ptr l_.len l_.cap), (2, Value.slice ups.ptr ups.len ups.cap), (4, Value.pointer (some ⟨b_, 0, none⟩)), (7, Value.pointer f), (9, Value.pointer s)] (by kernel_rfl) (by kernel_rfl) ?_
        change WpE _ _ c_towpathlaw16_FeedOrder_29 _ _ _
        refine wpE_seq (x := c_towpathlaw16_FeedOrder_30) (y := c_towpathlaw16_FeedOrder_32) (by kernel_rfl) ?_
        refine wpE_region (id := 7) (ops := r_towpathlaw16_FeedOrder_30) (by kernel_rfl) ?_
        refine reg_run [.plain] 1 [(0, [], Value.slice l_.ptr l_.len l_.cap), (2, [], Value.slice ups.ptr ups.len ups.cap), (4, [], Value.pointer (some ⟨b_, 0, none⟩)), (7, [], Value.pointer f), (9, [], Value.pointer s), (40, [], Value.pointer (some ⟨b_, 0, none⟩))] (by kernel_rfl) (by kernel_rfl) ?_
        obtain ⟨mark, hc, h⟩ := h
        refine reg_load1 (t := 3) (a := (Go.Operand.tmp 40)) (b := b_) (o := 0) (ty := 3) (dst := some 41) (by kernel_rfl) (by kernel_rfl) (by kernel_rfl) hc ?_
        refine reg_run [.plain] 3 [(0, [], Value.slice l_.ptr l_.len l_.cap), (2, [], Value.slice ups.ptr ups.len ups.cap), (4, [], Value.pointer (some ⟨b_, 0, none⟩)), (7, [], Value.pointer f), (9, [], Value.pointer s), (11, [], Value.int .i64 mark)] (by kernel_rfl) (by kernel_rfl) ?_
        refine reg_end [(0, Value.slice l_.ptr l_.len l_.cap), (2, Value.slice ups.ptr ups.len ups.cap), (4, Value.pointer (some ⟨b_, 0, none⟩)), (7, Value.pointer f), (9, Value.pointer s), (11, Value.int .i64 mark)] (by kernel_rfl) (by kernel_rfl) ?_
        change WpE _ _ c_towpathlaw16_FeedOrder_32 _ _ _
        refine wpE_seq (x := c_towpathlaw16_FeedOrder_33) (y := c_towpathlaw16_FeedOrder_35) (by kernel_rfl) ?_
        refine wpE_region (id := 8) (ops := r_towpathlaw16_FeedOrder_33) (by kernel_rfl) ?_
        refine reg_run [.plain] 1 [(0, [], Value.slice l_.ptr l_.len l_.cap), (2, [], Value.slice ups.ptr ups.len ups.cap), (4, [], Value.pointer (some ⟨b_, 0, none⟩)), (7, [], Value.pointer f), (9, [], Value.pointer s), (11, [], Value.int .i64 mark), (42, [], Value.pointer (some ⟨b_, 0, none⟩))] (by kernel_rfl) (by kernel_rfl) ?_
        obtain ⟨v43, hc, h⟩ := h
        refine reg_load1 (t := 3) (a := (Go.Operand.tmp 42)) (b := b_) (o := 0) (ty := 3) (dst := some 43) (by kernel_rfl) (by kernel_rfl) (by kernel_rfl) hc ?_
        refine reg_run [.plain, .plain] 4 [(0, [], Value.slice l_.ptr l_.len l_.cap), (2, [], Value.slice ups.ptr ups.len ups.cap), (4, [], Value.pointer (some ⟨b_, 0, none⟩)), (7, [], Value.pointer f), (9, [], Value.pointer s), (11, [], Value.int .i64 mark), (12, [], Value.int .i64 (IntKind.i64.wrap (v43 + 1)))] (by kernel_rfl) (by kernel_rfl) ?_
        refine reg_end [(0, Value.slice l_.ptr l_.len l_.cap), (2, Value.slice ups.ptr ups.len ups.cap), (4, Value.pointer (some ⟨b_, 0, none⟩)), (7, Value.pointer f), (9, Value.pointer s), (11, Value.int .i64 mark), (12, Value.int .i64 (IntKind.i64.wrap (v43 + 1)))] (by kernel_rfl) (by kernel_rfl) ?_
        change WpE _ _ c_towpathlaw16_FeedOrder_35 _ _ _
        refine wpE_seq (x := c_towpathlaw16_FeedOrder_36) (y := c_towpathlaw16_FeedOrder_38) (by kernel_rfl) ?_
        refine wpE_region (id := 9) (ops := r_towpathlaw16_FeedOrder_36) (by kernel_rfl) ?_
        refine reg_run [.plain] 1 [(0, [], Value.slice l_.ptr l_.len l_.cap), (2, [], Value.slice ups.ptr ups.len ups.cap), (4, [], Value.pointer (some ⟨b_, 0, none⟩)), (7, [], Value.pointer f), (9, [], Value.pointer s), (11, [], Value.int .i64 mark), (12, [], Value.int .i64 (IntKind.i64.wrap (v43 + 1))), (13, [], Value.int .i64 0)] (by kernel_rfl) (by kernel_rfl) ?_
        refine reg_end [(0, Value.slice l_.ptr l_.len l_.cap), (2, Value.slice ups.ptr ups.len ups.cap), (4, Value.pointer (some ⟨b_, 0, none⟩)), (7, Value.pointer f), (9, Value.pointer s), (11, Value.int .i64 mark), (12, Value.int .i64 (IntKind.i64.wrap (v43 + 1))), (13, Value.int .i64 0)] (by kernel_rfl) (by kernel_rfl) ?_
        change WpE _ _ c_towpathlaw16_FeedOrder_38 _ _ _
        refine wpE_seq (x := c_towpathlaw16_FeedOrder_39) (y := c_towpathlaw16_FeedOrder_120) (by kernel_rfl) ?_
        refine wpE_seq (x := c_towpathlaw16_FeedOrder_40) (y := c_towpathlaw16_FeedOrder_42) (by kernel_rfl) ?_
        refine wpE_region (id := 10) (ops := r_towpathlaw16_FeedOrder_40) (by kernel_rfl) ?_
        refine reg_run [.plain] 1 [(0, [], Value.slice l_.ptr l_.len l_.cap), (2, [], Value.slice ups.ptr ups.len ups.cap), (4, [], Value.pointer (some ⟨b_, 0, none⟩)), (7, [], Value.pointer f), (9, [], Value.pointer s), (11, [], Value.int .i64 mark), (12, [], Value.int .i64 (IntKind.i64.wrap (v43 + 1))), (13, [], Value.int .i64 0), (14, [], Value.int .i64 0)] (by kernel_rfl) (by kernel_rfl) ?_
        refine reg_end [(0, Value.slice l_.ptr l_.len l_.cap), (2, Value.slice ups.ptr ups.len ups.cap), (4, Value.pointer (some ⟨b_, 0, none⟩)), (7, Value.pointer f), (9, Value.pointer s), (11, Value.int .i64 mark), (12, Value.int .i64 (IntKind.i64.wrap (v43 + 1))), (13, Value.int .i64 0), (14, Value.int .i64 0)] (by kernel_rfl) (by kernel_rfl) ?_
        change WpE _ _ c_towpathlaw16_FeedOrder_42 _ _ _
        refine wpE_block (id := 0) (x := c_towpathlaw16_FeedOrder_43) (by kernel_rfl) ?_
        obtain ⟨I, μ, h0, hr⟩ := h
        refine wpE_loop (x := c_towpathlaw16_FeedOrder_44) (by kernel_rfl) (fun m l w => ∃ (mark1 : Int) (next : Int) (reads : Int) (i : Int), l = [(0, Value.slice l_.ptr l_.len l_.cap), (2, Value.slice ups.ptr ups.len ups.cap), (4, Value.pointer (some ⟨b_, 0, none⟩)), (7, Value.pointer f), (9, Value.pointer s), (11, Value.int .i64 mark1), (12, Value.int .i64 next), (13, Value.int .i64 reads), (14, Value.int .i64 i)] ∧ I mark1 next reads i w ∧ μ mark1 next reads i w = m) (l' := [(0, Value.slice l_.ptr l_.len l_.cap), (2, Value.slice ups.ptr ups.len ups.cap), (4, Value.pointer (some ⟨b_, 0, none⟩)), (7, Value.pointer f), (9, Value.pointer s), (11, Value.int .i64 mark), (12, Value.int .i64 (IntKind.i64.wrap (v43 + 1))), (13, Value.int .i64 0), (14, Value.int .i64 0)]) (Sub.mk (by kernel_rfl)) ⟨mark, (IntKind.i64.wrap (v43 + 1)), 0, 0, rfl, h0, rfl⟩ ?_
        rintro _ _ w5 ⟨mark1, next, reads, i, rfl, hI, rfl⟩
        obtain ⟨again_, again__h, h⟩ : ∃ again_ : Int → Int → Int → Int → World → Prop, (∀ mark1' next' reads' i' w', again_ mark1' next' reads' i' w' → I mark1' next' reads' i' w' ∧ μ mark1' next' reads' i' w' < μ mark1 next reads i w5) ∧ F_towpathlaw16_FeedOrder_L0 l_ ups R b_ f s again_ mark1 next reads i w5 := ⟨_, fun _ _ _ _ _ h => h, hr mark1 next reads i w5 hI⟩
        clear h0 hI
        unfold F_towpathlaw16_FeedOrder_L0 at h
        refine wpE_seq (x := c_towpathlaw16_FeedOrder_45) (y := c_towpathlaw16_FeedOrder_51) (by kernel_rfl) ?_
        refine wpE_seq (x := c_towpathlaw16_FeedOrder_46) (y := c_towpathlaw16_FeedOrder_48) (by kernel_rfl) ?_
        refine wpE_region (id := 11) (ops := r_towpathlaw16_FeedOrder_46) (by kernel_rfl) ?_
        refine reg_run [.plain, .plain, .plain, .plain, .plain, .plain, .plain, .pick] 8 [(0, [], Value.slice l_.ptr l_.len l_.cap), (2, [], Value.slice ups.ptr ups.len ups.cap), (4, [], Value.pointer (some ⟨b_, 0, none⟩)), (7, [], Value.pointer f), (9, [], Value.pointer s), (11, [], Value.int .i64 mark1), (12, [], Value.int .i64 next), (13, [], Value.int .i64 reads), (14, [], Value.int .i64 i), (52, [], Value.bool ((decide (i < ((ups.len : Nat) : Int))) && (decide (i < 400))))] (by kernel_rfl) (by kernel_rfl) ?_
        refine reg_end [(0, Value.slice l_.ptr l_.len l_.cap), (2, Value.slice ups.ptr ups.len ups.cap), (4, Value.pointer (some ⟨b_, 0, none⟩)), (7, Value.pointer f), (9, Value.pointer s), (11, Value.int .i64 mark1), (12, Value.int .i64 next), (13, Value.int .i64 reads), (14, Value.int .i64 i), (52, Value.bool ((decide (i < ((ups.len : Nat) : Int))) && (decide (i < 400))))] (by kernel_rfl) (by kernel_rfl) ?_
        change WpE _ _ c_towpathlaw16_FeedOrder_48 _ _ _
        refine wpE_cond (o := (Operand.tmp 52)) (b := ((decide (i < ((ups.len : Nat) : Int))) && (decide (i < 400)))) (x := c_towpathlaw16_FeedOrder_49) (y := c_towpathlaw16_FeedOrder_50) (by kernel_rfl) (by kernel_rfl) (fun hb => ?_) (fun hb => ?_)
        · replace h := h.1 hb
          refine wpE_skip (by kernel_rfl) ?_
          change WpE _ _ c_towpathlaw16_FeedOrder_51 _ _ _
          refine wpE_seq_cut (x := c_towpathlaw16_FeedOrder_52) (y := c_towpathlaw16_FeedOrder_118) (by kernel_rfl) (fun l w => ∃ (mark2 : Int) (next1 : Int) (reads1 : Int), l = [(0, Value.slice l_.ptr l_.len l_.cap), (2, Value.slice ups.ptr ups.len ups.cap), (4, Value.pointer (some ⟨b_, 0, none⟩)), (7, Value.pointer f), (9, Value.pointer s), (11, Value.int .i64 mark2), (12, Value.int .i64 next1), (13, Value.int .i64 reads1), (14, Value.int .i64 i)] ∧ F_towpathlaw16_FeedOrder_k1 i again_ mark2 next1 reads1 w) ?_ ?_
          · refine wpE_block (id := 1) (x := c_towpathlaw16_FeedOrder_53) (by kernel_rfl) ?_
            refine wpE_seq (x := c_towpathlaw16_FeedOrder_54) (y := c_towpathlaw16_FeedOrder_56) (by kernel_rfl) ?_
            refine wpE_region (id := 13) (ops := r_towpathlaw16_FeedOrder_54) (by kernel_rfl) ?_
            refine reg_run [.plain, .plain, .plain] 3 [(0, [], Value.slice l_.ptr l_.len l_.cap), (2, [], Value.slice ups.ptr ups.len ups.cap), (4, [], Value.pointer (some ⟨b_, 0, none⟩)), (7, [], Value.pointer f), (9, [], Value.pointer s), (11, [], Value.int .i64 mark1), (12, [], Value.int .i64 next), (13, [], Value.int .i64 reads), (14, [], Value.int .i64 i), (55, [], Value.int .i64 mark1), (56, [], Value.slice ups.ptr ups.len ups.cap), (57, [], Value.int .i64 i)] (by kernel_rfl) (by kernel_rfl) ?_
            obtain ⟨hp_19, h⟩ := h
            refine reg_conv [(0, [], Value.slice l_.ptr l_.len l_.cap), (2, [], Value.slice ups.ptr ups.len ups.cap), (4, [], Value.pointer (some ⟨b_, 0, none⟩)), (7, [], Value.pointer f), (9, [], Value.pointer s), (11, [], Value.int .i64 mark1), (12, [], Value.int .i64 next), (13, [], Value.int .i64 reads), (14, [], Value.int .i64 i), (55, [], Value.int .i64 mark1), (56, [], Value.slice (some ⟨(pblk ups.ptr), (poff ups.ptr), none⟩) ups.len ups.cap), (57, [], Value.int .i64 i)] (congrArg (fun pp => ([(0, [], Value.slice l_.ptr l_.len l_.cap), (2, [], Value.slice ups.ptr ups.len ups.cap), (4, [], Value.pointer (some ⟨b_, 0, none⟩)), (7, [], Value.pointer f), (9, [], Value.pointer s), (11, [], Value.int .i64 mark1), (12, [], Value.int .i64 next), (13, [], Value.int .i64 reads), (14, [], Value.int .i64 i), (55, [], Value.int .i64 mark1), (56, [], Value.slice pp ups.len ups.cap), (57, [], Value.int .i64 i)] : GEnv)) hp_19) ?_
            obtain ⟨h0, h1, h⟩ := h
            refine reg_indexS1 (t := 46) (e := 5) (x := (Go.Operand.tmp 56)) (ix := (Go.Operand.tmp 57)) (b := (pblk ups.ptr)) (o := (poff ups.ptr)) (l := ups.len) (c := ups.cap) (k := .i64) (j := i) (ty := 0) (dst := some 58) (by kernel_rfl) (by kernel_rfl) (by kernel_rfl) (by kernel_rfl) (by kernel_rfl) h0 h1 ?_
            refine reg_run [] 4 [(0, [], Value.slice l_.ptr l_.len l_.cap), (2, [], Value.slice ups.ptr ups.len ups.cap), (4, [], Value.pointer (some ⟨b_, 0, none⟩)), (7, [], Value.pointer f), (9, [], Value.pointer s), (11, [], Value.int .i64 mark1), (12, [], Value.int .i64 next), (13, [], Value.int .i64 reads), (14, [], Value.int .i64 i), (55, [], Value.int .i64 mark1), (58, [], Value.pointer (some ⟨(pblk ups.ptr), (poff ups.ptr) + i.toNat, none⟩))] (by kernel_rfl) (by kernel_rfl) ?_
            obtain ⟨v59, hc, h⟩ := h
            refine reg_load1 (t := 5) (a := (Go.Operand.tmp 58)) (b := (pblk ups.ptr)) (o := ((poff ups.ptr) + i.toNat)) (ty := 5) (dst := some 59) (by kernel_rfl) (by kernel_rfl) (by kernel_rfl) hc ?_
            refine reg_run [.plain, .plain, .plain, .plain, .plain, .plain, .plain] 12 [(0, [], Value.slice l_.ptr l_.len l_.cap), (2, [], Value.slice ups.ptr ups.len ups.cap), (4, [], Value.pointer (some ⟨b_, 0, none⟩)), (7, [], Value.pointer f), (9, [], Value.pointer s), (11, [], Value.int .i64 (if ((l_.len : Nat) : Int) < (IntKind.i64.wrap (mark1 + (IntKind.i64.wrap (Int.tmod v59 4)))) then ((l_.len : Nat) : Int) else (IntKind.i64.wrap (mark1 + (IntKind.i64.wrap (Int.tmod v59 4)))))), (12, [], Value.int .i64 next), (13, [], Value.int .i64 reads), (14, [], Value.int .i64 i)] (by kernel_rfl) (by kernel_rfl) ?_
            refine reg_end [(0, Value.slice l_.ptr l_.len l_.cap), (2, Value.slice ups.ptr ups.len ups.cap), (4, Value.pointer (some ⟨b_, 0, none⟩)), (7, Value.pointer f), (9, Value.pointer s), (11, Value.int .i64 (if ((l_.len : Nat) : Int) < (IntKind.i64.wrap (mark1 + (IntKind.i64.wrap (Int.tmod v59 4)))) then ((l_.len : Nat) : Int) else (IntKind.i64.wrap (mark1 + (IntKind.i64.wrap (Int.tmod v59 4)))))), (12, Value.int .i64 next), (13, Value.int .i64 reads), (14, Value.int .i64 i)] (by kernel_rfl) (by kernel_rfl) ?_
            change WpE _ _ c_towpathlaw16_FeedOrder_56 _ _ _
            refine wpE_seq (x := c_towpathlaw16_FeedOrder_57) (y := c_towpathlaw16_FeedOrder_59) (by kernel_rfl) ?_
            refine wpE_region (id := 14) (ops := r_towpathlaw16_FeedOrder_57) (by kernel_rfl) ?_
            refine reg_run [.plain, .plain] 2 [(0, [], Value.slice l_.ptr l_.len l_.cap), (2, [], Value.slice ups.ptr ups.len ups.cap), (4, [], Value.pointer (some ⟨b_, 0, none⟩)), (7, [], Value.pointer f), (9, [], Value.pointer s), (11, [], Value.int .i64 (if ((l_.len : Nat) : Int) < (IntKind.i64.wrap (mark1 + (IntKind.i64.wrap (Int.tmod v59 4)))) then ((l_.len : Nat) : Int) else (IntKind.i64.wrap (mark1 + (IntKind.i64.wrap (Int.tmod v59 4)))))), (12, [], Value.int .i64 next), (13, [], Value.int .i64 reads), (14, [], Value.int .i64 i), (66, [], Value.pointer f), (67, [], Value.int .i64 (if ((l_.len : Nat) : Int) < (IntKind.i64.wrap (mark1 + (IntKind.i64.wrap (Int.tmod v59 4)))) then ((l_.len : Nat) : Int) else (IntKind.i64.wrap (mark1 + (IntKind.i64.wrap (Int.tmod v59 4))))))] (by kernel_rfl) (by kernel_rfl) ?_
            refine reg_enter (op := (Go.Op.call (Go.Call.mk (Go.Callee.value (Go.Operand.func 18)) #[(Go.Operand.tmp 66), (Go.Operand.tmp 67)] #[26, 3]))) (ty := 38) (dst := some 68) 18 #[Value.pointer f, Value.int .i64 (if ((l_.len : Nat) : Int) < (IntKind.i64.wrap (mark1 + (IntKind.i64.wrap (Int.tmod v59 4)))) then ((l_.len : Nat) : Int) else (IntKind.i64.wrap (mark1 + (IntKind.i64.wrap (Int.tmod v59 4)))))] (by kernel_rfl) (fun ww => by kernel_rfl) (Calls.mono h ?_)
            rintro _ w7 ⟨v68, rfl, h⟩
            refine ⟨_, rfl, ?_⟩
            refine reg_end [(0, Value.slice l_.ptr l_.len l_.cap), (2, Value.slice ups.ptr ups.len ups.cap), (4, Value.pointer (some ⟨b_, 0, none⟩)), (7, Value.pointer f), (9, Value.pointer s), (11, Value.int .i64 (if ((l_.len : Nat) : Int) < (IntKind.i64.wrap (mark1 + (IntKind.i64.wrap (Int.tmod v59 4)))) then ((l_.len : Nat) : Int) else (IntKind.i64.wrap (mark1 + (IntKind.i64.wrap (Int.tmod v59 4)))))), (12, Value.int .i64 next), (13, Value.int .i64 reads), (14, Value.int .i64 i), (68, Value.int .u8 v68)] (by kernel_rfl) (by kernel_rfl) ?_
            change WpE _ _ c_towpathlaw16_FeedOrder_59 _ _ _
            refine wpE_block (id := 2) (x := c_towpathlaw16_FeedOrder_60) (by kernel_rfl) ?_
            refine wpE_seq (x := c_towpathlaw16_FeedOrder_61) (y := c_towpathlaw16_FeedOrder_63) (by kernel_rfl) ?_
            refine wpE_region (id := 15) (ops := r_towpathlaw16_FeedOrder_61) (by kernel_rfl) ?_
            refine reg_run [.plain, .plain] 2 [(0, [], Value.slice l_.ptr l_.len l_.cap), (2, [], Value.slice ups.ptr ups.len ups.cap), (4, [], Value.pointer (some ⟨b_, 0, none⟩)), (7, [], Value.pointer f), (9, [], Value.pointer s), (11, [], Value.int .i64 (if ((l_.len : Nat) : Int) < (IntKind.i64.wrap (mark1 + (IntKind.i64.wrap (Int.tmod v59 4)))) then ((l_.len : Nat) : Int) else (IntKind.i64.wrap (mark1 + (IntKind.i64.wrap (Int.tmod v59 4)))))), (12, [], Value.int .i64 next), (13, [], Value.int .i64 reads), (14, [], Value.int .i64 i), (68, [], Value.int .u8 v68), (69, [], Value.bool (v68 == 1))] (by kernel_rfl) (by kernel_rfl) ?_
            refine reg_end [(0, Value.slice l_.ptr l_.len l_.cap), (2, Value.slice ups.ptr ups.len ups.cap), (4, Value.pointer (some ⟨b_, 0, none⟩)), (7, Value.pointer f), (9, Value.pointer s), (11, Value.int .i64 (if ((l_.len : Nat) : Int) < (IntKind.i64.wrap (mark1 + (IntKind.i64.wrap (Int.tmod v59 4)))) then ((l_.len : Nat) : Int) else (IntKind.i64.wrap (mark1 + (IntKind.i64.wrap (Int.tmod v59 4)))))), (12, Value.int .i64 next), (13, Value.int .i64 reads), (14, Value.int .i64 i), (68, Value.int .u8 v68), (69, Value.bool (v68 == 1))] (by kernel_rfl) (by kernel_rfl) ?_
            change WpE _ _ c_towpathlaw16_FeedOrder_63 _ _ _
            refine wpE_cond (o := (Operand.tmp 69)) (b := (v68 == 1)) (x := c_towpathlaw16_FeedOrder_64) (y := c_towpathlaw16_FeedOrder_79) (by kernel_rfl) (by kernel_rfl) (fun hb => ?_) (fun hb => ?_)
            · replace h := h.1 hb
              refine wpE_seq (x := c_towpathlaw16_FeedOrder_65) (y := c_towpathlaw16_FeedOrder_67) (by kernel_rfl) ?_
              refine wpE_region (id := 16) (ops := r_towpathlaw16_FeedOrder_65) (by kernel_rfl) ?_
              refine reg_run [.plain] 1 [(0, [], Value.slice l_.ptr l_.len l_.cap), (2, [], Value.slice ups.ptr ups.len ups.cap), (4, [], Value.pointer (some ⟨b_, 0, none⟩)), (7, [], Value.pointer f), (9, [], Value.pointer s), (11, [], Value.int .i64 (if ((l_.len : Nat) : Int) < (IntKind.i64.wrap (mark1 + (IntKind.i64.wrap (Int.tmod v59 4)))) then ((l_.len : Nat) : Int) else (IntKind.i64.wrap (mark1 + (IntKind.i64.wrap (Int.tmod v59 4)))))), (12, [], Value.int .i64 next), (13, [], Value.int .i64 reads), (14, [], Value.int .i64 i), (72, [], Value.pointer f)] (by kernel_rfl) (by kernel_rfl) ?_
              refine reg_enter (op := (Go.Op.call (Go.Call.mk (Go.Callee.value (Go.Operand.func 14)) #[(Go.Operand.tmp 72)] #[26]))) (ty := 34) (dst := some 73) 14 #[Value.pointer f] (by kernel_rfl) (fun ww => by kernel_rfl) (Calls.mono h ?_)
              rintro _ w8 ⟨n_, e, rfl, h⟩
              refine ⟨_, rfl, ?_⟩
              refine reg_run [.plain, .plain, .plain, .plain, .plain] 7 [(0, [], Value.slice l_.ptr l_.len l_.cap), (2, [], Value.slice ups.ptr ups.len ups.cap), (4, [], Value.pointer (some ⟨b_, 0, none⟩)), (7, [], Value.pointer f), (9, [], Value.pointer s), (11, [], Value.int .i64 (if ((l_.len : Nat) : Int) < (IntKind.i64.wrap (mark1 + (IntKind.i64.wrap (Int.tmod v59 4)))) then ((l_.len : Nat) : Int) else (IntKind.i64.wrap (mark1 + (IntKind.i64.wrap (Int.tmod v59 4)))))), (12, [], Value.int .i64 next), (13, [], Value.int .i64 reads), (14, [], Value.int .i64 i), (15, [], Value.int .i64 n_), (16, [], Value.int .i64 e)] (by kernel_rfl) (by kernel_rfl) ?_
              refine reg_end [(0, Value.slice l_.ptr l_.len l_.cap), (2, Value.slice ups.ptr ups.len ups.cap), (4, Value.pointer (some ⟨b_, 0, none⟩)), (7, Value.pointer f), (9, Value.pointer s), (11, Value.int .i64 (if ((l_.len : Nat) : Int) < (IntKind.i64.wrap (mark1 + (IntKind.i64.wrap (Int.tmod v59 4)))) then ((l_.len : Nat) : Int) else (IntKind.i64.wrap (mark1 + (IntKind.i64.wrap (Int.tmod v59 4)))))), (12, Value.int .i64 next), (13, Value.int .i64 reads), (14, Value.int .i64 i), (15, Value.int .i64 n_), (16, Value.int .i64 e)] (by kernel_rfl) (by kernel_rfl) ?_
              change WpE _ _ c_towpathlaw16_FeedOrder_67 _ _ _
              refine wpE_seq (x := c_towpathlaw16_FeedOrder_68) (y := c_towpathlaw16_FeedOrder_77) (by kernel_rfl) ?_
              refine wpE_seq (x := c_towpathlaw16_FeedOrder_69) (y := c_towpathlaw16_FeedOrder_71) (by kernel_rfl) ?_
              refine wpE_region (id := 17) (ops := r_towpathlaw16_FeedOrder_69) (by kernel_rfl) ?_
              refine reg_run [.plain, .plain, .plain, .plain, .plain, .plain, .pick] 7 [(0, [], Value.slice l_.ptr l_.len l_.cap), (2, [], Value.slice ups.ptr ups.len ups.cap), (4, [], Value.pointer (some ⟨b_, 0, none⟩)), (7, [], Value.pointer f), (9, [], Value.pointer s), (11, [], Value.int .i64 (if ((l_.len : Nat) : Int) < (IntKind.i64.wrap (mark1 + (IntKind.i64.wrap (Int.tmod v59 4)))) then ((l_.len : Nat) : Int) else (IntKind.i64.wrap (mark1 + (IntKind.i64.wrap (Int.tmod v59 4)))))), (12, [], Value.int .i64 next), (13, [], Value.int .i64 reads), (14, [], Value.int .i64 i), (82, [], Value.bool ((e != 0) || (n_ != next)))] (by kernel_rfl) (by kernel_rfl) ?_
              refine reg_end [(0, Value.slice l_.ptr l_.len l_.cap), (2, Value.slice ups.ptr ups.len ups.cap), (4, Value.pointer (some ⟨b_, 0, none⟩)), (7, Value.pointer f), (9, Value.pointer s), (11, Value.int .i64 (if ((l_.len : Nat) : Int) < (IntKind.i64.wrap (mark1 + (IntKind.i64.wrap (Int.tmod v59 4)))) then ((l_.len : Nat) : Int) else (IntKind.i64.wrap (mark1 + (IntKind.i64.wrap (Int.tmod v59 4)))))), (12, Value.int .i64 next), (13, Value.int .i64 reads), (14, Value.int .i64 i), (82, Value.bool ((e != 0) || (n_ != next)))] (by kernel_rfl) (by kernel_rfl) ?_
              change WpE _ _ c_towpathlaw16_FeedOrder_71 _ _ _
              refine wpE_cond (o := (Operand.tmp 82)) (b := ((e != 0) || (n_ != next))) (x := c_towpathlaw16_FeedOrder_72) (y := c_towpathlaw16_FeedOrder_76) (by kernel_rfl) (by kernel_rfl) (fun hb => ?_) (fun hb => ?_)
              · replace h := h.1 hb
                refine wpE_seq (x := c_towpathlaw16_FeedOrder_73) (y := c_towpathlaw16_FeedOrder_75) (by kernel_rfl) ?_
                refine wpE_region (id := 18) (ops := r_towpathlaw16_FeedOrder_73) (by kernel_rfl) ?_
                refine reg_run [.plain] 1 [(6, [], Value.bool false)] (by kernel_rfl) (by kernel_rfl) ?_
                refine reg_end [(6, Value.bool false)] (by kernel_rfl) (by kernel_rfl) ?_
                change WpE _ _ c_towpathlaw16_FeedOrder_75 _ _ _
                refine wpE_ret (by kernel_rfl) ?_
                repeat (first | refine seqQ_ret ?_ | refine blockQ_ret ?_ | refine loopQ_ret ?_ | refine cutQ_ret ?_)
                exact retS (rs := [(Go.ResultVar.tmp 6)]) (v := Value.bool false) (by kernel_rfl) (⟨by kernel_rfl, trivial⟩) ⟨false, rfl, h⟩
              · replace h := h.2 hb
                refine wpE_skip (by kernel_rfl) ?_
                change WpE _ _ c_towpathlaw16_FeedOrder_77 _ _ _
                refine wpE_region (id := 19) (ops := r_towpathlaw16_FeedOrder_77) (by kernel_rfl) ?_
                refine reg_run [.plain, .plain, .plain] 3 [(0, [], Value.slice l_.ptr l_.len l_.cap), (2, [], Value.slice ups.ptr ups.len ups.cap), (4, [], Value.pointer (some ⟨b_, 0, none⟩)), (7, [], Value.pointer f), (9, [], Value.pointer s), (11, [], Value.int .i64 (if ((l_.len : Nat) : Int) < (IntKind.i64.wrap (mark1 + (IntKind.i64.wrap (Int.tmod v59 4)))) then ((l_.len : Nat) : Int) else (IntKind.i64.wrap (mark1 + (IntKind.i64.wrap (Int.tmod v59 4)))))), (12, [], Value.int .i64 next), (13, [], Value.int .i64 (IntKind.i64.wrap (reads + 1))), (14, [], Value.int .i64 i)] (by kernel_rfl) (by kernel_rfl) ?_
                refine reg_end [(0, Value.slice l_.ptr l_.len l_.cap), (2, Value.slice ups.ptr ups.len ups.cap), (4, Value.pointer (some ⟨b_, 0, none⟩)), (7, Value.pointer f), (9, Value.pointer s), (11, Value.int .i64 (if ((l_.len : Nat) : Int) < (IntKind.i64.wrap (mark1 + (IntKind.i64.wrap (Int.tmod v59 4)))) then ((l_.len : Nat) : Int) else (IntKind.i64.wrap (mark1 + (IntKind.i64.wrap (Int.tmod v59 4)))))), (12, Value.int .i64 next), (13, Value.int .i64 (IntKind.i64.wrap (reads + 1))), (14, Value.int .i64 i)] (by kernel_rfl) (by kernel_rfl) ?_
                exact ⟨[(0, Value.slice l_.ptr l_.len l_.cap), (2, Value.slice ups.ptr ups.len ups.cap), (4, Value.pointer (some ⟨b_, 0, none⟩)), (7, Value.pointer f), (9, Value.pointer s), (11, Value.int .i64 (if ((l_.len : Nat) : Int) < (IntKind.i64.wrap (mark1 + (IntKind.i64.wrap (Int.tmod v59 4)))) then ((l_.len : Nat) : Int) else (IntKind.i64.wrap (mark1 + (IntKind.i64.wrap (Int.tmod v59 4)))))), (12, Value.int .i64 next), (13, Value.int .i64 (IntKind.i64.wrap (reads + 1))), (14, Value.int .i64 i)], Sub.mk (by kernel_rfl), (if ((l_.len : Nat) : Int) < (IntKind.i64.wrap (mark1 + (IntKind.i64.wrap (Int.tmod v59 4)))) then ((l_.len : Nat) : Int) else (IntKind.i64.wrap (mark1 + (IntKind.i64.wrap (Int.tmod v59 4))))), next, (IntKind.i64.wrap (reads + 1)), rfl, h⟩
            · replace h := h.2 hb
              refine wpE_seq (x := c_towpathlaw16_FeedOrder_80) (y := c_towpathlaw16_FeedOrder_82) (by kernel_rfl) ?_
              refine wpE_region (id := 20) (ops := r_towpathlaw16_FeedOrder_80) (by kernel_rfl) ?_
              refine reg_run [.plain, .plain] 2 [(0, [], Value.slice l_.ptr l_.len l_.cap), (2, [], Value.slice ups.ptr ups.len ups.cap), (4, [], Value.pointer (some ⟨b_, 0, none⟩)), (7, [], Value.pointer f), (9, [], Value.pointer s), (11, [], Value.int .i64 (if ((l_.len : Nat) : Int) < (IntKind.i64.wrap (mark1 + (IntKind.i64.wrap (Int.tmod v59 4)))) then ((l_.len : Nat) : Int) else (IntKind.i64.wrap (mark1 + (IntKind.i64.wrap (Int.tmod v59 4)))))), (12, [], Value.int .i64 next), (13, [], Value.int .i64 reads), (14, [], Value.int .i64 i), (68, [], Value.int .u8 v68), (85, [], Value.bool (v68 == 2))] (by kernel_rfl) (by kernel_rfl) ?_
              refine reg_end [(0, Value.slice l_.ptr l_.len l_.cap), (2, Value.slice ups.ptr ups.len ups.cap), (4, Value.pointer (some ⟨b_, 0, none⟩)), (7, Value.pointer f), (9, Value.pointer s), (11, Value.int .i64 (if ((l_.len : Nat) : Int) < (IntKind.i64.wrap (mark1 + (IntKind.i64.wrap (Int.tmod v59 4)))) then ((l_.len : Nat) : Int) else (IntKind.i64.wrap (mark1 + (IntKind.i64.wrap (Int.tmod v59 4)))))), (12, Value.int .i64 next), (13, Value.int .i64 reads), (14, Value.int .i64 i), (68, Value.int .u8 v68), (85, Value.bool (v68 == 2))] (by kernel_rfl) (by kernel_rfl) ?_
              change WpE _ _ c_towpathlaw16_FeedOrder_82 _ _ _
              refine wpE_cond (o := (Operand.tmp 85)) (b := (v68 == 2)) (x := c_towpathlaw16_FeedOrder_83) (y := c_towpathlaw16_FeedOrder_98) (by kernel_rfl) (by kernel_rfl) (fun hb => ?_) (fun hb => ?_)
              · replace h := h.1 hb
                refine wpE_seq (x := c_towpathlaw16_FeedOrder_84) (y := c_towpathlaw16_FeedOrder_86) (by kernel_rfl) ?_
                refine wpE_region (id := 21) (ops := r_towpathlaw16_FeedOrder_84) (by kernel_rfl) ?_
                refine reg_run [.plain] 1 [(0, [], Value.slice l_.ptr l_.len l_.cap), (2, [], Value.slice ups.ptr ups.len ups.cap), (4, [], Value.pointer (some ⟨b_, 0, none⟩)), (7, [], Value.pointer f), (9, [], Value.pointer s), (11, [], Value.int .i64 (if ((l_.len : Nat) : Int) < (IntKind.i64.wrap (mark1 + (IntKind.i64.wrap (Int.tmod v59 4)))) then ((l_.len : Nat) : Int) else (IntKind.i64.wrap (mark1 + (IntKind.i64.wrap (Int.tmod v59 4)))))), (12, [], Value.int .i64 next), (13, [], Value.int .i64 reads), (14, [], Value.int .i64 i), (88, [], Value.pointer f)] (by kernel_rfl) (by kernel_rfl) ?_
                refine reg_enter (op := (Go.Op.call (Go.Call.mk (Go.Callee.value (Go.Operand.func 20)) #[(Go.Operand.tmp 88)] #[26]))) (ty := 34) (dst := some 89) 20 #[Value.pointer f] (by kernel_rfl) (fun ww => by kernel_rfl) (Calls.mono h ?_)
                rintro _ w9 ⟨n_1, e1, rfl, h⟩
                refine ⟨_, rfl, ?_⟩
                refine reg_run [.plain, .plain, .plain, .plain, .plain] 7 [(0, [], Value.slice l_.ptr l_.len l_.cap), (2, [], Value.slice ups.ptr ups.len ups.cap), (4, [], Value.pointer (some ⟨b_, 0, none⟩)), (7, [], Value.pointer f), (9, [], Value.pointer s), (11, [], Value.int .i64 (if ((l_.len : Nat) : Int) < (IntKind.i64.wrap (mark1 + (IntKind.i64.wrap (Int.tmod v59 4)))) then ((l_.len : Nat) : Int) else (IntKind.i64.wrap (mark1 + (IntKind.i64.wrap (Int.tmod v59 4)))))), (12, [], Value.int .i64 next), (13, [], Value.int .i64 reads), (14, [], Value.int .i64 i), (17, [], Value.int .i64 n_1), (18, [], Value.int .i64 e1)] (by kernel_rfl) (by kernel_rfl) ?_
                refine reg_end [(0, Value.slice l_.ptr l_.len l_.cap), (2, Value.slice ups.ptr ups.len ups.cap), (4, Value.pointer (some ⟨b_, 0, none⟩)), (7, Value.pointer f), (9, Value.pointer s), (11, Value.int .i64 (if ((l_.len : Nat) : Int) < (IntKind.i64.wrap (mark1 + (IntKind.i64.wrap (Int.tmod v59 4)))) then ((l_.len : Nat) : Int) else (IntKind.i64.wrap (mark1 + (IntKind.i64.wrap (Int.tmod v59 4)))))), (12, Value.int .i64 next), (13, Value.int .i64 reads), (14, Value.int .i64 i), (17, Value.int .i64 n_1), (18, Value.int .i64 e1)] (by kernel_rfl) (by kernel_rfl) ?_
                change WpE _ _ c_towpathlaw16_FeedOrder_86 _ _ _
                refine wpE_seq (x := c_towpathlaw16_FeedOrder_87) (y := c_towpathlaw16_FeedOrder_96) (by kernel_rfl) ?_
                refine wpE_seq_cut (x := c_towpathlaw16_FeedOrder_88) (y := c_towpathlaw16_FeedOrder_90) (by kernel_rfl) (fun l w => ∃ (t105 : Bool), l = [(0, Value.slice l_.ptr l_.len l_.cap), (2, Value.slice ups.ptr ups.len ups.cap), (4, Value.pointer (some ⟨b_, 0, none⟩)), (7, Value.pointer f), (9, Value.pointer s), (11, Value.int .i64 (if ((l_.len : Nat) : Int) < (IntKind.i64.wrap (mark1 + (IntKind.i64.wrap (Int.tmod v59 4)))) then ((l_.len : Nat) : Int) else (IntKind.i64.wrap (mark1 + (IntKind.i64.wrap (Int.tmod v59 4)))))), (12, Value.int .i64 next), (13, Value.int .i64 reads), (14, Value.int .i64 i), (105, Value.bool t105)] ∧ F_towpathlaw16_FeedOrder_k2 l_ R mark1 next reads i again_ v59 t105 w) ?_ ?_
                · refine wpE_region (id := 22) (ops := r_towpathlaw16_FeedOrder_88) (by kernel_rfl) ?_
                  refine reg_run [.plain, .plain, .plain, .plain, .plain, .plain, .pick, .plain, .plain] 9 [(0, [], Value.slice l_.ptr l_.len l_.cap), (2, [], Value.slice ups.ptr ups.len ups.cap), (4, [], Value.pointer (some ⟨b_, 0, none⟩)), (7, [], Value.pointer f), (9, [], Value.pointer s), (11, [], Value.int .i64 (if ((l_.len : Nat) : Int) < (IntKind.i64.wrap (mark1 + (IntKind.i64.wrap (Int.tmod v59 4)))) then ((l_.len : Nat) : Int) else (IntKind.i64.wrap (mark1 + (IntKind.i64.wrap (Int.tmod v59 4)))))), (12, [], Value.int .i64 next), (13, [], Value.int .i64 reads), (14, [], Value.int .i64 i), (17, [], Value.int .i64 n_1), (99, [], Value.bool ((e1 != 0) || (n_1 != next))), (100, [(99, false)], Value.pointer (some ⟨b_, 1, none⟩))] (by kernel_rfl) (by kernel_rfl) ?_
                  refine reg_split 99 ((e1 != 0) || (n_1 != next)) (by kernel_rfl) (fun hb => ?_) (fun hb => ?_)
                  · replace h := h.1 hb
                    refine reg_run [] 9 [(0, [], Value.slice l_.ptr l_.len l_.cap), (2, [], Value.slice ups.ptr ups.len ups.cap), (4, [], Value.pointer (some ⟨b_, 0, none⟩)), (7, [], Value.pointer f), (9, [], Value.pointer s), (11, [], Value.int .i64 (if ((l_.len : Nat) : Int) < (IntKind.i64.wrap (mark1 + (IntKind.i64.wrap (Int.tmod v59 4)))) then ((l_.len : Nat) : Int) else (IntKind.i64.wrap (mark1 + (IntKind.i64.wrap (Int.tmod v59 4)))))), (12, [], Value.int .i64 next), (13, [], Value.int .i64 reads), (14, [], Value.int .i64 i), (17, [], Value.int .i64 n_1), (99, [], Value.bool true), (100, [], undef)] (by kernel_rfl) (by kernel_rfl) ?_
                    refine reg_run [.skip, .skip, .skip, .skip, .plain] 14 [(0, [], Value.slice l_.ptr l_.len l_.cap), (2, [], Value.slice ups.ptr ups.len ups.cap), (4, [], Value.pointer (some ⟨b_, 0, none⟩)), (7, [], Value.pointer f), (9, [], Value.pointer s), (11, [], Value.int .i64 (if ((l_.len : Nat) : Int) < (IntKind.i64.wrap (mark1 + (IntKind.i64.wrap (Int.tmod v59 4)))) then ((l_.len : Nat) : Int) else (IntKind.i64.wrap (mark1 + (IntKind.i64.wrap (Int.tmod v59 4)))))), (12, [], Value.int .i64 next), (13, [], Value.int .i64 reads), (14, [], Value.int .i64 i), (105, [], Value.bool true)] (by kernel_rfl) (by kernel_rfl) ?_
                    refine reg_end [(0, Value.slice l_.ptr l_.len l_.cap), (2, Value.slice ups.ptr ups.len ups.cap), (4, Value.pointer (some ⟨b_, 0, none⟩)), (7, Value.pointer f), (9, Value.pointer s), (11, Value.int .i64 (if ((l_.len : Nat) : Int) < (IntKind.i64.wrap (mark1 + (IntKind.i64.wrap (Int.tmod v59 4)))) then ((l_.len : Nat) : Int) else (IntKind.i64.wrap (mark1 + (IntKind.i64.wrap (Int.tmod v59 4)))))), (12, Value.int .i64 next), (13, Value.int .i64 reads), (14, Value.int .i64 i), (105, Value.bool true)] (by kernel_rfl) (by kernel_rfl) ?_
                    exact ⟨[(0, Value.slice l_.ptr l_.len l_.cap), (2, Value.slice ups.ptr ups.len ups.cap), (4, Value.pointer (some ⟨b_, 0, none⟩)), (7, Value.pointer f), (9, Value.pointer s), (11, Value.int .i64 (if ((l_.len : Nat) : Int) < (IntKind.i64.wrap (mark1 + (IntKind.i64.wrap (Int.tmod v59 4)))) then ((l_.len : Nat) : Int) else (IntKind.i64.wrap (mark1 + (IntKind.i64.wrap (Int.tmod v59 4)))))), (12, Value.int .i64 next), (13, Value.int .i64 reads), (14, Value.int .i64 i), (105, Value.bool true)], Sub.mk (by kernel_rfl), true, rfl, h⟩
                  · replace h := h.2 hb
                    refine reg_run [] 9 [(0, [], Value.slice l_.ptr l_.len l_.cap), (2, [], Value.slice ups.ptr ups.len ups.cap), (4, [], Value.pointer (some ⟨b_, 0, none⟩)), (7, [], Value.pointer f), (9, [], Value.pointer s), (11, [], Value.int .i64 (if ((l_.len : Nat) : Int) < (IntKind.i64.wrap (mark1 + (IntKind.i64.wrap (Int.tmod v59 4)))) then ((l_.len : Nat) : Int) else (IntKind.i64.wrap (mark1 + (IntKind.i64.wrap (Int.tmod v59 4)))))), (12, [], Value.int .i64 next), (13, [], Value.int .i64 reads), (14, [], Value.int .i64 i), (17, [], Value.int .i64 n_1), (99, [], Value.bool false), (100, [], Value.pointer (some ⟨b_, 1, none⟩))] (by kernel_rfl) (by kernel_rfl) ?_
                    refine reg_run [] 9 [(0, [], Value.slice l_.ptr l_.len l_.cap), (2, [], Value.slice ups.ptr ups.len ups.cap), (4, [], Value.pointer (some ⟨b_, 0, none⟩)), (7, [], Value.pointer f), (9, [], Value.pointer s), (11, [], Value.int .i64 (if ((l_.len : Nat) : Int) < (IntKind.i64.wrap (mark1 + (IntKind.i64.wrap (Int.tmod v59 4)))) then ((l_.len : Nat) : Int) else (IntKind.i64.wrap (mark1 + (IntKind.i64.wrap (Int.tmod v59 4)))))), (12, [], Value.int .i64 next), (13, [], Value.int .i64 reads), (14, [], Value.int .i64 i), (17, [], Value.int .i64 n_1), (99, [], Value.bool false), (100, [], Value.pointer (some ⟨b_, 1, none⟩))] (by kernel_rfl) (by kernel_rfl) ?_
                    obtain ⟨v101, hc, h⟩ := h
                    refine reg_load1 (t := 23) (a := (Go.Operand.tmp 100)) (b := b_) (o := 1) (ty := 23) (dst := some 101) (by kernel_rfl) (by kernel_rfl) (by kernel_rfl) hc ?_
                    refine reg_run [.sure] 11 [(0, [], Value.slice l_.ptr l_.len l_.cap), (2, [], Value.slice ups.ptr ups.len ups.cap), (4, [], Value.pointer (some ⟨b_, 0, none⟩)), (7, [], Value.pointer f), (9, [], Value.pointer s), (11, [], Value.int .i64 (if ((l_.len : Nat) : Int) < (IntKind.i64.wrap (mark1 + (IntKind.i64.wrap (Int.tmod v59 4)))) then ((l_.len : Nat) : Int) else (IntKind.i64.wrap (mark1 + (IntKind.i64.wrap (Int.tmod v59 4)))))), (12, [], Value.int .i64 next), (13, [], Value.int .i64 reads), (14, [], Value.int .i64 i), (99, [], Value.bool false), (101, [], Value.slice v101.ptr v101.len v101.cap), (102, [], Value.int .i64 n_1)] (by kernel_rfl) (by kernel_rfl) ?_
                    refine reg_enter (op := (Go.Op.call (Go.Call.mk (Go.Callee.value (Go.Operand.func 21)) #[(Go.Operand.tmp 101), (Go.Operand.tmp 102)] #[23, 3]))) (ty := 4) (dst := some 103) 21 #[Value.slice v101.ptr v101.len v101.cap, Value.int .i64 n_1] (by kernel_rfl) (fun ww => by kernel_rfl) (Calls.mono h ?_)
                    rintro _ w11 ⟨v103, rfl, h⟩
                    refine ⟨_, rfl, ?_⟩
                    refine reg_run [.sure, .plain] 14 [(0, [], Value.slice l_.ptr l_.len l_.cap), (2, [], Value.slice ups.ptr ups.len ups.cap), (4, [], Value.pointer (some ⟨b_, 0, none⟩)), (7, [], Value.pointer f), (9, [], Value.pointer s), (11, [], Value.int .i64 (if ((l_.len : Nat) : Int) < (IntKind.i64.wrap (mark1 + (IntKind.i64.wrap (Int.tmod v59 4)))) then ((l_.len : Nat) : Int) else (IntKind.i64.wrap (mark1 + (IntKind.i64.wrap (Int.tmod v59 4)))))), (12, [], Value.int .i64 next), (13, [], Value.int .i64 reads), (14, [], Value.int .i64 i), (105, [], Value.bool (!v103))] (by kernel_rfl) (by kernel_rfl) ?_
                    refine reg_end [(0, Value.slice l_.ptr l_.len l_.cap), (2, Value.slice ups.ptr ups.len ups.cap), (4, Value.pointer (some ⟨b_, 0, none⟩)), (7, Value.pointer f), (9, Value.pointer s), (11, Value.int .i64 (if ((l_.len : Nat) : Int) < (IntKind.i64.wrap (mark1 + (IntKind.i64.wrap (Int.tmod v59 4)))) then ((l_.len : Nat) : Int) else (IntKind.i64.wrap (mark1 + (IntKind.i64.wrap (Int.tmod v59 4)))))), (12, Value.int .i64 next), (13, Value.int .i64 reads), (14, Value.int .i64 i), (105, Value.bool (!v103))] (by kernel_rfl) (by kernel_rfl) ?_
                    exact ⟨[(0, Value.slice l_.ptr l_.len l_.cap), (2, Value.slice ups.ptr ups.len ups.cap), (4, Value.pointer (some ⟨b_, 0, none⟩)), (7, Value.pointer f), (9, Value.pointer s), (11, Value.int .i64 (if ((l_.len : Nat) : Int) < (IntKind.i64.wrap (mark1 + (IntKind.i64.wrap (Int.tmod v59 4)))) then ((l_.len : Nat) : Int) else (IntKind.i64.wrap (mark1 + (IntKind.i64.wrap (Int.tmod v59 4)))))), (12, Value.int .i64 next), (13, Value.int .i64 reads), (14, Value.int .i64 i), (105, Value.bool (!v103))], Sub.mk (by kernel_rfl), (!v103), rfl, h⟩
                · rintro _ w10 ⟨t105, rfl, h⟩
                  unfold F_towpathlaw16_FeedOrder_k2 at h
                  refine wpE_cond (o := (Operand.tmp 105)) (b := t105) (x := c_towpathlaw16_FeedOrder_91) (y := c_towpathlaw16_FeedOrder_95) (by kernel_rfl) (by kernel_rfl) (fun hb => ?_) (fun hb => ?_)
                  · replace h := h.1 hb
                    refine wpE_seq (x := c_towpathlaw16_FeedOrder_92) (y := c_towpathlaw16_FeedOrder_94) (by kernel_rfl) ?_
                    refine wpE_region (id := 23) (ops := r_towpathlaw16_FeedOrder_92) (by kernel_rfl) ?_
                    refine reg_run [.plain] 1 [(6, [], Value.bool false)] (by kernel_rfl) (by kernel_rfl) ?_
                    refine reg_end [(6, Value.bool false)] (by kernel_rfl) (by kernel_rfl) ?_
                    change WpE _ _ c_towpathlaw16_FeedOrder_94 _ _ _
                    refine wpE_ret (by kernel_rfl) ?_
                    repeat (first | refine seqQ_ret ?_ | refine blockQ_ret ?_ | refine loopQ_ret ?_ | refine cutQ_ret ?_)
                    exact retS (rs := [(Go.ResultVar.tmp 6)]) (v := Value.bool false) (by kernel_rfl) (⟨by kernel_rfl, trivial⟩) ⟨false, rfl, h⟩
                  · replace h := h.2 hb
                    refine wpE_skip (by kernel_rfl) ?_
                    change WpE _ _ c_towpathlaw16_FeedOrder_96 _ _ _
                    refine wpE_region (id := 24) (ops := r_towpathlaw16_FeedOrder_96) (by kernel_rfl) ?_
                    refine reg_run [.plain, .plain, .plain] 3 [(0, [], Value.slice l_.ptr l_.len l_.cap), (2, [], Value.slice ups.ptr ups.len ups.cap), (4, [], Value.pointer (some ⟨b_, 0, none⟩)), (7, [], Value.pointer f), (9, [], Value.pointer s), (11, [], Value.int .i64 (if ((l_.len : Nat) : Int) < (IntKind.i64.wrap (mark1 + (IntKind.i64.wrap (Int.tmod v59 4)))) then ((l_.len : Nat) : Int) else (IntKind.i64.wrap (mark1 + (IntKind.i64.wrap (Int.tmod v59 4)))))), (12, [], Value.int .i64 (IntKind.i64.wrap (next + 1))), (13, [], Value.int .i64 reads), (14, [], Value.int .i64 i)] (by kernel_rfl) (by kernel_rfl) ?_
                    refine reg_end [(0, Value.slice l_.ptr l_.len l_.cap), (2, Value.slice ups.ptr ups.len ups.cap), (4, Value.pointer (some ⟨b_, 0, none⟩)), (7, Value.pointer f), (9, Value.pointer s), (11, Value.int .i64 (if ((l_.len : Nat) : Int) < (IntKind.i64.wrap (mark1 + (IntKind.i64.wrap (Int.tmod v59 4)))) then ((l_.len : Nat) : Int) else (IntKind.i64.wrap (mark1 + (IntKind.i64.wrap (Int.tmod v59 4)))))), (12, Value.int .i64 (IntKind.i64.wrap (next + 1))), (13, Value.int .i64 reads), (14, Value.int .i64 i)] (by kernel_rfl) (by kernel_rfl) ?_
                    exact ⟨[(0, Value.slice l_.ptr l_.len l_.cap), (2, Value.slice ups.ptr ups.len ups.cap), (4, Value.pointer (some ⟨b_, 0, none⟩)), (7, Value.pointer f), (9, Value.pointer s), (11, Value.int .i64 (if ((l_.len : Nat) : Int) < (IntKind.i64.wrap (mark1 + (IntKind.i64.wrap (Int.tmod v59 4)))) then ((l_.len : Nat) : Int) else (IntKind.i64.wrap (mark1 + (IntKind.i64.wrap (Int.tmod v59 4)))))), (12, Value.int .i64 (IntKind.i64.wrap (next + 1))), (13, Value.int .i64 reads), (14, Value.int .i64 i)], Sub.mk (by kernel_rfl), (if ((l_.len : Nat) : Int) < (IntKind.i64.wrap (mark1 + (IntKind.i64.wrap (Int.tmod v59 4)))) then ((l_.len : Nat) : Int) else (IntKind.i64.wrap (mark1 + (IntKind.i64.wrap (Int.tmod v59 4))))), (IntKind.i64.wrap (next + 1)), reads, rfl, h⟩
              · replace h := h.2 hb
                refine wpE_seq (x := c_towpathlaw16_FeedOrder_99) (y := c_towpathlaw16_FeedOrder_101) (by kernel_rfl) ?_
                refine wpE_region (id := 25) (ops := r_towpathlaw16_FeedOrder_99) (by kernel_rfl) ?_
                refine reg_run [.plain, .plain] 2 [(0, [], Value.slice l_.ptr l_.len l_.cap), (2, [], Value.slice ups.ptr ups.len ups.cap), (4, [], Value.pointer (some ⟨b_, 0, none⟩)), (7, [], Value.pointer f), (9, [], Value.pointer s), (11, [], Value.int .i64 (if ((l_.len : Nat) : Int) < (IntKind.i64.wrap (mark1 + (IntKind.i64.wrap (Int.tmod v59 4)))) then ((l_.len : Nat) : Int) else (IntKind.i64.wrap (mark1 + (IntKind.i64.wrap (Int.tmod v59 4)))))), (12, [], Value.int .i64 next), (13, [], Value.int .i64 reads), (14, [], Value.int .i64 i), (108, [], Value.bool (v68 == 3))] (by kernel_rfl) (by kernel_rfl) ?_
                refine reg_end [(0, Value.slice l_.ptr l_.len l_.cap), (2, Value.slice ups.ptr ups.len ups.cap), (4, Value.pointer (some ⟨b_, 0, none⟩)), (7, Value.pointer f), (9, Value.pointer s), (11, Value.int .i64 (if ((l_.len : Nat) : Int) < (IntKind.i64.wrap (mark1 + (IntKind.i64.wrap (Int.tmod v59 4)))) then ((l_.len : Nat) : Int) else (IntKind.i64.wrap (mark1 + (IntKind.i64.wrap (Int.tmod v59 4)))))), (12, Value.int .i64 next), (13, Value.int .i64 reads), (14, Value.int .i64 i), (108, Value.bool (v68 == 3))] (by kernel_rfl) (by kernel_rfl) ?_
                change WpE _ _ c_towpathlaw16_FeedOrder_101 _ _ _
                refine wpE_cond (o := (Operand.tmp 108)) (b := (v68 == 3)) (x := c_towpathlaw16_FeedOrder_102) (y := c_towpathlaw16_FeedOrder_117) (by kernel_rfl) (by kernel_rfl) (fun hb => ?_) (fun hb => ?_)
                · replace h := h.1 hb
                  refine wpE_seq (x := c_towpathlaw16_FeedOrder_103) (y := c_towpathlaw16_FeedOrder_105) (by kernel_rfl) ?_
                  refine wpE_region (id := 26) (ops := r_towpathlaw16_FeedOrder_103) (by kernel_rfl) ?_
                  refine reg_run [.plain, .plain] 2 [(0, [], Value.slice l_.ptr l_.len l_.cap), (2, [], Value.slice ups.ptr ups.len ups.cap), (4, [], Value.pointer (some ⟨b_, 0, none⟩)), (7, [], Value.pointer f), (9, [], Value.pointer s), (11, [], Value.int .i64 (if ((l_.len : Nat) : Int) < (IntKind.i64.wrap (mark1 + (IntKind.i64.wrap (Int.tmod v59 4)))) then ((l_.len : Nat) : Int) else (IntKind.i64.wrap (mark1 + (IntKind.i64.wrap (Int.tmod v59 4)))))), (12, [], Value.int .i64 next), (13, [], Value.int .i64 reads), (14, [], Value.int .i64 i), (111, [], Value.pointer f), (112, [], Value.int .i64 (if ((l_.len : Nat) : Int) < (IntKind.i64.wrap (mark1 + (IntKind.i64.wrap (Int.tmod v59 4)))) then ((l_.len : Nat) : Int) else (IntKind.i64.wrap (mark1 + (IntKind.i64.wrap (Int.tmod v59 4))))))] (by kernel_rfl) (by kernel_rfl) ?_
                  refine reg_enter (op := (Go.Op.call (Go.Call.mk (Go.Callee.value (Go.Operand.func 19)) #[(Go.Operand.tmp 111), (Go.Operand.tmp 112)] #[26, 3]))) (ty := 43) (dst := some 113) 19 #[Value.pointer f, Value.int .i64 (if ((l_.len : Nat) : Int) < (IntKind.i64.wrap (mark1 + (IntKind.i64.wrap (Int.tmod v59 4)))) then ((l_.len : Nat) : Int) else (IntKind.i64.wrap (mark1 + (IntKind.i64.wrap (Int.tmod v59 4)))))] (by kernel_rfl) (fun ww => by kernel_rfl) (Calls.mono h ?_)
                  rintro _ w12 ⟨v113, e2, rfl, h⟩
                  refine ⟨_, rfl, ?_⟩
                  refine reg_run [.plain, .plain, .plain] 6 [(0, [], Value.slice l_.ptr l_.len l_.cap), (2, [], Value.slice ups.ptr ups.len ups.cap), (4, [], Value.pointer (some ⟨b_, 0, none⟩)), (7, [], Value.pointer f), (9, [], Value.pointer s), (11, [], Value.int .i64 (if ((l_.len : Nat) : Int) < (IntKind.i64.wrap (mark1 + (IntKind.i64.wrap (Int.tmod v59 4)))) then ((l_.len : Nat) : Int) else (IntKind.i64.wrap (mark1 + (IntKind.i64.wrap (Int.tmod v59 4)))))), (12, [], Value.int .i64 next), (13, [], Value.int .i64 reads), (14, [], Value.int .i64 i), (114, [], Value.agg #[Value.int .i64 v113.Number, Value.slice v113.Writes.ptr v113.Writes.len v113.Writes.cap]), (115, [], Value.int .i64 e2)] (by kernel_rfl) (by kernel_rfl) ?_
                  refine reg_new (op := (Go.Op.alloc 42)) (ty := 0) (dst := some 19) (fun bb => Value.pointer (some ⟨bb, 0, none⟩)) (Obj.cells ([Value.int .i64 0, Value.slice none 0 0]).toArray ty_api_Txn (0, 0)) (by kernel_rfl) (by kernel_rfl) (fun b_1 w13 hb hw => ?_)
                  replace h := h b_1 w13 hb hw
                  clear hb hw
                  refine reg_run [] 7 [(0, [], Value.slice l_.ptr l_.len l_.cap), (2, [], Value.slice ups.ptr ups.len ups.cap), (4, [], Value.pointer (some ⟨b_, 0, none⟩)), (7, [], Value.pointer f), (9, [], Value.pointer s), (11, [], Value.int .i64 (if ((l_.len : Nat) : Int) < (IntKind.i64.wrap (mark1 + (IntKind.i64.wrap (Int.tmod v59 4)))) then ((l_.len : Nat) : Int) else (IntKind.i64.wrap (mark1 + (IntKind.i64.wrap (Int.tmod v59 4)))))), (12, [], Value.int .i64 next), (13, [], Value.int .i64 reads), (14, [], Value.int .i64 i), (19, [], Value.pointer (some ⟨b_1, 0, none⟩)), (114, [], Value.agg #[Value.int .i64 v113.Number, Value.slice v113.Writes.ptr v113.Writes.len v113.Writes.cap]), (115, [], Value.int .i64 e2)] (by kernel_rfl) (by kernel_rfl) ?_
                  obtain ⟨hc, h⟩ := h
                  refine reg_store (t := 42) (a := (Go.Operand.tmp 19)) (x := (Go.Operand.tmp 114)) (b := b_1) (o := 0) (ty := 0) (dst := none) [Value.int .i64 v113.Number, Value.slice v113.Writes.ptr v113.Writes.len v113.Writes.cap] (by kernel_rfl) (by kernel_rfl) (by kernel_rfl) (k := 2) (by kernel_rfl) (by kernel_rfl) (by kernel_rfl) hc (fun w14 hw => ?_)
                  replace h := h w14 hw
                  clear hw
                  refine reg_run [.plain] 9 [(0, [], Value.slice l_.ptr l_.len l_.cap), (2, [], Value.slice ups.ptr ups.len ups.cap), (4, [], Value.pointer (some ⟨b_, 0, none⟩)), (7, [], Value.pointer f), (9, [], Value.pointer s), (11, [], Value.int .i64 (if ((l_.len : Nat) : Int) < (IntKind.i64.wrap (mark1 + (IntKind.i64.wrap (Int.tmod v59 4)))) then ((l_.len : Nat) : Int) else (IntKind.i64.wrap (mark1 + (IntKind.i64.wrap (Int.tmod v59 4)))))), (12, [], Value.int .i64 next), (13, [], Value.int .i64 reads), (14, [], Value.int .i64 i), (19, [], Value.pointer (some ⟨b_1, 0, none⟩)), (20, [], Value.int .i64 e2)] (by kernel_rfl) (by kernel_rfl) ?_
                  refine reg_end [(0, Value.slice l_.ptr l_.len l_.cap), (2, Value.slice ups.ptr ups.len ups.cap), (4, Value.pointer (some ⟨b_, 0, none⟩)), (7, Value.pointer f), (9, Value.pointer s), (11, Value.int .i64 (if ((l_.len : Nat) : Int) < (IntKind.i64.wrap (mark1 + (IntKind.i64.wrap (Int.tmod v59 4)))) then ((l_.len : Nat) : Int) else (IntKind.i64.wrap (mark1 + (IntKind.i64.wrap (Int.tmod v59 4)))))), (12, Value.int .i64 next), (13, Value.int .i64 reads), (14, Value.int .i64 i), (19, Value.pointer (some ⟨b_1, 0, none⟩)), (20, Value.int .i64 e2)] (by kernel_rfl) (by kernel_rfl) ?_
                  change WpE _ _ c_towpathlaw16_FeedOrder_105 _ _ _
                  refine wpE_seq (x := c_towpathlaw16_FeedOrder_106) (y := c_towpathlaw16_FeedOrder_115) (by kernel_rfl) ?_
                  refine wpE_seq_cut (x := c_towpathlaw16_FeedOrder_107) (y := c_towpathlaw16_FeedOrder_109) (by kernel_rfl) (fun l w => ∃ (t147 : Bool), l = [(0, Value.slice l_.ptr l_.len l_.cap), (2, Value.slice ups.ptr ups.len ups.cap), (4, Value.pointer (some ⟨b_, 0, none⟩)), (7, Value.pointer f), (9, Value.pointer s), (11, Value.int .i64 (if ((l_.len : Nat) : Int) < (IntKind.i64.wrap (mark1 + (IntKind.i64.wrap (Int.tmod v59 4)))) then ((l_.len : Nat) : Int) else (IntKind.i64.wrap (mark1 + (IntKind.i64.wrap (Int.tmod v59 4)))))), (12, Value.int .i64 next), (13, Value.int .i64 reads), (14, Value.int .i64 i), (147, Value.bool t147)] ∧ F_towpathlaw16_FeedOrder_k3 l_ R mark1 next reads i again_ v59 t147 w) ?_ ?_
                  · refine wpE_mixregion (id := 27) (ops := r_towpathlaw16_FeedOrder_107) o_towpathlaw16_FeedOrder_107 (by kernel_rfl) (by kernel_rfl) (by kernel_rfl) (by kernel_rfl) (fun w16 hw => ?_)
                    replace h := h w16 hw
                    clear hw
                    refine mreg_run [.plain, .plain, .plain, .plain] 4 [(0, [], Value.slice l_.ptr l_.len l_.cap), (2, [], Value.slice ups.ptr ups.len ups.cap), (4, [], Value.pointer (some ⟨b_, 0, none⟩)), (7, [], Value.pointer f), (9, [], Value.pointer s), (11, [], Value.int .i64 (if ((l_.len : Nat) : Int) < (IntKind.i64.wrap (mark1 + (IntKind.i64.wrap (Int.tmod v59 4)))) then ((l_.len : Nat) : Int) else (IntKind.i64.wrap (mark1 + (IntKind.i64.wrap (Int.tmod v59 4)))))), (12, [], Value.int .i64 next), (13, [], Value.int .i64 reads), (14, [], Value.int .i64 i), (19, [], Value.pointer (some ⟨b_1, 0, none⟩)), (118, [], Value.bool (e2 != 0)), (119, [(118, false)], Value.pointer (some ⟨b_1, 0, none⟩))] (by kernel_rfl) (by kernel_rfl) ?_
                    refine mreg_split 118 (e2 != 0) (by kernel_rfl) (fun hb => ?_) (fun hb => ?_)
                    · replace h := h.1 hb
                      refine mreg_run [] 4 [(0, [], Value.slice l_.ptr l_.len l_.cap), (2, [], Value.slice ups.ptr ups.len ups.cap), (4, [], Value.pointer (some ⟨b_, 0, none⟩)), (7, [], Value.pointer f), (9, [], Value.pointer s), (11, [], Value.int .i64 (if ((l_.len : Nat) : Int) < (IntKind.i64.wrap (mark1 + (IntKind.i64.wrap (Int.tmod v59 4)))) then ((l_.len : Nat) : Int) else (IntKind.i64.wrap (mark1 + (IntKind.i64.wrap (Int.tmod v59 4)))))), (12, [], Value.int .i64 next), (13, [], Value.int .i64 reads), (14, [], Value.int .i64 i), (19, [], Value.pointer (some ⟨b_1, 0, none⟩)), (118, [], Value.bool true), (119, [], undef)] (by kernel_rfl) (by kernel_rfl) ?_
                      refine mreg_run [.skip, .skip, .skip, .plain, .plain, .skip, .skip, .skip, .skip, .plain, .plain, .skip, .skip, .skip, .skip, .skip, .skip, .plain, .plain, .skip, .skip, .skip, .skip, .skip, .skip, .skip, .skip, .plain] 32 [(0, [], Value.slice l_.ptr l_.len l_.cap), (2, [], Value.slice ups.ptr ups.len ups.cap), (4, [], Value.pointer (some ⟨b_, 0, none⟩)), (7, [], Value.pointer f), (9, [], Value.pointer s), (11, [], Value.int .i64 (if ((l_.len : Nat) : Int) < (IntKind.i64.wrap (mark1 + (IntKind.i64.wrap (Int.tmod v59 4)))) then ((l_.len : Nat) : Int) else (IntKind.i64.wrap (mark1 + (IntKind.i64.wrap (Int.tmod v59 4)))))), (12, [], Value.int .i64 next), (13, [], Value.int .i64 reads), (14, [], Value.int .i64 i), (147, [], Value.bool true)] (by kernel_rfl) (by kernel_rfl) ?_
                      refine mreg_end [(0, Value.slice l_.ptr l_.len l_.cap), (2, Value.slice ups.ptr ups.len ups.cap), (4, Value.pointer (some ⟨b_, 0, none⟩)), (7, Value.pointer f), (9, Value.pointer s), (11, Value.int .i64 (if ((l_.len : Nat) : Int) < (IntKind.i64.wrap (mark1 + (IntKind.i64.wrap (Int.tmod v59 4)))) then ((l_.len : Nat) : Int) else (IntKind.i64.wrap (mark1 + (IntKind.i64.wrap (Int.tmod v59 4)))))), (12, Value.int .i64 next), (13, Value.int .i64 reads), (14, Value.int .i64 i), (147, Value.bool true)] (by kernel_rfl) (by kernel_rfl) (by kernel_rfl) ?_
                      exact ⟨[(0, Value.slice l_.ptr l_.len l_.cap), (2, Value.slice ups.ptr ups.len ups.cap), (4, Value.pointer (some ⟨b_, 0, none⟩)), (7, Value.pointer f), (9, Value.pointer s), (11, Value.int .i64 (if ((l_.len : Nat) : Int) < (IntKind.i64.wrap (mark1 + (IntKind.i64.wrap (Int.tmod v59 4)))) then ((l_.len : Nat) : Int) else (IntKind.i64.wrap (mark1 + (IntKind.i64.wrap (Int.tmod v59 4)))))), (12, Value.int .i64 next), (13, Value.int .i64 reads), (14, Value.int .i64 i), (147, Value.bool true)], Sub.mk (by kernel_rfl), true, rfl, h⟩
                    · replace h := h.2 hb
                      refine mreg_run [] 4 [(0, [], Value.slice l_.ptr l_.len l_.cap), (2, [], Value.slice ups.ptr ups.len ups.cap), (4, [], Value.pointer (some ⟨b_, 0, none⟩)), (7, [], Value.pointer f), (9, [], Value.pointer s), (11, [], Value.int .i64 (if ((l_.len : Nat) : Int) < (IntKind.i64.wrap (mark1 + (IntKind.i64.wrap (Int.tmod v59 4)))) then ((l_.len : Nat) : Int) else (IntKind.i64.wrap (mark1 + (IntKind.i64.wrap (Int.tmod v59 4)))))), (12, [], Value.int .i64 next), (13, [], Value.int .i64 reads), (14, [], Value.int .i64 i), (19, [], Value.pointer (some ⟨b_1, 0, none⟩)), (118, [], Value.bool false), (119, [], Value.pointer (some ⟨b_1, 0, none⟩))] (by kernel_rfl) (by kernel_rfl) ?_
                      refine mreg_run [] 4 [(0, [], Value.slice l_.ptr l_.len l_.cap), (2, [], Value.slice ups.ptr ups.len ups.cap), (4, [], Value.pointer (some ⟨b_, 0, none⟩)), (7, [], Value.pointer f), (9, [], Value.pointer s), (11, [], Value.int .i64 (if ((l_.len : Nat) : Int) < (IntKind.i64.wrap (mark1 + (IntKind.i64.wrap (Int.tmod v59 4)))) then ((l_.len : Nat) : Int) else (IntKind.i64.wrap (mark1 + (IntKind.i64.wrap (Int.tmod v59 4)))))), (12, [], Value.int .i64 next), (13, [], Value.int .i64 reads), (14, [], Value.int .i64 i), (19, [], Value.pointer (some ⟨b_1, 0, none⟩)), (118, [], Value.bool false), (119, [], Value.pointer (some ⟨b_1, 0, none⟩))] (by kernel_rfl) (by kernel_rfl) ?_
                      obtain ⟨v120, hc, h⟩ := h
                      refine mreg_load1 (i := 4) (by kernel_rfl) (t := 3) (a := (Go.Operand.tmp 119)) (b := b_1) (o := 0) (ty := 3) (dst := some 120) (by kernel_rfl) (by kernel_rfl) (by kernel_rfl) hc ?_
                      refine mreg_run [.sure, .sure, .plain, .plain, .plain] 10 [(0, [], Value.slice l_.ptr l_.len l_.cap), (2, [], Value.slice ups.ptr ups.len ups.cap), (4, [], Value.pointer (some ⟨b_, 0, none⟩)), (7, [], Value.pointer f), (9, [], Value.pointer s), (11, [], Value.int .i64 (if ((l_.len : Nat) : Int) < (IntKind.i64.wrap (mark1 + (IntKind.i64.wrap (Int.tmod v59 4)))) then ((l_.len : Nat) : Int) else (IntKind.i64.wrap (mark1 + (IntKind.i64.wrap (Int.tmod v59 4)))))), (12, [], Value.int .i64 next), (13, [], Value.int .i64 reads), (14, [], Value.int .i64 i), (19, [], Value.pointer (some ⟨b_1, 0, none⟩)), (124, [], Value.bool (v120 != next)), (125, [(124, false)], Value.pointer (some ⟨b_, 1, none⟩))] (by kernel_rfl) (by kernel_rfl) ?_
                      refine mreg_split 124 (v120 != next) (by kernel_rfl) (fun hb => ?_) (fun hb => ?_)
                      · replace h := h.1 hb
                        refine mreg_run [] 10 [(0, [], Value.slice l_.ptr l_.len l_.cap), (2, [], Value.slice ups.ptr ups.len ups.cap), (4, [], Value.pointer (some ⟨b_, 0, none⟩)), (7, [], Value.pointer f), (9, [], Value.pointer s), (11, [], Value.int .i64 (if ((l_.len : Nat) : Int) < (IntKind.i64.wrap (mark1 + (IntKind.i64.wrap (Int.tmod v59 4)))) then ((l_.len : Nat) : Int) else (IntKind.i64.wrap (mark1 + (IntKind.i64.wrap (Int.tmod v59 4)))))), (12, [], Value.int .i64 next), (13, [], Value.int .i64 reads), (14, [], Value.int .i64 i), (19, [], Value.pointer (some ⟨b_1, 0, none⟩)), (124, [], Value.bool true), (125, [], undef)] (by kernel_rfl) (by kernel_rfl) ?_
                        refine mreg_run [.skip, .skip, .skip, .plain, .plain, .skip, .skip, .skip, .skip, .skip, .skip, .plain, .plain, .skip, .skip, .skip, .skip, .skip, .skip, .skip, .skip, .plain] 32 [(0, [], Value.slice l_.ptr l_.len l_.cap), (2, [], Value.slice ups.ptr ups.len ups.cap), (4, [], Value.pointer (some ⟨b_, 0, none⟩)), (7, [], Value.pointer f), (9, [], Value.pointer s), (11, [], Value.int .i64 (if ((l_.len : Nat) : Int) < (IntKind.i64.wrap (mark1 + (IntKind.i64.wrap (Int.tmod v59 4)))) then ((l_.len : Nat) : Int) else (IntKind.i64.wrap (mark1 + (IntKind.i64.wrap (Int.tmod v59 4)))))), (12, [], Value.int .i64 next), (13, [], Value.int .i64 reads), (14, [], Value.int .i64 i), (147, [], Value.bool true)] (by kernel_rfl) (by kernel_rfl) ?_
                        refine mreg_end [(0, Value.slice l_.ptr l_.len l_.cap), (2, Value.slice ups.ptr ups.len ups.cap), (4, Value.pointer (some ⟨b_, 0, none⟩)), (7, Value.pointer f), (9, Value.pointer s), (11, Value.int .i64 (if ((l_.len : Nat) : Int) < (IntKind.i64.wrap (mark1 + (IntKind.i64.wrap (Int.tmod v59 4)))) then ((l_.len : Nat) : Int) else (IntKind.i64.wrap (mark1 + (IntKind.i64.wrap (Int.tmod v59 4)))))), (12, Value.int .i64 next), (13, Value.int .i64 reads), (14, Value.int .i64 i), (147, Value.bool true)] (by kernel_rfl) (by kernel_rfl) (by kernel_rfl) ?_
                        exact ⟨[(0, Value.slice l_.ptr l_.len l_.cap), (2, Value.slice ups.ptr ups.len ups.cap), (4, Value.pointer (some ⟨b_, 0, none⟩)), (7, Value.pointer f), (9, Value.pointer s), (11, Value.int .i64 (if ((l_.len : Nat) : Int) < (IntKind.i64.wrap (mark1 + (IntKind.i64.wrap (Int.tmod v59 4)))) then ((l_.len : Nat) : Int) else (IntKind.i64.wrap (mark1 + (IntKind.i64.wrap (Int.tmod v59 4)))))), (12, Value.int .i64 next), (13, Value.int .i64 reads), (14, Value.int .i64 i), (147, Value.bool true)], Sub.mk (by kernel_rfl), true, rfl, h⟩
                      · replace h := h.2 hb
                        refine mreg_run [] 10 [(0, [], Value.slice l_.ptr l_.len l_.cap), (2, [], Value.slice ups.ptr ups.len ups.cap), (4, [], Value.pointer (some ⟨b_, 0, none⟩)), (7, [], Value.pointer f), (9, [], Value.pointer s), (11, [], Value.int .i64 (if ((l_.len : Nat) : Int) < (IntKind.i64.wrap (mark1 + (IntKind.i64.wrap (Int.tmod v59 4)))) then ((l_.len : Nat) : Int) else (IntKind.i64.wrap (mark1 + (IntKind.i64.wrap (Int.tmod v59 4)))))), (12, [], Value.int .i64 next), (13, [], Value.int .i64 reads), (14, [], Value.int .i64 i), (19, [], Value.pointer (some ⟨b_1, 0, none⟩)), (124, [], Value.bool false), (125, [], Value.pointer (some ⟨b_, 1, none⟩))] (by kernel_rfl) (by kernel_rfl) ?_
                        refine mreg_run [] 10 [(0, [], Value.slice l_.ptr l_.len l_.cap), (2, [], Value.slice ups.ptr ups.len ups.cap), (4, [], Value.pointer (some ⟨b_, 0, none⟩)), (7, [], Value.pointer f), (9, [], Value.pointer s), (11, [], Value.int .i64 (if ((l_.len : Nat) : Int) < (IntKind.i64.wrap (mark1 + (IntKind.i64.wrap (Int.tmod v59 4)))) then ((l_.len : Nat) : Int) else (IntKind.i64.wrap (mark1 + (IntKind.i64.wrap (Int.tmod v59 4)))))), (12, [], Value.int .i64 next), (13, [], Value.int .i64 reads), (14, [], Value.int .i64 i), (19, [], Value.pointer (some ⟨b_1, 0, none⟩)), (124, [], Value.bool false), (125, [], Value.pointer (some ⟨b_, 1, none⟩))] (by kernel_rfl) (by kernel_rfl) ?_
                        obtain ⟨v126, hc, h⟩ := h
                        refine mreg_load1 (i := 10) (by kernel_rfl) (t := 23) (a := (Go.Operand.tmp 125)) (b := b_) (o := 1) (ty := 23) (dst := some 126) (by kernel_rfl) (by kernel_rfl) (by kernel_rfl) hc ?_
                        refine mreg_run [.sure] 12 [(0, [], Value.slice l_.ptr l_.len l_.cap), (2, [], Value.slice ups.ptr ups.len ups.cap), (4, [], Value.pointer (some ⟨b_, 0, none⟩)), (7, [], Value.pointer f), (9, [], Value.pointer s), (11, [], Value.int .i64 (if ((l_.len : Nat) : Int) < (IntKind.i64.wrap (mark1 + (IntKind.i64.wrap (Int.tmod v59 4)))) then ((l_.len : Nat) : Int) else (IntKind.i64.wrap (mark1 + (IntKind.i64.wrap (Int.tmod v59 4)))))), (12, [], Value.int .i64 next), (13, [], Value.int .i64 reads), (14, [], Value.int .i64 i), (19, [], Value.pointer (some ⟨b_1, 0, none⟩)), (124, [], Value.bool false), (126, [], Value.slice v126.ptr v126.len v126.cap), (127, [], Value.int .i64 next)] (by kernel_rfl) (by kernel_rfl) ?_
                        refine mreg_enter (op := (Go.Op.call (Go.Call.mk (Go.Callee.value (Go.Operand.func 21)) #[(Go.Operand.tmp 126), (Go.Operand.tmp 127)] #[23, 3]))) (ty := 4) (dst := some 128) 12 [8, 10, 11, 2, 7, 9, 1, 6, 0, 4, 5, 3] [] 21 #[Value.slice v126.ptr v126.len v126.cap, Value.int .i64 next] (by kernel_rfl) (by kernel_rfl) (by kernel_rfl) (by kernel_rfl) (by kernel_rfl) (fun ww => by kernel_rfl) (Calls.mono h ?_)
                        rintro _ w17 ⟨v128, rfl, h⟩
                        refine ⟨_, rfl, trivial, ?_⟩
                        refine mreg_run [.plain, .plain, .plain, .plain, .plain, .plain] 19 [(0, [], Value.slice l_.ptr l_.len l_.cap), (2, [], Value.slice ups.ptr ups.len ups.cap), (4, [], Value.pointer (some ⟨b_, 0, none⟩)), (7, [], Value.pointer f), (9, [], Value.pointer s), (11, [], Value.int .i64 (if ((l_.len : Nat) : Int) < (IntKind.i64.wrap (mark1 + (IntKind.i64.wrap (Int.tmod v59 4)))) then ((l_.len : Nat) : Int) else (IntKind.i64.wrap (mark1 + (IntKind.i64.wrap (Int.tmod v59 4)))))), (12, [], Value.int .i64 next), (13, [], Value.int .i64 reads), (14, [], Value.int .i64 i), (19, [], Value.pointer (some ⟨b_1, 0, none⟩)), (130, [], Value.bool v128), (133, [(130, false)], Value.int .i64 (IntKind.i64.wrap (next - (if ((l_.len : Nat) : Int) < (IntKind.i64.wrap (mark1 + (IntKind.i64.wrap (Int.tmod v59 4)))) then ((l_.len : Nat) : Int) else (IntKind.i64.wrap (mark1 + (IntKind.i64.wrap (Int.tmod v59 4)))))))), (134, [(130, false)], Value.pointer (some ⟨b_, 2, none⟩))] (by kernel_rfl) (by kernel_rfl) ?_
                        refine mreg_split 130 v128 (by kernel_rfl) (fun hb => ?_) (fun hb => ?_)
                        · replace h := h.1 hb
                          refine mreg_run [] 19 [(0, [], Value.slice l_.ptr l_.len l_.cap), (2, [], Value.slice ups.ptr ups.len ups.cap), (4, [], Value.pointer (some ⟨b_, 0, none⟩)), (7, [], Value.pointer f), (9, [], Value.pointer s), (11, [], Value.int .i64 (if ((l_.len : Nat) : Int) < (IntKind.i64.wrap (mark1 + (IntKind.i64.wrap (Int.tmod v59 4)))) then ((l_.len : Nat) : Int) else (IntKind.i64.wrap (mark1 + (IntKind.i64.wrap (Int.tmod v59 4)))))), (12, [], Value.int .i64 next), (13, [], Value.int .i64 reads), (14, [], Value.int .i64 i), (19, [], Value.pointer (some ⟨b_1, 0, none⟩)), (130, [], Value.bool true), (133, [], undef), (134, [], undef)] (by kernel_rfl) (by kernel_rfl) ?_
                          refine mreg_run [.skip, .skip, .plain, .plain, .skip, .skip, .skip, .skip, .skip, .skip, .skip, .skip, .plain] 32 [(0, [], Value.slice l_.ptr l_.len l_.cap), (2, [], Value.slice ups.ptr ups.len ups.cap), (4, [], Value.pointer (some ⟨b_, 0, none⟩)), (7, [], Value.pointer f), (9, [], Value.pointer s), (11, [], Value.int .i64 (if ((l_.len : Nat) : Int) < (IntKind.i64.wrap (mark1 + (IntKind.i64.wrap (Int.tmod v59 4)))) then ((l_.len : Nat) : Int) else (IntKind.i64.wrap (mark1 + (IntKind.i64.wrap (Int.tmod v59 4)))))), (12, [], Value.int .i64 next), (13, [], Value.int .i64 reads), (14, [], Value.int .i64 i), (147, [], Value.bool true)] (by kernel_rfl) (by kernel_rfl) ?_
                          refine mreg_end [(0, Value.slice l_.ptr l_.len l_.cap), (2, Value.slice ups.ptr ups.len ups.cap), (4, Value.pointer (some ⟨b_, 0, none⟩)), (7, Value.pointer f), (9, Value.pointer s), (11, Value.int .i64 (if ((l_.len : Nat) : Int) < (IntKind.i64.wrap (mark1 + (IntKind.i64.wrap (Int.tmod v59 4)))) then ((l_.len : Nat) : Int) else (IntKind.i64.wrap (mark1 + (IntKind.i64.wrap (Int.tmod v59 4)))))), (12, Value.int .i64 next), (13, Value.int .i64 reads), (14, Value.int .i64 i), (147, Value.bool true)] (by kernel_rfl) (by kernel_rfl) (by kernel_rfl) ?_
                          exact ⟨[(0, Value.slice l_.ptr l_.len l_.cap), (2, Value.slice ups.ptr ups.len ups.cap), (4, Value.pointer (some ⟨b_, 0, none⟩)), (7, Value.pointer f), (9, Value.pointer s), (11, Value.int .i64 (if ((l_.len : Nat) : Int) < (IntKind.i64.wrap (mark1 + (IntKind.i64.wrap (Int.tmod v59 4)))) then ((l_.len : Nat) : Int) else (IntKind.i64.wrap (mark1 + (IntKind.i64.wrap (Int.tmod v59 4)))))), (12, Value.int .i64 next), (13, Value.int .i64 reads), (14, Value.int .i64 i), (147, Value.bool true)], Sub.mk (by kernel_rfl), true, rfl, h⟩
                        · replace h := h.2 hb
                          refine mreg_run [] 19 [(0, [], Value.slice l_.ptr l_.len l_.cap), (2, [], Value.slice ups.ptr ups.len ups.cap), (4, [], Value.pointer (some ⟨b_, 0, none⟩)), (7, [], Value.pointer f), (9, [], Value.pointer s), (11, [], Value.int .i64 (if ((l_.len : Nat) : Int) < (IntKind.i64.wrap (mark1 + (IntKind.i64.wrap (Int.tmod v59 4)))) then ((l_.len : Nat) : Int) else (IntKind.i64.wrap (mark1 + (IntKind.i64.wrap (Int.tmod v59 4)))))), (12, [], Value.int .i64 next), (13, [], Value.int .i64 reads), (14, [], Value.int .i64 i), (19, [], Value.pointer (some ⟨b_1, 0, none⟩)), (130, [], Value.bool false), (133, [], Value.int .i64 (IntKind.i64.wrap (next - (if ((l_.len : Nat) : Int) < (IntKind.i64.wrap (mark1 + (IntKind.i64.wrap (Int.tmod v59 4)))) then ((l_.len : Nat) : Int) else (IntKind.i64.wrap (mark1 + (IntKind.i64.wrap (Int.tmod v59 4)))))))), (134, [], Value.pointer (some ⟨b_, 2, none⟩))] (by kernel_rfl) (by kernel_rfl) ?_
                          refine mreg_run [] 19 [(0, [], Value.slice l_.ptr l_.len l_.cap), (2, [], Value.slice ups.ptr ups.len ups.cap), (4, [], Value.pointer (some ⟨b_, 0, none⟩)), (7, [], Value.pointer f), (9, [], Value.pointer s), (11, [], Value.int .i64 (if ((l_.len : Nat) : Int) < (IntKind.i64.wrap (mark1 + (IntKind.i64.wrap (Int.tmod v59 4)))) then ((l_.len : Nat) : Int) else (IntKind.i64.wrap (mark1 + (IntKind.i64.wrap (Int.tmod v59 4)))))), (12, [], Value.int .i64 next), (13, [], Value.int .i64 reads), (14, [], Value.int .i64 i), (19, [], Value.pointer (some ⟨b_1, 0, none⟩)), (130, [], Value.bool false), (133, [], Value.int .i64 (IntKind.i64.wrap (next - (if ((l_.len : Nat) : Int) < (IntKind.i64.wrap (mark1 + (IntKind.i64.wrap (Int.tmod v59 4)))) then ((l_.len : Nat) : Int) else (IntKind.i64.wrap (mark1 + (IntKind.i64.wrap (Int.tmod v59 4)))))))), (134, [], Value.pointer (some ⟨b_, 2, none⟩))] (by kernel_rfl) (by kernel_rfl) ?_
                          obtain ⟨v135, hc, h⟩ := h
                          refine mreg_load1 (i := 19) (by kernel_rfl) (t := 3) (a := (Go.Operand.tmp 134)) (b := b_) (o := 2) (ty := 3) (dst := some 135) (by kernel_rfl) (by kernel_rfl) (by kernel_rfl) hc ?_
                          refine mreg_run [.sure, .plain, .plain] 23 [(0, [], Value.slice l_.ptr l_.len l_.cap), (2, [], Value.slice ups.ptr ups.len ups.cap), (4, [], Value.pointer (some ⟨b_, 0, none⟩)), (7, [], Value.pointer f), (9, [], Value.pointer s), (11, [], Value.int .i64 (if ((l_.len : Nat) : Int) < (IntKind.i64.wrap (mark1 + (IntKind.i64.wrap (Int.tmod v59 4)))) then ((l_.len : Nat) : Int) else (IntKind.i64.wrap (mark1 + (IntKind.i64.wrap (Int.tmod v59 4)))))), (12, [], Value.int .i64 next), (13, [], Value.int .i64 reads), (14, [], Value.int .i64 i), (19, [], Value.pointer (some ⟨b_1, 0, none⟩)), (138, [], Value.bool (decide ((IntKind.i64.wrap (next - (if ((l_.len : Nat) : Int) < (IntKind.i64.wrap (mark1 + (IntKind.i64.wrap (Int.tmod v59 4)))) then ((l_.len : Nat) : Int) else (IntKind.i64.wrap (mark1 + (IntKind.i64.wrap (Int.tmod v59 4))))))) > v135)))] (by kernel_rfl) (by kernel_rfl) ?_
                          refine mreg_split 138 (decide ((IntKind.i64.wrap (next - (if ((l_.len : Nat) : Int) < (IntKind.i64.wrap (mark1 + (IntKind.i64.wrap (Int.tmod v59 4)))) then ((l_.len : Nat) : Int) else (IntKind.i64.wrap (mark1 + (IntKind.i64.wrap (Int.tmod v59 4))))))) > v135)) (by kernel_rfl) (fun hb => ?_) (fun hb => ?_)
                          · replace h := h.1 hb
                            refine mreg_run [] 23 [(0, [], Value.slice l_.ptr l_.len l_.cap), (2, [], Value.slice ups.ptr ups.len ups.cap), (4, [], Value.pointer (some ⟨b_, 0, none⟩)), (7, [], Value.pointer f), (9, [], Value.pointer s), (11, [], Value.int .i64 (if ((l_.len : Nat) : Int) < (IntKind.i64.wrap (mark1 + (IntKind.i64.wrap (Int.tmod v59 4)))) then ((l_.len : Nat) : Int) else (IntKind.i64.wrap (mark1 + (IntKind.i64.wrap (Int.tmod v59 4)))))), (12, [], Value.int .i64 next), (13, [], Value.int .i64 reads), (14, [], Value.int .i64 i), (19, [], Value.pointer (some ⟨b_1, 0, none⟩)), (138, [], Value.bool true)] (by kernel_rfl) (by kernel_rfl) ?_
                            refine mreg_run [.skip, .skip, .skip, .skip, .skip, .skip, .skip, .skip, .plain] 32 [(0, [], Value.slice l_.ptr l_.len l_.cap), (2, [], Value.slice ups.ptr ups.len ups.cap), (4, [], Value.pointer (some ⟨b_, 0, none⟩)), (7, [], Value.pointer f), (9, [], Value.pointer s), (11, [], Value.int .i64 (if ((l_.len : Nat) : Int) < (IntKind.i64.wrap (mark1 + (IntKind.i64.wrap (Int.tmod v59 4)))) then ((l_.len : Nat) : Int) else (IntKind.i64.wrap (mark1 + (IntKind.i64.wrap (Int.tmod v59 4)))))), (12, [], Value.int .i64 next), (13, [], Value.int .i64 reads), (14, [], Value.int .i64 i), (147, [], Value.bool true)] (by kernel_rfl) (by kernel_rfl) ?_
                            refine mreg_end [(0, Value.slice l_.ptr l_.len l_.cap), (2, Value.slice ups.ptr ups.len ups.cap), (4, Value.pointer (some ⟨b_, 0, none⟩)), (7, Value.pointer f), (9, Value.pointer s), (11, Value.int .i64 (if ((l_.len : Nat) : Int) < (IntKind.i64.wrap (mark1 + (IntKind.i64.wrap (Int.tmod v59 4)))) then ((l_.len : Nat) : Int) else (IntKind.i64.wrap (mark1 + (IntKind.i64.wrap (Int.tmod v59 4)))))), (12, Value.int .i64 next), (13, Value.int .i64 reads), (14, Value.int .i64 i), (147, Value.bool true)] (by kernel_rfl) (by kernel_rfl) (by kernel_rfl) ?_
                            exact ⟨[(0, Value.slice l_.ptr l_.len l_.cap), (2, Value.slice ups.ptr ups.len ups.cap), (4, Value.pointer (some ⟨b_, 0, none⟩)), (7, Value.pointer f), (9, Value.pointer s), (11, Value.int .i64 (if ((l_.len : Nat) : Int) < (IntKind.i64.wrap (mark1 + (IntKind.i64.wrap (Int.tmod v59 4)))) then ((l_.len : Nat) : Int) else (IntKind.i64.wrap (mark1 + (IntKind.i64.wrap (Int.tmod v59 4)))))), (12, Value.int .i64 next), (13, Value.int .i64 reads), (14, Value.int .i64 i), (147, Value.bool true)], Sub.mk (by kernel_rfl), true, rfl, h⟩
                          · replace h := h.2 hb
                            refine mreg_run [] 23 [(0, [], Value.slice l_.ptr l_.len l_.cap), (2, [], Value.slice ups.ptr ups.len ups.cap), (4, [], Value.pointer (some ⟨b_, 0, none⟩)), (7, [], Value.pointer f), (9, [], Value.pointer s), (11, [], Value.int .i64 (if ((l_.len : Nat) : Int) < (IntKind.i64.wrap (mark1 + (IntKind.i64.wrap (Int.tmod v59 4)))) then ((l_.len : Nat) : Int) else (IntKind.i64.wrap (mark1 + (IntKind.i64.wrap (Int.tmod v59 4)))))), (12, [], Value.int .i64 next), (13, [], Value.int .i64 reads), (14, [], Value.int .i64 i), (19, [], Value.pointer (some ⟨b_1, 0, none⟩)), (138, [], Value.bool false)] (by kernel_rfl) (by kernel_rfl) ?_
                            refine mreg_run [] 23 [(0, [], Value.slice l_.ptr l_.len l_.cap), (2, [], Value.slice ups.ptr ups.len ups.cap), (4, [], Value.pointer (some ⟨b_, 0, none⟩)), (7, [], Value.pointer f), (9, [], Value.pointer s), (11, [], Value.int .i64 (if ((l_.len : Nat) : Int) < (IntKind.i64.wrap (mark1 + (IntKind.i64.wrap (Int.tmod v59 4)))) then ((l_.len : Nat) : Int) else (IntKind.i64.wrap (mark1 + (IntKind.i64.wrap (Int.tmod v59 4)))))), (12, [], Value.int .i64 next), (13, [], Value.int .i64 reads), (14, [], Value.int .i64 i), (19, [], Value.pointer (some ⟨b_1, 0, none⟩)), (138, [], Value.bool false)] (by kernel_rfl) (by kernel_rfl) ?_
                            obtain ⟨v139, hc, h⟩ := h
                            refine mreg_loadN (i := 23) (by kernel_rfl) (t := 42) (a := (Go.Operand.tmp 19)) (b := b_1) (o := 0) (ty := 42) (dst := some 139) [Value.int .i64 v139.Number, Value.slice v139.Writes.ptr v139.Writes.len v139.Writes.cap] (by kernel_rfl) (by kernel_rfl) (by kernel_rfl) (k := 2) (by kernel_rfl) (by kernel_rfl) hc ?_
                            refine mreg_run [.sure, .sure, .sure] 27 [(0, [], Value.slice l_.ptr l_.len l_.cap), (2, [], Value.slice ups.ptr ups.len ups.cap), (4, [], Value.pointer (some ⟨b_, 0, none⟩)), (7, [], Value.pointer f), (9, [], Value.pointer s), (11, [], Value.int .i64 (if ((l_.len : Nat) : Int) < (IntKind.i64.wrap (mark1 + (IntKind.i64.wrap (Int.tmod v59 4)))) then ((l_.len : Nat) : Int) else (IntKind.i64.wrap (mark1 + (IntKind.i64.wrap (Int.tmod v59 4)))))), (12, [], Value.int .i64 next), (13, [], Value.int .i64 reads), (14, [], Value.int .i64 i), (138, [], Value.bool false), (139, [], Value.agg #[Value.int .i64 v139.Number, Value.slice v139.Writes.ptr v139.Writes.len v139.Writes.cap]), (140, [], Value.slice l_.ptr l_.len l_.cap), (142, [], Value.int .i64 (IntKind.i64.wrap (next - 1)))] (by kernel_rfl) (by kernel_rfl) ?_
                            obtain ⟨hp_23, h⟩ := h
                            refine mreg_conv [(0, [], Value.slice l_.ptr l_.len l_.cap), (2, [], Value.slice ups.ptr ups.len ups.cap), (4, [], Value.pointer (some ⟨b_, 0, none⟩)), (7, [], Value.pointer f), (9, [], Value.pointer s), (11, [], Value.int .i64 (if ((l_.len : Nat) : Int) < (IntKind.i64.wrap (mark1 + (IntKind.i64.wrap (Int.tmod v59 4)))) then ((l_.len : Nat) : Int) else (IntKind.i64.wrap (mark1 + (IntKind.i64.wrap (Int.tmod v59 4)))))), (12, [], Value.int .i64 next), (13, [], Value.int .i64 reads), (14, [], Value.int .i64 i), (138, [], Value.bool false), (139, [], Value.agg #[Value.int .i64 v139.Number, Value.slice v139.Writes.ptr v139.Writes.len v139.Writes.cap]), (140, [], Value.slice (some ⟨(pblk l_.ptr), (poff l_.ptr), none⟩) l_.len l_.cap), (142, [], Value.int .i64 (IntKind.i64.wrap (next - 1)))] (congrArg (fun pp => ([(0, [], Value.slice l_.ptr l_.len l_.cap), (2, [], Value.slice ups.ptr ups.len ups.cap), (4, [], Value.pointer (some ⟨b_, 0, none⟩)), (7, [], Value.pointer f), (9, [], Value.pointer s), (11, [], Value.int .i64 (if ((l_.len : Nat) : Int) < (IntKind.i64.wrap (mark1 + (IntKind.i64.wrap (Int.tmod v59 4)))) then ((l_.len : Nat) : Int) else (IntKind.i64.wrap (mark1 + (IntKind.i64.wrap (Int.tmod v59 4)))))), (12, [], Value.int .i64 next), (13, [], Value.int .i64 reads), (14, [], Value.int .i64 i), (138, [], Value.bool false), (139, [], Value.agg #[Value.int .i64 v139.Number, Value.slice v139.Writes.ptr v139.Writes.len v139.Writes.cap]), (140, [], Value.slice pp l_.len l_.cap), (142, [], Value.int .i64 (IntKind.i64.wrap (next - 1)))] : GEnv)) hp_23) ?_
                            obtain ⟨h0, h1, h⟩ := h
                            refine mreg_indexS (i := 27) (by kernel_rfl) (t := 22) (e := 42) (x := (Go.Operand.tmp 140)) (ix := (Go.Operand.tmp 142)) (b := (pblk l_.ptr)) (o := (poff l_.ptr)) (l := l_.len) (c := l_.cap) (k := .i64) (j := (IntKind.i64.wrap (next - 1))) (ty := 0) (dst := some 143) (sz := 2) (by kernel_rfl) (by kernel_rfl) (by kernel_rfl) (by kernel_rfl) (by kernel_rfl) h0 h1 ?_
                            refine mreg_run [] 28 [(0, [], Value.slice l_.ptr l_.len l_.cap), (2, [], Value.slice ups.ptr ups.len ups.cap), (4, [], Value.pointer (some ⟨b_, 0, none⟩)), (7, [], Value.pointer f), (9, [], Value.pointer s), (11, [], Value.int .i64 (if ((l_.len : Nat) : Int) < (IntKind.i64.wrap (mark1 + (IntKind.i64.wrap (Int.tmod v59 4)))) then ((l_.len : Nat) : Int) else (IntKind.i64.wrap (mark1 + (IntKind.i64.wrap (Int.tmod v59 4)))))), (12, [], Value.int .i64 next), (13, [], Value.int .i64 reads), (14, [], Value.int .i64 i), (138, [], Value.bool false), (139, [], Value.agg #[Value.int .i64 v139.Number, Value.slice v139.Writes.ptr v139.Writes.len v139.Writes.cap]), (143, [], Value.pointer (some ⟨(pblk l_.ptr), (poff l_.ptr) + (IntKind.i64.wrap (next - 1)).toNat * 2, none⟩))] (by kernel_rfl) (by kernel_rfl) ?_
                            obtain ⟨v144, hc, h⟩ := h
                            refine mreg_loadN (i := 28) (by kernel_rfl) (t := 42) (a := (Go.Operand.tmp 143)) (b := (pblk l_.ptr)) (o := ((poff l_.ptr) + (IntKind.i64.wrap (next - 1)).toNat * 2)) (ty := 42) (dst := some 144) [Value.int .i64 v144.Number, Value.slice v144.Writes.ptr v144.Writes.len v144.Writes.cap] (by kernel_rfl) (by kernel_rfl) (by kernel_rfl) (k := 2) (by kernel_rfl) (by kernel_rfl) hc ?_
                            refine mreg_run [] 29 [(0, [], Value.slice l_.ptr l_.len l_.cap), (2, [], Value.slice ups.ptr ups.len ups.cap), (4, [], Value.pointer (some ⟨b_, 0, none⟩)), (7, [], Value.pointer f), (9, [], Value.pointer s), (11, [], Value.int .i64 (if ((l_.len : Nat) : Int) < (IntKind.i64.wrap (mark1 + (IntKind.i64.wrap (Int.tmod v59 4)))) then ((l_.len : Nat) : Int) else (IntKind.i64.wrap (mark1 + (IntKind.i64.wrap (Int.tmod v59 4)))))), (12, [], Value.int .i64 next), (13, [], Value.int .i64 reads), (14, [], Value.int .i64 i), (138, [], Value.bool false), (139, [], Value.agg #[Value.int .i64 v139.Number, Value.slice v139.Writes.ptr v139.Writes.len v139.Writes.cap]), (144, [], Value.agg #[Value.int .i64 v144.Number, Value.slice v144.Writes.ptr v144.Writes.len v144.Writes.cap])] (by kernel_rfl) (by kernel_rfl) ?_
                            refine mreg_enter (op := (Go.Op.call (Go.Call.mk (Go.Callee.value (Go.Operand.func 22)) #[(Go.Operand.tmp 139), (Go.Operand.tmp 144)] #[42, 42]))) (ty := 4) (dst := some 145) 29 [22, 23, 28, 14, 21, 27, 12, 13, 20, 24, 26, 8, 10, 11, 17, 19, 25, 2, 7, 9, 15, 16, 18, 1, 6, 0, 4, 5, 3] [] 22 #[Value.agg #[Value.int .i64 v139.Number, Value.slice v139.Writes.ptr v139.Writes.len v139.Writes.cap], Value.agg #[Value.int .i64 v144.Number, Value.slice v144.Writes.ptr v144.Writes.len v144.Writes.cap]] (by kernel_rfl) (by kernel_rfl) (by kernel_rfl) (by kernel_rfl) (by kernel_rfl) (fun ww => by kernel_rfl) (Calls.mono h ?_)
                            rintro _ w18 ⟨v145, rfl, h⟩
                            refine ⟨_, rfl, trivial, ?_⟩
                            refine mreg_run [.sure, .plain] 32 [(0, [], Value.slice l_.ptr l_.len l_.cap), (2, [], Value.slice ups.ptr ups.len ups.cap), (4, [], Value.pointer (some ⟨b_, 0, none⟩)), (7, [], Value.pointer f), (9, [], Value.pointer s), (11, [], Value.int .i64 (if ((l_.len : Nat) : Int) < (IntKind.i64.wrap (mark1 + (IntKind.i64.wrap (Int.tmod v59 4)))) then ((l_.len : Nat) : Int) else (IntKind.i64.wrap (mark1 + (IntKind.i64.wrap (Int.tmod v59 4)))))), (12, [], Value.int .i64 next), (13, [], Value.int .i64 reads), (14, [], Value.int .i64 i), (147, [], Value.bool (!v145))] (by kernel_rfl) (by kernel_rfl) ?_
                            refine mreg_end [(0, Value.slice l_.ptr l_.len l_.cap), (2, Value.slice ups.ptr ups.len ups.cap), (4, Value.pointer (some ⟨b_, 0, none⟩)), (7, Value.pointer f), (9, Value.pointer s), (11, Value.int .i64 (if ((l_.len : Nat) : Int) < (IntKind.i64.wrap (mark1 + (IntKind.i64.wrap (Int.tmod v59 4)))) then ((l_.len : Nat) : Int) else (IntKind.i64.wrap (mark1 + (IntKind.i64.wrap (Int.tmod v59 4)))))), (12, Value.int .i64 next), (13, Value.int .i64 reads), (14, Value.int .i64 i), (147, Value.bool (!v145))] (by kernel_rfl) (by kernel_rfl) (by kernel_rfl) ?_
                            exact ⟨[(0, Value.slice l_.ptr l_.len l_.cap), (2, Value.slice ups.ptr ups.len ups.cap), (4, Value.pointer (some ⟨b_, 0, none⟩)), (7, Value.pointer f), (9, Value.pointer s), (11, Value.int .i64 (if ((l_.len : Nat) : Int) < (IntKind.i64.wrap (mark1 + (IntKind.i64.wrap (Int.tmod v59 4)))) then ((l_.len : Nat) : Int) else (IntKind.i64.wrap (mark1 + (IntKind.i64.wrap (Int.tmod v59 4)))))), (12, Value.int .i64 next), (13, Value.int .i64 reads), (14, Value.int .i64 i), (147, Value.bool (!v145))], Sub.mk (by kernel_rfl), (!v145), rfl, h⟩
                  · rintro _ w15 ⟨t147, rfl, h⟩
                    unfold F_towpathlaw16_FeedOrder_k3 at h
                    refine wpE_cond (o := (Operand.tmp 147)) (b := t147) (x := c_towpathlaw16_FeedOrder_110) (y := c_towpathlaw16_FeedOrder_114) (by kernel_rfl) (by kernel_rfl) (fun hb => ?_) (fun hb => ?_)
                    · replace h := h.1 hb
                      refine wpE_seq (x := c_towpathlaw16_FeedOrder_111) (y := c_towpathlaw16_FeedOrder_113) (by kernel_rfl) ?_
                      refine wpE_region (id := 28) (ops := r_towpathlaw16_FeedOrder_111) (by kernel_rfl) ?_
                      refine reg_run [.plain] 1 [(6, [], Value.bool false)] (by kernel_rfl) (by kernel_rfl) ?_
                      refine reg_end [(6, Value.bool false)] (by kernel_rfl) (by kernel_rfl) ?_
                      change WpE _ _ c_towpathlaw16_FeedOrder_113 _ _ _
                      refine wpE_ret (by kernel_rfl) ?_
                      repeat (first | refine seqQ_ret ?_ | refine blockQ_ret ?_ | refine loopQ_ret ?_ | refine cutQ_ret ?_)
                      exact retS (rs := [(Go.ResultVar.tmp 6)]) (v := Value.bool false) (by kernel_rfl) (⟨by kernel_rfl, trivial⟩) ⟨false, rfl, h⟩
                    · replace h := h.2 hb
                      refine wpE_skip (by kernel_rfl) ?_
                      change WpE _ _ c_towpathlaw16_FeedOrder_115 _ _ _
                      refine wpE_region (id := 29) (ops := r_towpathlaw16_FeedOrder_115) (by kernel_rfl) ?_
                      refine reg_run [.plain, .plain, .plain] 3 [(0, [], Value.slice l_.ptr l_.len l_.cap), (2, [], Value.slice ups.ptr ups.len ups.cap), (4, [], Value.pointer (some ⟨b_, 0, none⟩)), (7, [], Value.pointer f), (9, [], Value.pointer s), (11, [], Value.int .i64 (if ((l_.len : Nat) : Int) < (IntKind.i64.wrap (mark1 + (IntKind.i64.wrap (Int.tmod v59 4)))) then ((l_.len : Nat) : Int) else (IntKind.i64.wrap (mark1 + (IntKind.i64.wrap (Int.tmod v59 4)))))), (12, [], Value.int .i64 (IntKind.i64.wrap (next + 1))), (13, [], Value.int .i64 reads), (14, [], Value.int .i64 i)] (by kernel_rfl) (by kernel_rfl) ?_
                      refine reg_end [(0, Value.slice l_.ptr l_.len l_.cap), (2, Value.slice ups.ptr ups.len ups.cap), (4, Value.pointer (some ⟨b_, 0, none⟩)), (7, Value.pointer f), (9, Value.pointer s), (11, Value.int .i64 (if ((l_.len : Nat) : Int) < (IntKind.i64.wrap (mark1 + (IntKind.i64.wrap (Int.tmod v59 4)))) then ((l_.len : Nat) : Int) else (IntKind.i64.wrap (mark1 + (IntKind.i64.wrap (Int.tmod v59 4)))))), (12, Value.int .i64 (IntKind.i64.wrap (next + 1))), (13, Value.int .i64 reads), (14, Value.int .i64 i)] (by kernel_rfl) (by kernel_rfl) ?_
                      exact ⟨[(0, Value.slice l_.ptr l_.len l_.cap), (2, Value.slice ups.ptr ups.len ups.cap), (4, Value.pointer (some ⟨b_, 0, none⟩)), (7, Value.pointer f), (9, Value.pointer s), (11, Value.int .i64 (if ((l_.len : Nat) : Int) < (IntKind.i64.wrap (mark1 + (IntKind.i64.wrap (Int.tmod v59 4)))) then ((l_.len : Nat) : Int) else (IntKind.i64.wrap (mark1 + (IntKind.i64.wrap (Int.tmod v59 4)))))), (12, Value.int .i64 (IntKind.i64.wrap (next + 1))), (13, Value.int .i64 reads), (14, Value.int .i64 i)], Sub.mk (by kernel_rfl), (if ((l_.len : Nat) : Int) < (IntKind.i64.wrap (mark1 + (IntKind.i64.wrap (Int.tmod v59 4)))) then ((l_.len : Nat) : Int) else (IntKind.i64.wrap (mark1 + (IntKind.i64.wrap (Int.tmod v59 4))))), (IntKind.i64.wrap (next + 1)), reads, rfl, h⟩
                · replace h := h.2 hb
                  refine wpE_skip (by kernel_rfl) ?_
                  exact ⟨[(0, Value.slice l_.ptr l_.len l_.cap), (2, Value.slice ups.ptr ups.len ups.cap), (4, Value.pointer (some ⟨b_, 0, none⟩)), (7, Value.pointer f), (9, Value.pointer s), (11, Value.int .i64 (if ((l_.len : Nat) : Int) < (IntKind.i64.wrap (mark1 + (IntKind.i64.wrap (Int.tmod v59 4)))) then ((l_.len : Nat) : Int) else (IntKind.i64.wrap (mark1 + (IntKind.i64.wrap (Int.tmod v59 4)))))), (12, Value.int .i64 next), (13, Value.int .i64 reads), (14, Value.int .i64 i)], Sub.mk (by kernel_rfl), (if ((l_.len : Nat) : Int) < (IntKind.i64.wrap (mark1 + (IntKind.i64.wrap (Int.tmod v59 4)))) then ((l_.len : Nat) : Int) else (IntKind.i64.wrap (mark1 + (IntKind.i64.wrap (Int.tmod v59 4))))), next, reads, rfl, h⟩
          · rintro _ w6 ⟨mark2, next1, reads1, rfl, h⟩
            unfold F_towpathlaw16_FeedOrder_k1 at h
            refine wpE_region (id := 12) (ops := r_towpathlaw16_FeedOrder_118) (by kernel_rfl) ?_
            refine reg_run [.plain, .plain, .plain] 3 [(0, [], Value.slice l_.ptr l_.len l_.cap), (2, [], Value.slice ups.ptr ups.len ups.cap), (4, [], Value.pointer (some ⟨b_, 0, none⟩)), (7, [], Value.pointer f), (9, [], Value.pointer s), (11, [], Value.int .i64 mark2), (12, [], Value.int .i64 next1), (13, [], Value.int .i64 reads1), (14, [], Value.int .i64 (IntKind.i64.wrap (i + 1)))] (by kernel_rfl) (by kernel_rfl) ?_
            refine reg_end [(0, Value.slice l_.ptr l_.len l_.cap), (2, Value.slice ups.ptr ups.len ups.cap), (4, Value.pointer (some ⟨b_, 0, none⟩)), (7, Value.pointer f), (9, Value.pointer s), (11, Value.int .i64 mark2), (12, Value.int .i64 next1), (13, Value.int .i64 reads1), (14, Value.int .i64 (IntKind.i64.wrap (i + 1)))] (by kernel_rfl) (by kernel_rfl) ?_
            have hb_ := again__h _ _ _ _ _ h
            exact ⟨_, hb_.2, [(0, Value.slice l_.ptr l_.len l_.cap), (2, Value.slice ups.ptr ups.len ups.cap), (4, Value.pointer (some ⟨b_, 0, none⟩)), (7, Value.pointer f), (9, Value.pointer s), (11, Value.int .i64 mark2), (12, Value.int .i64 next1), (13, Value.int .i64 reads1), (14, Value.int .i64 (IntKind.i64.wrap (i + 1)))], Sub.mk (by kernel_rfl), mark2, next1, reads1, (IntKind.i64.wrap (i + 1)), rfl, hb_.1, rfl⟩
        · replace h := h.2 hb
          refine wpE_exit (id := 0) (by kernel_rfl) ?_
          change WpE _ _ c_towpathlaw16_FeedOrder_120 _ _ _
          refine wpE_seq (x := c_towpathlaw16_FeedOrder_121) (y := c_towpathlaw16_FeedOrder_123) (by kernel_rfl) ?_
          refine wpE_region (id := 30) (ops := r_towpathlaw16_FeedOrder_121) (by kernel_rfl) ?_
          refine reg_run [.plain] 1 [(4, [], Value.pointer (some ⟨b_, 0, none⟩)), (13, [], Value.int .i64 reads), (150, [], Value.pointer s)] (by kernel_rfl) (by kernel_rfl) ?_
          refine reg_enter (op := (Go.Op.call (Go.Call.mk (Go.Callee.value (Go.Operand.func 16)) #[(Go.Operand.tmp 150)] #[28]))) (ty := 23) (dst := some 151) 16 #[Value.pointer s] (by kernel_rfl) (fun ww => by kernel_rfl) (Calls.mono h ?_)
          rintro _ w19 ⟨v151, rfl, h⟩
          refine ⟨_, rfl, ?_⟩
          refine reg_run [.plain] 3 [(4, [], Value.pointer (some ⟨b_, 0, none⟩)), (13, [], Value.int .i64 reads), (21, [], Value.slice v151.ptr v151.len v151.cap)] (by kernel_rfl) (by kernel_rfl) ?_
          refine reg_end [(4, Value.pointer (some ⟨b_, 0, none⟩)), (13, Value.int .i64 reads), (21, Value.slice v151.ptr v151.len v151.cap)] (by kernel_rfl) (by kernel_rfl) ?_
          change WpE _ _ c_towpathlaw16_FeedOrder_123 _ _ _
          refine wpE_seq (x := c_towpathlaw16_FeedOrder_124) (y := c_towpathlaw16_FeedOrder_149) (by kernel_rfl) ?_
          refine wpE_seq (x := c_towpathlaw16_FeedOrder_125) (y := c_towpathlaw16_FeedOrder_127) (by kernel_rfl) ?_
          refine wpE_region (id := 31) (ops := r_towpathlaw16_FeedOrder_125) (by kernel_rfl) ?_
          refine reg_run [.plain] 1 [(4, [], Value.pointer (some ⟨b_, 0, none⟩)), (13, [], Value.int .i64 reads), (21, [], Value.slice v151.ptr v151.len v151.cap), (22, [], Value.int .i64 0)] (by kernel_rfl) (by kernel_rfl) ?_
          refine reg_end [(4, Value.pointer (some ⟨b_, 0, none⟩)), (13, Value.int .i64 reads), (21, Value.slice v151.ptr v151.len v151.cap), (22, Value.int .i64 0)] (by kernel_rfl) (by kernel_rfl) ?_
          change WpE _ _ c_towpathlaw16_FeedOrder_127 _ _ _
          refine wpE_block (id := 3) (x := c_towpathlaw16_FeedOrder_128) (by kernel_rfl) ?_
          obtain ⟨I, μ, h0, hr⟩ := h
          refine wpE_loop (x := c_towpathlaw16_FeedOrder_129) (by kernel_rfl) (fun m l w => ∃ (i1 : Int), l = [(4, Value.pointer (some ⟨b_, 0, none⟩)), (13, Value.int .i64 reads), (21, Value.slice v151.ptr v151.len v151.cap), (22, Value.int .i64 i1)] ∧ I i1 w ∧ μ i1 w = m) (l' := [(4, Value.pointer (some ⟨b_, 0, none⟩)), (13, Value.int .i64 reads), (21, Value.slice v151.ptr v151.len v151.cap), (22, Value.int .i64 0)]) (Sub.mk (by kernel_rfl)) ⟨0, rfl, h0, rfl⟩ ?_
          rintro _ _ w20 ⟨i1, rfl, hI, rfl⟩
          obtain ⟨again_1, again_1_h, h⟩ : ∃ again_1 : Int → World → Prop, (∀ i1' w', again_1 i1' w' → I i1' w' ∧ μ i1' w' < μ i1 w20) ∧ F_towpathlaw16_FeedOrder_L4 R b_ reads v151 again_1 i1 w20 := ⟨_, fun _ _ h => h, hr i1 w20 hI⟩
          clear h0 hI
          unfold F_towpathlaw16_FeedOrder_L4 at h
          refine wpE_seq (x := c_towpathlaw16_FeedOrder_130) (y := c_towpathlaw16_FeedOrder_136) (by kernel_rfl) ?_
          refine wpE_seq (x := c_towpathlaw16_FeedOrder_131) (y := c_towpathlaw16_FeedOrder_133) (by kernel_rfl) ?_
          refine wpE_region (id := 32) (ops := r_towpathlaw16_FeedOrder_131) (by kernel_rfl) ?_
          refine reg_run [.plain, .plain, .plain, .plain] 4 [(4, [], Value.pointer (some ⟨b_, 0, none⟩)), (13, [], Value.int .i64 reads), (21, [], Value.slice v151.ptr v151.len v151.cap), (22, [], Value.int .i64 i1), (155, [], Value.bool (decide (i1 < ((v151.len : Nat) : Int))))] (by kernel_rfl) (by kernel_rfl) ?_
          refine reg_end [(4, Value.pointer (some ⟨b_, 0, none⟩)), (13, Value.int .i64 reads), (21, Value.slice v151.ptr v151.len v151.cap), (22, Value.int .i64 i1), (155, Value.bool (decide (i1 < ((v151.len : Nat) : Int))))] (by kernel_rfl) (by kernel_rfl) ?_
          change WpE _ _ c_towpathlaw16_FeedOrder_133 _ _ _
          refine wpE_cond (o := (Operand.tmp 155)) (b := (decide (i1 < ((v151.len : Nat) : Int)))) (x := c_towpathlaw16_FeedOrder_134) (y := c_towpathlaw16_FeedOrder_135) (by kernel_rfl) (by kernel_rfl) (fun hb => ?_) (fun hb => ?_)
          · replace h := h.1 hb
            refine wpE_skip (by kernel_rfl) ?_
            change WpE _ _ c_towpathlaw16_FeedOrder_136 _ _ _
            refine wpE_seq (x := c_towpathlaw16_FeedOrder_137) (y := c_towpathlaw16_FeedOrder_147) (by kernel_rfl) ?_
            refine wpE_block (id := 4) (x := c_towpathlaw16_FeedOrder_138) (by kernel_rfl) ?_
            refine wpE_seq (x := c_towpathlaw16_FeedOrder_139) (y := c_towpathlaw16_FeedOrder_141) (by kernel_rfl) ?_
            refine wpE_drawregion (id := 34) (ops := r_towpathlaw16_FeedOrder_139) (by kernel_rfl) (by kernel_rfl) (by kernel_rfl) ?_
            refine qreg_run [.plain, .plain] 2 [(4, [], Value.pointer (some ⟨b_, 0, none⟩)), (13, [], Value.int .i64 reads), (21, [], Value.slice v151.ptr v151.len v151.cap), (22, [], Value.int .i64 i1), (158, [], Value.slice v151.ptr v151.len v151.cap), (159, [], Value.int .i64 i1)] (by kernel_rfl) (by kernel_rfl) ?_
            obtain ⟨hp_31, h⟩ := h
            refine qreg_conv [(4, [], Value.pointer (some ⟨b_, 0, none⟩)), (13, [], Value.int .i64 reads), (21, [], Value.slice v151.ptr v151.len v151.cap), (22, [], Value.int .i64 i1), (158, [], Value.slice (some ⟨(pblk v151.ptr), (poff v151.ptr), none⟩) v151.len v151.cap), (159, [], Value.int .i64 i1)] (congrArg (fun pp => ([(4, [], Value.pointer (some ⟨b_, 0, none⟩)), (13, [], Value.int .i64 reads), (21, [], Value.slice v151.ptr v151.len v151.cap), (22, [], Value.int .i64 i1), (158, [], Value.slice pp v151.len v151.cap), (159, [], Value.int .i64 i1)] : GEnv)) hp_31) ?_
            obtain ⟨h0, h1, h⟩ := h
            refine qreg_indexS1 (t := 23) (e := 3) (x := (Go.Operand.tmp 158)) (ix := (Go.Operand.tmp 159)) (b := (pblk v151.ptr)) (o := (poff v151.ptr)) (l := v151.len) (c := v151.cap) (k := .i64) (j := i1) (ty := 0) (dst := some 160) (by kernel_rfl) (by kernel_rfl) (by kernel_rfl) (by kernel_rfl) (by kernel_rfl) h0 h1 ?_
            refine qreg_run [] 3 [(4, [], Value.pointer (some ⟨b_, 0, none⟩)), (13, [], Value.int .i64 reads), (21, [], Value.slice v151.ptr v151.len v151.cap), (22, [], Value.int .i64 i1), (160, [], Value.pointer (some ⟨(pblk v151.ptr), (poff v151.ptr) + i1.toNat, none⟩))] (by kernel_rfl) (by kernel_rfl) ?_
            obtain ⟨v161, hc, h⟩ := h
            refine qreg_load1 (t := 3) (a := (Go.Operand.tmp 160)) (b := (pblk v151.ptr)) (o := ((poff v151.ptr) + i1.toNat)) (ty := 3) (dst := some 161) (by kernel_rfl) (by kernel_rfl) (by kernel_rfl) hc ?_
            refine qreg_run [.plain] 5 [(4, [], Value.pointer (some ⟨b_, 0, none⟩)), (13, [], Value.int .i64 reads), (21, [], Value.slice v151.ptr v151.len v151.cap), (22, [], Value.int .i64 i1), (161, [], Value.int .i64 v161), (162, [], Value.pointer (some ⟨b_, 0, none⟩))] (by kernel_rfl) (by kernel_rfl) ?_
            obtain ⟨v163, hc, h⟩ := h
            refine qreg_load1 (t := 3) (a := (Go.Operand.tmp 162)) (b := b_) (o := 0) (ty := 3) (dst := some 163) (by kernel_rfl) (by kernel_rfl) (by kernel_rfl) hc ?_
            refine qreg_run [.plain, .plain, .plain, .plain] 10 [(4, [], Value.pointer (some ⟨b_, 0, none⟩)), (13, [], Value.int .i64 reads), (21, [], Value.slice v151.ptr v151.len v151.cap), (22, [], Value.int .i64 i1), (167, [], Value.bool (v161 != (IntKind.i64.wrap ((IntKind.i64.wrap (v163 + 1)) + i1))))] (by kernel_rfl) (by kernel_rfl) ?_
            refine qreg_end [(4, Value.pointer (some ⟨b_, 0, none⟩)), (13, Value.int .i64 reads), (21, Value.slice v151.ptr v151.len v151.cap), (22, Value.int .i64 i1), (167, Value.bool (v161 != (IntKind.i64.wrap ((IntKind.i64.wrap (v163 + 1)) + i1))))] (by kernel_rfl) (by kernel_rfl) (fun w21 hw => ?_)
            replace h := h w21 hw
            clear hw
            change WpE _ _ c_towpathlaw16_FeedOrder_141 _ _ _
            refine wpE_cond (o := (Operand.tmp 167)) (b := (v161 != (IntKind.i64.wrap ((IntKind.i64.wrap (v163 + 1)) + i1)))) (x := c_towpathlaw16_FeedOrder_142) (y := c_towpathlaw16_FeedOrder_146) (by kernel_rfl) (by kernel_rfl) (fun hb => ?_) (fun hb => ?_)
            · replace h := h.1 hb
              refine wpE_seq (x := c_towpathlaw16_FeedOrder_143) (y := c_towpathlaw16_FeedOrder_145) (by kernel_rfl) ?_
              refine wpE_region (id := 35) (ops := r_towpathlaw16_FeedOrder_143) (by kernel_rfl) ?_
              refine reg_run [.plain] 1 [(6, [], Value.bool false)] (by kernel_rfl) (by kernel_rfl) ?_
              refine reg_end [(6, Value.bool false)] (by kernel_rfl) (by kernel_rfl) ?_
              change WpE _ _ c_towpathlaw16_FeedOrder_145 _ _ _
              refine wpE_ret (by kernel_rfl) ?_
              repeat (first | refine seqQ_ret ?_ | refine blockQ_ret ?_ | refine loopQ_ret ?_ | refine cutQ_ret ?_)
              exact retS (rs := [(Go.ResultVar.tmp 6)]) (v := Value.bool false) (by kernel_rfl) (⟨by kernel_rfl, trivial⟩) ⟨false, rfl, h⟩
            · replace h := h.2 hb
              refine wpE_skip (by kernel_rfl) ?_
              change WpE _ _ c_towpathlaw16_FeedOrder_147 _ _ _
              refine wpE_region (id := 33) (ops := r_towpathlaw16_FeedOrder_147) (by kernel_rfl) ?_
              refine reg_run [.plain, .plain, .plain] 3 [(4, [], Value.pointer (some ⟨b_, 0, none⟩)), (13, [], Value.int .i64 reads), (21, [], Value.slice v151.ptr v151.len v151.cap), (22, [], Value.int .i64 (IntKind.i64.wrap (i1 + 1)))] (by kernel_rfl) (by kernel_rfl) ?_
              refine reg_end [(4, Value.pointer (some ⟨b_, 0, none⟩)), (13, Value.int .i64 reads), (21, Value.slice v151.ptr v151.len v151.cap), (22, Value.int .i64 (IntKind.i64.wrap (i1 + 1)))] (by kernel_rfl) (by kernel_rfl) ?_
              have hb_ := again_1_h _ _ h
              exact ⟨_, hb_.2, [(4, Value.pointer (some ⟨b_, 0, none⟩)), (13, Value.int .i64 reads), (21, Value.slice v151.ptr v151.len v151.cap), (22, Value.int .i64 (IntKind.i64.wrap (i1 + 1)))], Sub.mk (by kernel_rfl), (IntKind.i64.wrap (i1 + 1)), rfl, hb_.1, rfl⟩
          · replace h := h.2 hb
            refine wpE_exit (id := 3) (by kernel_rfl) ?_
            change WpE _ _ c_towpathlaw16_FeedOrder_149 _ _ _
            refine wpE_seq (x := c_towpathlaw16_FeedOrder_150) (y := c_towpathlaw16_FeedOrder_152) (by kernel_rfl) ?_
            refine wpE_region (id := 36) (ops := r_towpathlaw16_FeedOrder_150) (by kernel_rfl) ?_
            refine reg_run [.plain, .plain, .plain, .plain, .plain] 5 [(172, [], Value.bool (((v151.len : Nat) : Int) == reads))] (by kernel_rfl) (by kernel_rfl) ?_
            refine reg_split 172 (((v151.len : Nat) : Int) == reads) (by kernel_rfl) (fun hb => ?_) (fun hb => ?_)
            · replace h := h.1 hb
              refine reg_run [] 5 [(172, [], Value.bool true)] (by kernel_rfl) (by kernel_rfl) ?_
              refine reg_run [] 5 [(172, [], Value.bool true)] (by kernel_rfl) (by kernel_rfl) ?_
              refine reg_enter (op := (Go.Op.call (Go.Call.mk (Go.Callee.value (Go.Operand.func 12)) #[] #[]))) (ty := 4) (dst := some 173) 12 #[] (by kernel_rfl) (fun ww => by kernel_rfl) (Calls.mono h ?_)
              rintro _ w22 ⟨v173, rfl, h⟩
              refine ⟨_, rfl, ?_⟩
              refine reg_run [.plain, .plain] 8 [(6, [], Value.bool v173)] (by kernel_rfl) (by kernel_rfl) ?_
              refine reg_end [(6, Value.bool v173)] (by kernel_rfl) (by kernel_rfl) ?_
              change WpE _ _ c_towpathlaw16_FeedOrder_152 _ _ _
              refine wpE_ret (by kernel_rfl) ?_
              repeat (first | refine seqQ_ret ?_ | refine blockQ_ret ?_ | refine loopQ_ret ?_ | refine cutQ_ret ?_)
              exact retS (rs := [(Go.ResultVar.tmp 6)]) (v := Value.bool v173) (by kernel_rfl) (⟨by kernel_rfl, trivial⟩) ⟨v173, rfl, h⟩
            · replace h := h.2 hb
              refine reg_run [] 5 [(172, [], Value.bool false)] (by kernel_rfl) (by kernel_rfl) ?_
              refine reg_run [.skip, .plain, .plain] 8 [(6, [], Value.bool false)] (by kernel_rfl) (by kernel_rfl) ?_
              refine reg_end [(6, Value.bool false)] (by kernel_rfl) (by kernel_rfl) ?_
              change WpE _ _ c_towpathlaw16_FeedOrder_152 _ _ _
              refine wpE_ret (by kernel_rfl) ?_
              repeat (first | refine seqQ_ret ?_ | refine blockQ_ret ?_ | refine loopQ_ret ?_ | refine cutQ_ret ?_)
              exact retS (rs := [(Go.ResultVar.tmp 6)]) (v := Value.bool false) (by kernel_rfl) (⟨by kernel_rfl, trivial⟩) ⟨false, rfl, h⟩
  · rintro e w' ⟨v, rfl, r0, rfl, h⟩; exact ⟨r0, rfl, h⟩
end Go.Proofs.Ytpedclhflmhakaa
