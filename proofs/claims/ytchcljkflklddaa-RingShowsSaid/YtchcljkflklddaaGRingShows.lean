/- WRITTEN BY PROGRAM (dec.py): for each Go function the clean formula F, the call's contract C, and the proof S that F gives C. -/
import Derived.Test.YtchcljkflklddaaRows
import Derived.Test.YtchcljkflklddaaGF
namespace Go.Proofs.Ytchcljkflklddaa
open Go
set_option linter.unusedVariables false

/-! ### towpath/towpathlaw10.RingShows (function 11) -/
noncomputable def c_towpathlaw10_RingShows_0 : Code := (Try.f11.body).getD Code.skip
noncomputable def c_towpathlaw10_RingShows_1 : Code := Code.l c_towpathlaw10_RingShows_0
noncomputable def r_towpathlaw10_RingShows_1 : Array Oper := Code.ops c_towpathlaw10_RingShows_1
noncomputable def c_towpathlaw10_RingShows_3 : Code := Code.r c_towpathlaw10_RingShows_0
noncomputable def c_towpathlaw10_RingShows_4 : Code := Code.l c_towpathlaw10_RingShows_3
noncomputable def r_towpathlaw10_RingShows_4 : Array Oper := Code.ops c_towpathlaw10_RingShows_4
noncomputable def c_towpathlaw10_RingShows_6 : Code := Code.r c_towpathlaw10_RingShows_3
noncomputable def c_towpathlaw10_RingShows_7 : Code := Code.l c_towpathlaw10_RingShows_6
noncomputable def c_towpathlaw10_RingShows_8 : Code := Code.l c_towpathlaw10_RingShows_7
noncomputable def r_towpathlaw10_RingShows_8 : Array Oper := Code.ops c_towpathlaw10_RingShows_8
noncomputable def c_towpathlaw10_RingShows_10 : Code := Code.r c_towpathlaw10_RingShows_7
noncomputable def c_towpathlaw10_RingShows_11 : Code := Code.l c_towpathlaw10_RingShows_10
noncomputable def c_towpathlaw10_RingShows_12 : Code := Code.l c_towpathlaw10_RingShows_11
noncomputable def r_towpathlaw10_RingShows_12 : Array Oper := Code.ops c_towpathlaw10_RingShows_12
noncomputable def c_towpathlaw10_RingShows_14 : Code := Code.r c_towpathlaw10_RingShows_11
noncomputable def c_towpathlaw10_RingShows_15 : Code := Code.r c_towpathlaw10_RingShows_10
noncomputable def c_towpathlaw10_RingShows_16 : Code := Code.r c_towpathlaw10_RingShows_6
noncomputable def c_towpathlaw10_RingShows_17 : Code := Code.l c_towpathlaw10_RingShows_16
noncomputable def r_towpathlaw10_RingShows_17 : Array Oper := Code.ops c_towpathlaw10_RingShows_17
noncomputable def c_towpathlaw10_RingShows_19 : Code := Code.r c_towpathlaw10_RingShows_16
noncomputable def c_towpathlaw10_RingShows_20 : Code := Code.l c_towpathlaw10_RingShows_19
noncomputable def c_towpathlaw10_RingShows_21 : Code := Code.l c_towpathlaw10_RingShows_20
noncomputable def r_towpathlaw10_RingShows_21 : Array Oper := Code.ops c_towpathlaw10_RingShows_21
noncomputable def c_towpathlaw10_RingShows_23 : Code := Code.r c_towpathlaw10_RingShows_20
noncomputable def c_towpathlaw10_RingShows_24 : Code := Code.l c_towpathlaw10_RingShows_23
noncomputable def c_towpathlaw10_RingShows_25 : Code := Code.l c_towpathlaw10_RingShows_24
noncomputable def r_towpathlaw10_RingShows_25 : Array Oper := Code.ops c_towpathlaw10_RingShows_25
noncomputable def c_towpathlaw10_RingShows_27 : Code := Code.r c_towpathlaw10_RingShows_24
noncomputable def c_towpathlaw10_RingShows_28 : Code := Code.r c_towpathlaw10_RingShows_23
noncomputable def c_towpathlaw10_RingShows_29 : Code := Code.r c_towpathlaw10_RingShows_19
noncomputable def c_towpathlaw10_RingShows_30 : Code := Code.l c_towpathlaw10_RingShows_29
noncomputable def c_towpathlaw10_RingShows_31 : Code := Code.l c_towpathlaw10_RingShows_30
noncomputable def r_towpathlaw10_RingShows_31 : Array Oper := Code.ops c_towpathlaw10_RingShows_31
noncomputable def c_towpathlaw10_RingShows_33 : Code := Code.r c_towpathlaw10_RingShows_30
noncomputable def c_towpathlaw10_RingShows_34 : Code := Code.l c_towpathlaw10_RingShows_33
noncomputable def c_towpathlaw10_RingShows_35 : Code := Code.l c_towpathlaw10_RingShows_34
noncomputable def c_towpathlaw10_RingShows_36 : Code := Code.l c_towpathlaw10_RingShows_35
noncomputable def c_towpathlaw10_RingShows_37 : Code := Code.l c_towpathlaw10_RingShows_36
noncomputable def r_towpathlaw10_RingShows_37 : Array Oper := Code.ops c_towpathlaw10_RingShows_37
noncomputable def c_towpathlaw10_RingShows_39 : Code := Code.r c_towpathlaw10_RingShows_36
noncomputable def c_towpathlaw10_RingShows_40 : Code := Code.l c_towpathlaw10_RingShows_39
noncomputable def c_towpathlaw10_RingShows_41 : Code := Code.r c_towpathlaw10_RingShows_39
noncomputable def c_towpathlaw10_RingShows_42 : Code := Code.r c_towpathlaw10_RingShows_35
noncomputable def c_towpathlaw10_RingShows_43 : Code := Code.l c_towpathlaw10_RingShows_42
noncomputable def c_towpathlaw10_RingShows_44 : Code := Code.l c_towpathlaw10_RingShows_43
noncomputable def c_towpathlaw10_RingShows_45 : Code := Code.l c_towpathlaw10_RingShows_44
noncomputable def r_towpathlaw10_RingShows_45 : Array Oper := Code.ops c_towpathlaw10_RingShows_45
noncomputable def c_towpathlaw10_RingShows_47 : Code := Code.r c_towpathlaw10_RingShows_44
noncomputable def c_towpathlaw10_RingShows_48 : Code := Code.l c_towpathlaw10_RingShows_47
noncomputable def c_towpathlaw10_RingShows_49 : Code := Code.l c_towpathlaw10_RingShows_48
noncomputable def r_towpathlaw10_RingShows_49 : Array Oper := Code.ops c_towpathlaw10_RingShows_49
noncomputable def c_towpathlaw10_RingShows_51 : Code := Code.r c_towpathlaw10_RingShows_48
noncomputable def c_towpathlaw10_RingShows_52 : Code := Code.l c_towpathlaw10_RingShows_51
noncomputable def r_towpathlaw10_RingShows_52 : Array Oper := Code.ops c_towpathlaw10_RingShows_52
noncomputable def c_towpathlaw10_RingShows_54 : Code := Code.r c_towpathlaw10_RingShows_51
noncomputable def c_towpathlaw10_RingShows_55 : Code := Code.l c_towpathlaw10_RingShows_54
noncomputable def c_towpathlaw10_RingShows_56 : Code := Code.l c_towpathlaw10_RingShows_55
noncomputable def r_towpathlaw10_RingShows_56 : Array Oper := Code.ops c_towpathlaw10_RingShows_56
noncomputable def c_towpathlaw10_RingShows_58 : Code := Code.r c_towpathlaw10_RingShows_55
noncomputable def c_towpathlaw10_RingShows_59 : Code := Code.r c_towpathlaw10_RingShows_54
noncomputable def c_towpathlaw10_RingShows_60 : Code := Code.r c_towpathlaw10_RingShows_47
noncomputable def c_towpathlaw10_RingShows_61 : Code := Code.r c_towpathlaw10_RingShows_42
noncomputable def r_towpathlaw10_RingShows_61 : Array Oper := Code.ops c_towpathlaw10_RingShows_61
noncomputable def c_towpathlaw10_RingShows_63 : Code := Code.r c_towpathlaw10_RingShows_29
noncomputable def c_towpathlaw10_RingShows_64 : Code := Code.l c_towpathlaw10_RingShows_63
noncomputable def c_towpathlaw10_RingShows_65 : Code := Code.l c_towpathlaw10_RingShows_64
noncomputable def r_towpathlaw10_RingShows_65 : Array Oper := Code.ops c_towpathlaw10_RingShows_65
noncomputable def c_towpathlaw10_RingShows_67 : Code := Code.r c_towpathlaw10_RingShows_64
noncomputable def c_towpathlaw10_RingShows_68 : Code := Code.l c_towpathlaw10_RingShows_67
noncomputable def c_towpathlaw10_RingShows_69 : Code := Code.l c_towpathlaw10_RingShows_68
noncomputable def c_towpathlaw10_RingShows_70 : Code := Code.l c_towpathlaw10_RingShows_69
noncomputable def c_towpathlaw10_RingShows_71 : Code := Code.l c_towpathlaw10_RingShows_70
noncomputable def r_towpathlaw10_RingShows_71 : Array Oper := Code.ops c_towpathlaw10_RingShows_71
noncomputable def c_towpathlaw10_RingShows_73 : Code := Code.r c_towpathlaw10_RingShows_70
noncomputable def c_towpathlaw10_RingShows_74 : Code := Code.l c_towpathlaw10_RingShows_73
noncomputable def c_towpathlaw10_RingShows_75 : Code := Code.r c_towpathlaw10_RingShows_73
noncomputable def c_towpathlaw10_RingShows_76 : Code := Code.r c_towpathlaw10_RingShows_69
noncomputable def c_towpathlaw10_RingShows_77 : Code := Code.l c_towpathlaw10_RingShows_76
noncomputable def c_towpathlaw10_RingShows_78 : Code := Code.l c_towpathlaw10_RingShows_77
noncomputable def r_towpathlaw10_RingShows_78 : Array Oper := Code.ops c_towpathlaw10_RingShows_78
noncomputable def c_towpathlaw10_RingShows_80 : Code := Code.r c_towpathlaw10_RingShows_76
noncomputable def r_towpathlaw10_RingShows_80 : Array Oper := Code.ops c_towpathlaw10_RingShows_80
noncomputable def c_towpathlaw10_RingShows_82 : Code := Code.r c_towpathlaw10_RingShows_63
noncomputable def c_towpathlaw10_RingShows_83 : Code := Code.l c_towpathlaw10_RingShows_82
noncomputable def r_towpathlaw10_RingShows_83 : Array Oper := Code.ops c_towpathlaw10_RingShows_83
noncomputable def c_towpathlaw10_RingShows_85 : Code := Code.r c_towpathlaw10_RingShows_82
noncomputable def c_towpathlaw10_RingShows_86 : Code := Code.l c_towpathlaw10_RingShows_85
noncomputable def r_towpathlaw10_RingShows_86 : Array Oper := Code.ops c_towpathlaw10_RingShows_86
noncomputable def c_towpathlaw10_RingShows_88 : Code := Code.r c_towpathlaw10_RingShows_85
noncomputable def c_towpathlaw10_RingShows_89 : Code := Code.l c_towpathlaw10_RingShows_88
noncomputable def c_towpathlaw10_RingShows_90 : Code := Code.l c_towpathlaw10_RingShows_89
noncomputable def r_towpathlaw10_RingShows_90 : Array Oper := Code.ops c_towpathlaw10_RingShows_90
noncomputable def c_towpathlaw10_RingShows_92 : Code := Code.r c_towpathlaw10_RingShows_89
noncomputable def c_towpathlaw10_RingShows_93 : Code := Code.l c_towpathlaw10_RingShows_92
noncomputable def c_towpathlaw10_RingShows_94 : Code := Code.l c_towpathlaw10_RingShows_93
noncomputable def r_towpathlaw10_RingShows_94 : Array Oper := Code.ops c_towpathlaw10_RingShows_94
noncomputable def c_towpathlaw10_RingShows_96 : Code := Code.r c_towpathlaw10_RingShows_93
noncomputable def c_towpathlaw10_RingShows_97 : Code := Code.l c_towpathlaw10_RingShows_96
noncomputable def c_towpathlaw10_RingShows_98 : Code := Code.l c_towpathlaw10_RingShows_97
noncomputable def r_towpathlaw10_RingShows_98 : Array Oper := Code.ops c_towpathlaw10_RingShows_98
noncomputable def c_towpathlaw10_RingShows_100 : Code := Code.r c_towpathlaw10_RingShows_97
noncomputable def c_towpathlaw10_RingShows_101 : Code := Code.l c_towpathlaw10_RingShows_100
noncomputable def r_towpathlaw10_RingShows_101 : Array Oper := Code.ops c_towpathlaw10_RingShows_101
noncomputable def c_towpathlaw10_RingShows_103 : Code := Code.r c_towpathlaw10_RingShows_100
noncomputable def c_towpathlaw10_RingShows_104 : Code := Code.l c_towpathlaw10_RingShows_103
noncomputable def c_towpathlaw10_RingShows_105 : Code := Code.r c_towpathlaw10_RingShows_103
noncomputable def c_towpathlaw10_RingShows_106 : Code := Code.r c_towpathlaw10_RingShows_88
noncomputable def c_towpathlaw10_RingShows_107 : Code := Code.l c_towpathlaw10_RingShows_106
noncomputable def c_towpathlaw10_RingShows_108 : Code := Code.l c_towpathlaw10_RingShows_107
noncomputable def r_towpathlaw10_RingShows_108 : Array Oper := Code.ops c_towpathlaw10_RingShows_108
noncomputable def c_towpathlaw10_RingShows_110 : Code := Code.r c_towpathlaw10_RingShows_107
noncomputable def c_towpathlaw10_RingShows_111 : Code := Code.l c_towpathlaw10_RingShows_110
noncomputable def c_towpathlaw10_RingShows_112 : Code := Code.l c_towpathlaw10_RingShows_111
noncomputable def r_towpathlaw10_RingShows_112 : Array Oper := Code.ops c_towpathlaw10_RingShows_112
noncomputable def c_towpathlaw10_RingShows_114 : Code := Code.r c_towpathlaw10_RingShows_111
noncomputable def c_towpathlaw10_RingShows_115 : Code := Code.r c_towpathlaw10_RingShows_110
noncomputable def c_towpathlaw10_RingShows_116 : Code := Code.r c_towpathlaw10_RingShows_106
noncomputable def c_towpathlaw10_RingShows_117 : Code := Code.l c_towpathlaw10_RingShows_116
noncomputable def c_towpathlaw10_RingShows_118 : Code := Code.l c_towpathlaw10_RingShows_117
noncomputable def r_towpathlaw10_RingShows_118 : Array Oper := Code.ops c_towpathlaw10_RingShows_118
noncomputable def c_towpathlaw10_RingShows_120 : Code := Code.r c_towpathlaw10_RingShows_117
noncomputable def c_towpathlaw10_RingShows_121 : Code := Code.l c_towpathlaw10_RingShows_120
noncomputable def c_towpathlaw10_RingShows_122 : Code := Code.l c_towpathlaw10_RingShows_121
noncomputable def c_towpathlaw10_RingShows_123 : Code := Code.l c_towpathlaw10_RingShows_122
noncomputable def c_towpathlaw10_RingShows_124 : Code := Code.l c_towpathlaw10_RingShows_123
noncomputable def r_towpathlaw10_RingShows_124 : Array Oper := Code.ops c_towpathlaw10_RingShows_124
noncomputable def c_towpathlaw10_RingShows_126 : Code := Code.r c_towpathlaw10_RingShows_123
noncomputable def c_towpathlaw10_RingShows_127 : Code := Code.l c_towpathlaw10_RingShows_126
noncomputable def c_towpathlaw10_RingShows_128 : Code := Code.r c_towpathlaw10_RingShows_126
noncomputable def c_towpathlaw10_RingShows_129 : Code := Code.r c_towpathlaw10_RingShows_122
noncomputable def c_towpathlaw10_RingShows_130 : Code := Code.l c_towpathlaw10_RingShows_129
noncomputable def c_towpathlaw10_RingShows_131 : Code := Code.l c_towpathlaw10_RingShows_130
noncomputable def c_towpathlaw10_RingShows_132 : Code := Code.l c_towpathlaw10_RingShows_131
noncomputable def r_towpathlaw10_RingShows_132 : Array Oper := Code.ops c_towpathlaw10_RingShows_132
noncomputable def c_towpathlaw10_RingShows_134 : Code := Code.r c_towpathlaw10_RingShows_131
noncomputable def c_towpathlaw10_RingShows_135 : Code := Code.l c_towpathlaw10_RingShows_134
noncomputable def r_towpathlaw10_RingShows_135 : Array Oper := Code.ops c_towpathlaw10_RingShows_135
noncomputable def c_towpathlaw10_RingShows_137 : Code := Code.r c_towpathlaw10_RingShows_134
noncomputable def c_towpathlaw10_RingShows_138 : Code := Code.l c_towpathlaw10_RingShows_137
noncomputable def c_towpathlaw10_RingShows_139 : Code := Code.l c_towpathlaw10_RingShows_138
noncomputable def r_towpathlaw10_RingShows_139 : Array Oper := Code.ops c_towpathlaw10_RingShows_139
noncomputable def c_towpathlaw10_RingShows_141 : Code := Code.r c_towpathlaw10_RingShows_138
noncomputable def c_towpathlaw10_RingShows_142 : Code := Code.r c_towpathlaw10_RingShows_137
noncomputable def c_towpathlaw10_RingShows_143 : Code := Code.r c_towpathlaw10_RingShows_129
noncomputable def r_towpathlaw10_RingShows_143 : Array Oper := Code.ops c_towpathlaw10_RingShows_143
noncomputable def c_towpathlaw10_RingShows_145 : Code := Code.r c_towpathlaw10_RingShows_116
noncomputable def c_towpathlaw10_RingShows_146 : Code := Code.l c_towpathlaw10_RingShows_145
noncomputable def r_towpathlaw10_RingShows_146 : Array Oper := Code.ops c_towpathlaw10_RingShows_146
noncomputable def c_towpathlaw10_RingShows_148 : Code := Code.r c_towpathlaw10_RingShows_145
def o_towpathlaw10_RingShows_4 : List Nat := [0, 1, 2, 3, 4, 5, 6, 7, 8, 9, 10, 11, 12]

set_option maxRecDepth 100000 in
set_option maxHeartbeats 4000000 in
theorem S_towpathlaw10_RingShows {s : T_towpathlaw10_Show} {w : World} {R : Bool → World → Prop} (h : F_towpathlaw10_RingShows s R w) : C_towpathlaw10_RingShows s w R := by
  unfold F_towpathlaw10_RingShows at h
  unfold C_towpathlaw10_RingShows
  refine Calls.mono (calls_of_wpY (args := [Value.agg #[Value.int .u8 s.Capacity, Value.int .u8 s.Taken, Value.int .u8 s.Most, Value.slice s.Things.ptr s.Things.len s.Things.cap]]) (R := fun v w' => ∃ (r0 : Bool), v = Value.bool r0 ∧ R r0 w') Try.func11 (c := c_towpathlaw10_RingShows_0) (by kernel_rfl) 129 (by kernel_rfl) (by kernel_rfl) [(0, Value.agg #[Value.int .u8 s.Capacity, Value.int .u8 s.Taken, Value.int .u8 s.Most, Value.slice s.Things.ptr s.Things.len s.Things.cap])] (by kernel_rfl) ?_) ?_
  · letI : Rnd := rndY Try.prog Try.f11 (fun v w' => ∃ (r0 : Bool), v = Value.bool r0 ∧ R r0 w')
    refine wpE_seq (x := c_towpathlaw10_RingShows_1) (y := c_towpathlaw10_RingShows_3) (by kernel_rfl) ?_
    refine wpE_region (id := 0) (ops := r_towpathlaw10_RingShows_1) (by kernel_rfl) ?_
    refine reg_run [] 0 [(0, [], Value.agg #[Value.int .u8 s.Capacity, Value.int .u8 s.Taken, Value.int .u8 s.Most, Value.slice s.Things.ptr s.Things.len s.Things.cap])] (by kernel_rfl) (by kernel_rfl) ?_
    refine reg_new (op := (Go.Op.box 71 (Go.Operand.tmp 0))) (ty := 0) (dst := some 1) (fun bb => Value.pointer (some ⟨bb, 0, none⟩)) (Obj.cells ([Value.int .u8 s.Capacity, Value.int .u8 s.Taken, Value.int .u8 s.Most, Value.slice s.Things.ptr s.Things.len s.Things.cap]).toArray ty_towpathlaw10_Show (0, 0)) (by kernel_rfl) (by kernel_rfl) (fun b_ w1 hb hw => ?_)
    replace h := h b_ w1 hb hw
    clear hb hw
    refine reg_run [.plain] 2 [(1, [], Value.pointer (some ⟨b_, 0, none⟩)), (2, [], Value.bool false)] (by kernel_rfl) (by kernel_rfl) ?_
    refine reg_end [(1, Value.pointer (some ⟨b_, 0, none⟩)), (2, Value.bool false)] (by kernel_rfl) (by kernel_rfl) ?_
    change WpE _ _ c_towpathlaw10_RingShows_3 _ _ _
    refine wpE_seq (x := c_towpathlaw10_RingShows_4) (y := c_towpathlaw10_RingShows_6) (by kernel_rfl) ?_
    refine wpY_of_wp0 ?_
    letI : Rnd := rnd0
    refine wpE_mixregion (id := 1) (ops := r_towpathlaw10_RingShows_4) o_towpathlaw10_RingShows_4 (by kernel_rfl) (by kernel_rfl) (by kernel_rfl) (by kernel_rfl) (fun w2 hw => ?_)
    replace h := h w2 hw
    clear hw
    refine mreg_run [.plain] 1 [(1, [], Value.pointer (some ⟨b_, 0, none⟩)), (2, [], Value.bool false), (17, [], Value.pointer (some ⟨b_, 0, none⟩))] (by kernel_rfl) (by kernel_rfl) ?_
    obtain ⟨capacity, hc, h⟩ := h
    refine mreg_load1 (i := 1) (by kernel_rfl) (t := 5) (a := (Go.Operand.tmp 17)) (b := b_) (o := 0) (ty := 5) (dst := some 18) (by kernel_rfl) (by kernel_rfl) (by kernel_rfl) hc ?_
    refine mreg_run [.plain] 3 [(1, [], Value.pointer (some ⟨b_, 0, none⟩)), (2, [], Value.bool false), (18, [], Value.int .u8 capacity), (19, [], Value.pointer (some ⟨b_, 3, none⟩))] (by kernel_rfl) (by kernel_rfl) ?_
    obtain ⟨things, hc, h⟩ := h
    refine mreg_load1 (i := 3) (by kernel_rfl) (t := 49) (a := (Go.Operand.tmp 19)) (b := b_) (o := 3) (ty := 49) (dst := some 20) (by kernel_rfl) (by kernel_rfl) (by kernel_rfl) hc ?_
    refine mreg_run [.plain] 5 [(1, [], Value.pointer (some ⟨b_, 0, none⟩)), (2, [], Value.bool false), (18, [], Value.int .u8 capacity), (20, [], Value.slice things.ptr things.len things.cap), (21, [], Value.pointer (some ⟨b_, 1, none⟩))] (by kernel_rfl) (by kernel_rfl) ?_
    obtain ⟨taken, hc, h⟩ := h
    refine mreg_load1 (i := 5) (by kernel_rfl) (t := 5) (a := (Go.Operand.tmp 21)) (b := b_) (o := 1) (ty := 5) (dst := some 22) (by kernel_rfl) (by kernel_rfl) (by kernel_rfl) hc ?_
    refine mreg_run [.plain] 7 [(2, [], Value.bool false), (18, [], Value.int .u8 capacity), (20, [], Value.slice things.ptr things.len things.cap), (22, [], Value.int .u8 taken), (23, [], Value.pointer (some ⟨b_, 2, none⟩))] (by kernel_rfl) (by kernel_rfl) ?_
    obtain ⟨v24, hc, h⟩ := h
    refine mreg_load1 (i := 7) (by kernel_rfl) (t := 5) (a := (Go.Operand.tmp 23)) (b := b_) (o := 2) (ty := 5) (dst := some 24) (by kernel_rfl) (by kernel_rfl) (by kernel_rfl) hc ?_
    refine mreg_run [] 8 [(2, [], Value.bool false), (18, [], Value.int .u8 capacity), (20, [], Value.slice things.ptr things.len things.cap), (22, [], Value.int .u8 taken), (24, [], Value.int .u8 v24)] (by kernel_rfl) (by kernel_rfl) ?_
    refine mreg_new (op := (Go.Op.alloc 5)) (ty := 0) (dst := some 6) 8 [] [(7, fun w' => w'.cell? ⟨b_, 2, none⟩ = some (Value.int .u8 v24)), (5, fun w' => w'.cell? ⟨b_, 1, none⟩ = some (Value.int .u8 taken)), (3, fun w' => w'.cell? ⟨b_, 3, none⟩ = some (Value.slice things.ptr things.len things.cap)), (1, fun w' => w'.cell? ⟨b_, 0, none⟩ = some (Value.int .u8 capacity))] (fun bb => Value.pointer (some ⟨bb, 0, none⟩)) (Obj.cells ([Value.int .u8 0]).toArray ty_uint8 (0, 0)) (by kernel_rfl) (by kernel_rfl) (by kernel_rfl) (by kernel_rfl) (by kernel_rfl) (by kernel_rfl) (fun b_1 w3 hb hw => ?_)
    replace h := h b_1 w3 hb hw
    clear hb hw
    obtain ⟨hk0, hk1, hk2, hk3, h⟩ := h
    refine ⟨⟨hk0, hk1, hk2, hk3, trivial⟩, ?_⟩
    refine mreg_run [.plain, .plain, .plain] 12 [(2, [], Value.bool false), (3, [], Value.int .u8 capacity), (4, [], Value.slice things.ptr things.len things.cap), (5, [], Value.int .u8 taken), (6, [], Value.pointer (some ⟨b_1, 0, none⟩)), (24, [], Value.int .u8 v24)] (by kernel_rfl) (by kernel_rfl) ?_
    obtain ⟨hc, h⟩ := h
    refine mreg_store (t := 5) (a := (Go.Operand.tmp 6)) (x := (Go.Operand.tmp 24)) (b := b_1) (o := 0) (k := 1) (ty := 0) (dst := none) 12 [0, 1, 2, 3, 4, 5, 6, 7, 8, 9, 10, 11] [] [Value.int .u8 v24] (by kernel_rfl) (by kernel_rfl) (by kernel_rfl) (by kernel_rfl) (by kernel_rfl) (by kernel_rfl) (by kernel_rfl) (by kernel_rfl) (by kernel_rfl) (by kernel_rfl) hc (fun w4 hw => ?_)
    replace h := h w4 hw
    clear hw
    refine ⟨trivial, ?_⟩
    refine mreg_end [(2, Value.bool false), (3, Value.int .u8 capacity), (4, Value.slice things.ptr things.len things.cap), (5, Value.int .u8 taken), (6, Value.pointer (some ⟨b_1, 0, none⟩))] (by kernel_rfl) (by kernel_rfl) (by kernel_rfl) ?_
    letI : Rnd := rndY Try.prog Try.f11 (fun v w' => ∃ (r0 : Bool), v = Value.bool r0 ∧ R r0 w')
    change WpE _ _ c_towpathlaw10_RingShows_6 _ _ _
    refine wpE_seq (x := c_towpathlaw10_RingShows_7) (y := c_towpathlaw10_RingShows_16) (by kernel_rfl) ?_
    refine wpE_seq (x := c_towpathlaw10_RingShows_8) (y := c_towpathlaw10_RingShows_10) (by kernel_rfl) ?_
    refine wpE_region (id := 2) (ops := r_towpathlaw10_RingShows_8) (by kernel_rfl) ?_
    refine reg_run [] 0 [(2, [], Value.bool false), (3, [], Value.int .u8 capacity), (4, [], Value.slice things.ptr things.len things.cap), (5, [], Value.int .u8 taken), (6, [], Value.pointer (some ⟨b_1, 0, none⟩))] (by kernel_rfl) (by kernel_rfl) ?_
    refine reg_enter (op := (Go.Op.call (Go.Call.mk (Go.Callee.value (Go.Operand.func 21)) #[] #[]))) (ty := 4) (dst := some 25) 21 #[] (by kernel_rfl) (fun ww => by kernel_rfl) (Calls.mono h ?_)
    rintro _ w5 ⟨v25, rfl, h⟩
    refine ⟨_, rfl, ?_⟩
    refine reg_run [.plain, .plain, .plain, .plain, .plain, .pick] 7 [(2, [], Value.bool false), (3, [], Value.int .u8 capacity), (4, [], Value.slice things.ptr things.len things.cap), (5, [], Value.int .u8 taken), (6, [], Value.pointer (some ⟨b_1, 0, none⟩)), (31, [], Value.bool ((!v25) || (decide (((things.len : Nat) : Int) > 1000))))] (by kernel_rfl) (by kernel_rfl) ?_
    refine reg_end [(2, Value.bool false), (3, Value.int .u8 capacity), (4, Value.slice things.ptr things.len things.cap), (5, Value.int .u8 taken), (6, Value.pointer (some ⟨b_1, 0, none⟩)), (31, Value.bool ((!v25) || (decide (((things.len : Nat) : Int) > 1000))))] (by kernel_rfl) (by kernel_rfl) ?_
    change WpE _ _ c_towpathlaw10_RingShows_10 _ _ _
    refine wpE_cond (o := (Operand.tmp 31)) (b := ((!v25) || (decide (((things.len : Nat) : Int) > 1000)))) (x := c_towpathlaw10_RingShows_11) (y := c_towpathlaw10_RingShows_15) (by kernel_rfl) (by kernel_rfl) (fun hb => ?_) (fun hb => ?_)
    · replace h := h.1 hb
      refine wpE_seq (x := c_towpathlaw10_RingShows_12) (y := c_towpathlaw10_RingShows_14) (by kernel_rfl) ?_
      refine wpE_region (id := 3) (ops := r_towpathlaw10_RingShows_12) (by kernel_rfl) ?_
      refine reg_run [] 0 [(2, [], Value.bool false)] (by kernel_rfl) (by kernel_rfl) ?_
      refine reg_enter (op := (Go.Op.call (Go.Call.mk (Go.Callee.value (Go.Operand.func 21)) #[] #[]))) (ty := 4) (dst := some 32) 21 #[] (by kernel_rfl) (fun ww => by kernel_rfl) (Calls.mono h ?_)
      rintro _ w6 ⟨v32, rfl, h⟩
      refine ⟨_, rfl, ?_⟩
      refine reg_run [.plain] 2 [(2, [], Value.bool v32)] (by kernel_rfl) (by kernel_rfl) ?_
      refine reg_end [(2, Value.bool v32)] (by kernel_rfl) (by kernel_rfl) ?_
      change WpE _ _ c_towpathlaw10_RingShows_14 _ _ _
      refine wpE_ret (by kernel_rfl) ?_
      repeat (first | refine seqQ_ret ?_ | refine blockQ_ret ?_ | refine loopQ_ret ?_ | refine cutQ_ret ?_)
      exact retS (rs := [(Go.ResultVar.tmp 2)]) (v := Value.bool v32) (by kernel_rfl) (⟨by kernel_rfl, trivial⟩) ⟨v32, rfl, h⟩
    · replace h := h.2 hb
      refine wpE_skip (by kernel_rfl) ?_
      change WpE _ _ c_towpathlaw10_RingShows_16 _ _ _
      refine wpE_seq (x := c_towpathlaw10_RingShows_17) (y := c_towpathlaw10_RingShows_19) (by kernel_rfl) ?_
      refine wpE_region (id := 4) (ops := r_towpathlaw10_RingShows_17) (by kernel_rfl) ?_
      refine reg_run [.plain, .plain, .plain] 3 [(2, [], Value.bool false), (4, [], Value.slice things.ptr things.len things.cap), (5, [], Value.int .u8 taken), (6, [], Value.pointer (some ⟨b_1, 0, none⟩)), (36, [], Value.int .i64 (IntKind.i64.wrap (1 + (IntKind.i64.wrap capacity))))] (by kernel_rfl) (by kernel_rfl) ?_
      refine reg_enter (op := (Go.Op.call (Go.Call.mk (Go.Callee.value (Go.Operand.func 22)) #[(Go.Operand.tmp 36)] #[3]))) (ty := 37) (dst := some 37) 22 #[Value.int .i64 (IntKind.i64.wrap (1 + (IntKind.i64.wrap capacity)))] (by kernel_rfl) (fun ww => by kernel_rfl) (Calls.mono h ?_)
      rintro _ w7 ⟨r, e, rfl, h⟩
      refine ⟨_, rfl, ?_⟩
      refine reg_run [.plain, .plain, .plain, .plain, .plain] 9 [(2, [], Value.bool false), (4, [], Value.slice things.ptr things.len things.cap), (5, [], Value.int .u8 taken), (6, [], Value.pointer (some ⟨b_1, 0, none⟩)), (7, [], Value.pointer r), (8, [], Value.int .i64 e)] (by kernel_rfl) (by kernel_rfl) ?_
      refine reg_end [(2, Value.bool false), (4, Value.slice things.ptr things.len things.cap), (5, Value.int .u8 taken), (6, Value.pointer (some ⟨b_1, 0, none⟩)), (7, Value.pointer r), (8, Value.int .i64 e)] (by kernel_rfl) (by kernel_rfl) ?_
      change WpE _ _ c_towpathlaw10_RingShows_19 _ _ _
      refine wpE_seq (x := c_towpathlaw10_RingShows_20) (y := c_towpathlaw10_RingShows_29) (by kernel_rfl) ?_
      refine wpE_seq (x := c_towpathlaw10_RingShows_21) (y := c_towpathlaw10_RingShows_23) (by kernel_rfl) ?_
      refine wpE_region (id := 5) (ops := r_towpathlaw10_RingShows_21) (by kernel_rfl) ?_
      refine reg_run [.plain, .plain] 2 [(2, [], Value.bool false), (4, [], Value.slice things.ptr things.len things.cap), (5, [], Value.int .u8 taken), (6, [], Value.pointer (some ⟨b_1, 0, none⟩)), (7, [], Value.pointer r), (41, [], Value.bool (e != 0))] (by kernel_rfl) (by kernel_rfl) ?_
      refine reg_end [(2, Value.bool false), (4, Value.slice things.ptr things.len things.cap), (5, Value.int .u8 taken), (6, Value.pointer (some ⟨b_1, 0, none⟩)), (7, Value.pointer r), (41, Value.bool (e != 0))] (by kernel_rfl) (by kernel_rfl) ?_
      change WpE _ _ c_towpathlaw10_RingShows_23 _ _ _
      refine wpE_cond (o := (Operand.tmp 41)) (b := (e != 0)) (x := c_towpathlaw10_RingShows_24) (y := c_towpathlaw10_RingShows_28) (by kernel_rfl) (by kernel_rfl) (fun hb => ?_) (fun hb => ?_)
      · replace h := h.1 hb
        refine wpE_seq (x := c_towpathlaw10_RingShows_25) (y := c_towpathlaw10_RingShows_27) (by kernel_rfl) ?_
        refine wpE_region (id := 6) (ops := r_towpathlaw10_RingShows_25) (by kernel_rfl) ?_
        refine reg_run [.plain] 1 [(2, [], Value.bool false)] (by kernel_rfl) (by kernel_rfl) ?_
        refine reg_end [(2, Value.bool false)] (by kernel_rfl) (by kernel_rfl) ?_
        change WpE _ _ c_towpathlaw10_RingShows_27 _ _ _
        refine wpE_ret (by kernel_rfl) ?_
        repeat (first | refine seqQ_ret ?_ | refine blockQ_ret ?_ | refine loopQ_ret ?_ | refine cutQ_ret ?_)
        exact retS (rs := [(Go.ResultVar.tmp 2)]) (v := Value.bool false) (by kernel_rfl) (⟨by kernel_rfl, trivial⟩) ⟨false, rfl, h⟩
      · replace h := h.2 hb
        refine wpE_skip (by kernel_rfl) ?_
        change WpE _ _ c_towpathlaw10_RingShows_29 _ _ _
        refine wpE_seq (x := c_towpathlaw10_RingShows_30) (y := c_towpathlaw10_RingShows_63) (by kernel_rfl) ?_
        refine wpE_seq (x := c_towpathlaw10_RingShows_31) (y := c_towpathlaw10_RingShows_33) (by kernel_rfl) ?_
        refine wpE_region (id := 7) (ops := r_towpathlaw10_RingShows_31) (by kernel_rfl) ?_
        refine reg_run [.plain] 1 [(2, [], Value.bool false), (4, [], Value.slice things.ptr things.len things.cap), (5, [], Value.int .u8 taken), (6, [], Value.pointer (some ⟨b_1, 0, none⟩)), (7, [], Value.pointer r), (9, [], Value.int .i64 0)] (by kernel_rfl) (by kernel_rfl) ?_
        refine reg_end [(2, Value.bool false), (4, Value.slice things.ptr things.len things.cap), (5, Value.int .u8 taken), (6, Value.pointer (some ⟨b_1, 0, none⟩)), (7, Value.pointer r), (9, Value.int .i64 0)] (by kernel_rfl) (by kernel_rfl) ?_
        change WpE _ _ c_towpathlaw10_RingShows_33 _ _ _
        refine wpE_block (id := 0) (x := c_towpathlaw10_RingShows_34) (by kernel_rfl) ?_
        obtain ⟨I, μ, h0, hr⟩ := h
        refine wpE_loop (x := c_towpathlaw10_RingShows_35) (by kernel_rfl) (fun m l w => ∃ (t2 : Bool) (i : Int), l = [(2, Value.bool t2), (4, Value.slice things.ptr things.len things.cap), (5, Value.int .u8 taken), (6, Value.pointer (some ⟨b_1, 0, none⟩)), (7, Value.pointer r), (9, Value.int .i64 i)] ∧ I t2 i w ∧ μ t2 i w = m) (l' := [(2, Value.bool false), (4, Value.slice things.ptr things.len things.cap), (5, Value.int .u8 taken), (6, Value.pointer (some ⟨b_1, 0, none⟩)), (7, Value.pointer r), (9, Value.int .i64 0)]) (Sub.mk (by kernel_rfl)) ⟨false, 0, rfl, h0, rfl⟩ ?_
        rintro _ _ w8 ⟨t2, i, rfl, hI, rfl⟩
        obtain ⟨again_, again__h, h⟩ : ∃ again_ : Bool → Int → World → Prop, (∀ t2' i' w', again_ t2' i' w' → I t2' i' w' ∧ μ t2' i' w' < μ t2 i w8) ∧ F_towpathlaw10_RingShows_L0 R b_ things taken b_1 r again_ t2 i w8 := ⟨_, fun _ _ _ h => h, hr t2 i w8 hI⟩
        clear h0 hI
        unfold F_towpathlaw10_RingShows_L0 at h
        refine wpE_seq (x := c_towpathlaw10_RingShows_36) (y := c_towpathlaw10_RingShows_42) (by kernel_rfl) ?_
        refine wpE_seq (x := c_towpathlaw10_RingShows_37) (y := c_towpathlaw10_RingShows_39) (by kernel_rfl) ?_
        refine wpE_region (id := 8) (ops := r_towpathlaw10_RingShows_37) (by kernel_rfl) ?_
        refine reg_run [.plain, .plain, .plain, .plain] 4 [(2, [], Value.bool t2), (4, [], Value.slice things.ptr things.len things.cap), (5, [], Value.int .u8 taken), (6, [], Value.pointer (some ⟨b_1, 0, none⟩)), (7, [], Value.pointer r), (9, [], Value.int .i64 i), (45, [], Value.bool (decide (i < ((things.len : Nat) : Int))))] (by kernel_rfl) (by kernel_rfl) ?_
        refine reg_end [(2, Value.bool t2), (4, Value.slice things.ptr things.len things.cap), (5, Value.int .u8 taken), (6, Value.pointer (some ⟨b_1, 0, none⟩)), (7, Value.pointer r), (9, Value.int .i64 i), (45, Value.bool (decide (i < ((things.len : Nat) : Int))))] (by kernel_rfl) (by kernel_rfl) ?_
        change WpE _ _ c_towpathlaw10_RingShows_39 _ _ _
        refine wpE_cond (o := (Operand.tmp 45)) (b := (decide (i < ((things.len : Nat) : Int)))) (x := c_towpathlaw10_RingShows_40) (y := c_towpathlaw10_RingShows_41) (by kernel_rfl) (by kernel_rfl) (fun hb => ?_) (fun hb => ?_)
        · replace h := h.1 hb
          refine wpE_skip (by kernel_rfl) ?_
          change WpE _ _ c_towpathlaw10_RingShows_42 _ _ _
          refine wpE_seq_cut (x := c_towpathlaw10_RingShows_43) (y := c_towpathlaw10_RingShows_61) (by kernel_rfl) (fun l w => l = [(2, Value.bool t2), (4, Value.slice things.ptr things.len things.cap), (5, Value.int .u8 taken), (6, Value.pointer (some ⟨b_1, 0, none⟩)), (7, Value.pointer r), (9, Value.int .i64 i)] ∧ F_towpathlaw10_RingShows_k1 t2 i again_ w) ?_ ?_
          · refine wpE_block (id := 1) (x := c_towpathlaw10_RingShows_44) (by kernel_rfl) ?_
            refine wpE_seq (x := c_towpathlaw10_RingShows_45) (y := c_towpathlaw10_RingShows_47) (by kernel_rfl) ?_
            refine wpE_region (id := 10) (ops := r_towpathlaw10_RingShows_45) (by kernel_rfl) ?_
            refine reg_run [.plain, .plain, .plain] 3 [(2, [], Value.bool t2), (4, [], Value.slice things.ptr things.len things.cap), (5, [], Value.int .u8 taken), (6, [], Value.pointer (some ⟨b_1, 0, none⟩)), (7, [], Value.pointer r), (9, [], Value.int .i64 i), (48, [], Value.pointer r), (49, [], Value.slice things.ptr things.len things.cap), (50, [], Value.int .i64 i)] (by kernel_rfl) (by kernel_rfl) ?_
            obtain ⟨hp_13, h⟩ := h
            refine reg_conv [(2, [], Value.bool t2), (4, [], Value.slice things.ptr things.len things.cap), (5, [], Value.int .u8 taken), (6, [], Value.pointer (some ⟨b_1, 0, none⟩)), (7, [], Value.pointer r), (9, [], Value.int .i64 i), (48, [], Value.pointer r), (49, [], Value.slice (some ⟨(pblk things.ptr), (poff things.ptr), none⟩) things.len things.cap), (50, [], Value.int .i64 i)] (congrArg (fun pp => ([(2, [], Value.bool t2), (4, [], Value.slice things.ptr things.len things.cap), (5, [], Value.int .u8 taken), (6, [], Value.pointer (some ⟨b_1, 0, none⟩)), (7, [], Value.pointer r), (9, [], Value.int .i64 i), (48, [], Value.pointer r), (49, [], Value.slice pp things.len things.cap), (50, [], Value.int .i64 i)] : GEnv)) hp_13) ?_
            obtain ⟨h0, h1, h⟩ := h
            refine reg_indexS1 (t := 49) (e := 3) (x := (Go.Operand.tmp 49)) (ix := (Go.Operand.tmp 50)) (b := (pblk things.ptr)) (o := (poff things.ptr)) (l := things.len) (c := things.cap) (k := .i64) (j := i) (ty := 0) (dst := some 51) (by kernel_rfl) (by kernel_rfl) (by kernel_rfl) (by kernel_rfl) (by kernel_rfl) h0 h1 ?_
            refine reg_run [] 4 [(2, [], Value.bool t2), (4, [], Value.slice things.ptr things.len things.cap), (5, [], Value.int .u8 taken), (6, [], Value.pointer (some ⟨b_1, 0, none⟩)), (7, [], Value.pointer r), (9, [], Value.int .i64 i), (48, [], Value.pointer r), (51, [], Value.pointer (some ⟨(pblk things.ptr), (poff things.ptr) + i.toNat, none⟩))] (by kernel_rfl) (by kernel_rfl) ?_
            obtain ⟨v52, hc, h⟩ := h
            refine reg_load1 (t := 3) (a := (Go.Operand.tmp 51)) (b := (pblk things.ptr)) (o := ((poff things.ptr) + i.toNat)) (ty := 3) (dst := some 52) (by kernel_rfl) (by kernel_rfl) (by kernel_rfl) hc ?_
            refine reg_run [] 5 [(2, [], Value.bool t2), (4, [], Value.slice things.ptr things.len things.cap), (5, [], Value.int .u8 taken), (6, [], Value.pointer (some ⟨b_1, 0, none⟩)), (7, [], Value.pointer r), (9, [], Value.int .i64 i), (48, [], Value.pointer r), (52, [], Value.int .i64 v52)] (by kernel_rfl) (by kernel_rfl) ?_
            refine reg_enter (op := (Go.Op.call (Go.Call.mk (Go.Callee.value (Go.Operand.func 23)) #[(Go.Operand.tmp 48), (Go.Operand.tmp 52)] #[36, 3]))) (ty := 4) (dst := some 53) 23 #[Value.pointer r, Value.int .i64 v52] (by kernel_rfl) (fun ww => by kernel_rfl) (Calls.mono h ?_)
            rintro _ w10 ⟨v53, rfl, h⟩
            refine ⟨_, rfl, ?_⟩
            refine reg_run [.plain] 7 [(2, [], Value.bool t2), (4, [], Value.slice things.ptr things.len things.cap), (5, [], Value.int .u8 taken), (6, [], Value.pointer (some ⟨b_1, 0, none⟩)), (7, [], Value.pointer r), (9, [], Value.int .i64 i), (54, [], Value.bool (!v53))] (by kernel_rfl) (by kernel_rfl) ?_
            refine reg_end [(2, Value.bool t2), (4, Value.slice things.ptr things.len things.cap), (5, Value.int .u8 taken), (6, Value.pointer (some ⟨b_1, 0, none⟩)), (7, Value.pointer r), (9, Value.int .i64 i), (54, Value.bool (!v53))] (by kernel_rfl) (by kernel_rfl) ?_
            change WpE _ _ c_towpathlaw10_RingShows_47 _ _ _
            refine wpE_cond (o := (Operand.tmp 54)) (b := (!v53)) (x := c_towpathlaw10_RingShows_48) (y := c_towpathlaw10_RingShows_60) (by kernel_rfl) (by kernel_rfl) (fun hb => ?_) (fun hb => ?_)
            · replace h := h.1 hb
              refine wpE_seq (x := c_towpathlaw10_RingShows_49) (y := c_towpathlaw10_RingShows_51) (by kernel_rfl) ?_
              refine wpE_region (id := 11) (ops := r_towpathlaw10_RingShows_49) (by kernel_rfl) ?_
              refine reg_run [.plain] 1 [(2, [], Value.bool t2), (4, [], Value.slice things.ptr things.len things.cap), (5, [], Value.int .u8 taken), (6, [], Value.pointer (some ⟨b_1, 0, none⟩)), (7, [], Value.pointer r), (9, [], Value.int .i64 i), (55, [], Value.pointer r)] (by kernel_rfl) (by kernel_rfl) ?_
              refine reg_enter (op := (Go.Op.call (Go.Call.mk (Go.Callee.value (Go.Operand.func 24)) #[(Go.Operand.tmp 55)] #[36]))) (ty := 40) (dst := some 56) 24 #[Value.pointer r] (by kernel_rfl) (fun ww => by kernel_rfl) (Calls.mono h ?_)
              rintro _ w11 ⟨v56, v56_1, rfl, h⟩
              refine ⟨_, rfl, ?_⟩
              refine reg_end [(2, Value.bool t2), (4, Value.slice things.ptr things.len things.cap), (5, Value.int .u8 taken), (6, Value.pointer (some ⟨b_1, 0, none⟩)), (7, Value.pointer r), (9, Value.int .i64 i)] (by kernel_rfl) (by kernel_rfl) ?_
              change WpE _ _ c_towpathlaw10_RingShows_51 _ _ _
              refine wpE_seq (x := c_towpathlaw10_RingShows_52) (y := c_towpathlaw10_RingShows_54) (by kernel_rfl) ?_
              refine wpE_region (id := 12) (ops := r_towpathlaw10_RingShows_52) (by kernel_rfl) ?_
              refine reg_run [.plain, .plain, .plain] 3 [(2, [], Value.bool t2), (4, [], Value.slice things.ptr things.len things.cap), (5, [], Value.int .u8 taken), (6, [], Value.pointer (some ⟨b_1, 0, none⟩)), (7, [], Value.pointer r), (9, [], Value.int .i64 i), (57, [], Value.pointer r), (58, [], Value.slice things.ptr things.len things.cap), (59, [], Value.int .i64 i)] (by kernel_rfl) (by kernel_rfl) ?_
              obtain ⟨hp_15, h⟩ := h
              refine reg_conv [(2, [], Value.bool t2), (4, [], Value.slice things.ptr things.len things.cap), (5, [], Value.int .u8 taken), (6, [], Value.pointer (some ⟨b_1, 0, none⟩)), (7, [], Value.pointer r), (9, [], Value.int .i64 i), (57, [], Value.pointer r), (58, [], Value.slice (some ⟨(pblk things.ptr), (poff things.ptr), none⟩) things.len things.cap), (59, [], Value.int .i64 i)] (congrArg (fun pp => ([(2, [], Value.bool t2), (4, [], Value.slice things.ptr things.len things.cap), (5, [], Value.int .u8 taken), (6, [], Value.pointer (some ⟨b_1, 0, none⟩)), (7, [], Value.pointer r), (9, [], Value.int .i64 i), (57, [], Value.pointer r), (58, [], Value.slice pp things.len things.cap), (59, [], Value.int .i64 i)] : GEnv)) hp_15) ?_
              obtain ⟨h0, h1, h⟩ := h
              refine reg_indexS1 (t := 49) (e := 3) (x := (Go.Operand.tmp 58)) (ix := (Go.Operand.tmp 59)) (b := (pblk things.ptr)) (o := (poff things.ptr)) (l := things.len) (c := things.cap) (k := .i64) (j := i) (ty := 0) (dst := some 60) (by kernel_rfl) (by kernel_rfl) (by kernel_rfl) (by kernel_rfl) (by kernel_rfl) h0 h1 ?_
              refine reg_run [] 4 [(2, [], Value.bool t2), (4, [], Value.slice things.ptr things.len things.cap), (5, [], Value.int .u8 taken), (6, [], Value.pointer (some ⟨b_1, 0, none⟩)), (7, [], Value.pointer r), (9, [], Value.int .i64 i), (57, [], Value.pointer r), (60, [], Value.pointer (some ⟨(pblk things.ptr), (poff things.ptr) + i.toNat, none⟩))] (by kernel_rfl) (by kernel_rfl) ?_
              obtain ⟨v61, hc, h⟩ := h
              refine reg_load1 (t := 3) (a := (Go.Operand.tmp 60)) (b := (pblk things.ptr)) (o := ((poff things.ptr) + i.toNat)) (ty := 3) (dst := some 61) (by kernel_rfl) (by kernel_rfl) (by kernel_rfl) hc ?_
              refine reg_run [] 5 [(2, [], Value.bool t2), (4, [], Value.slice things.ptr things.len things.cap), (5, [], Value.int .u8 taken), (6, [], Value.pointer (some ⟨b_1, 0, none⟩)), (7, [], Value.pointer r), (9, [], Value.int .i64 i), (57, [], Value.pointer r), (61, [], Value.int .i64 v61)] (by kernel_rfl) (by kernel_rfl) ?_
              refine reg_enter (op := (Go.Op.call (Go.Call.mk (Go.Callee.value (Go.Operand.func 23)) #[(Go.Operand.tmp 57), (Go.Operand.tmp 61)] #[36, 3]))) (ty := 4) (dst := some 62) 23 #[Value.pointer r, Value.int .i64 v61] (by kernel_rfl) (fun ww => by kernel_rfl) (Calls.mono h ?_)
              rintro _ w12 ⟨v62, rfl, h⟩
              refine ⟨_, rfl, ?_⟩
              refine reg_run [.plain] 7 [(2, [], Value.bool t2), (4, [], Value.slice things.ptr things.len things.cap), (5, [], Value.int .u8 taken), (6, [], Value.pointer (some ⟨b_1, 0, none⟩)), (7, [], Value.pointer r), (9, [], Value.int .i64 i), (63, [], Value.bool (!v62))] (by kernel_rfl) (by kernel_rfl) ?_
              refine reg_end [(2, Value.bool t2), (4, Value.slice things.ptr things.len things.cap), (5, Value.int .u8 taken), (6, Value.pointer (some ⟨b_1, 0, none⟩)), (7, Value.pointer r), (9, Value.int .i64 i), (63, Value.bool (!v62))] (by kernel_rfl) (by kernel_rfl) ?_
              change WpE _ _ c_towpathlaw10_RingShows_54 _ _ _
              refine wpE_cond (o := (Operand.tmp 63)) (b := (!v62)) (x := c_towpathlaw10_RingShows_55) (y := c_towpathlaw10_RingShows_59) (by kernel_rfl) (by kernel_rfl) (fun hb => ?_) (fun hb => ?_)
              · replace h := h.1 hb
                refine wpE_seq (x := c_towpathlaw10_RingShows_56) (y := c_towpathlaw10_RingShows_58) (by kernel_rfl) ?_
                refine wpE_region (id := 13) (ops := r_towpathlaw10_RingShows_56) (by kernel_rfl) ?_
                refine reg_run [.plain] 1 [(2, [], Value.bool false)] (by kernel_rfl) (by kernel_rfl) ?_
                refine reg_end [(2, Value.bool false)] (by kernel_rfl) (by kernel_rfl) ?_
                change WpE _ _ c_towpathlaw10_RingShows_58 _ _ _
                refine wpE_ret (by kernel_rfl) ?_
                repeat (first | refine seqQ_ret ?_ | refine blockQ_ret ?_ | refine loopQ_ret ?_ | refine cutQ_ret ?_)
                exact retS (rs := [(Go.ResultVar.tmp 2)]) (v := Value.bool false) (by kernel_rfl) (⟨by kernel_rfl, trivial⟩) ⟨false, rfl, h⟩
              · replace h := h.2 hb
                refine wpE_skip (by kernel_rfl) ?_
                exact ⟨[(2, Value.bool t2), (4, Value.slice things.ptr things.len things.cap), (5, Value.int .u8 taken), (6, Value.pointer (some ⟨b_1, 0, none⟩)), (7, Value.pointer r), (9, Value.int .i64 i)], Sub.mk (by kernel_rfl), rfl, h⟩
            · replace h := h.2 hb
              refine wpE_skip (by kernel_rfl) ?_
              exact ⟨[(2, Value.bool t2), (4, Value.slice things.ptr things.len things.cap), (5, Value.int .u8 taken), (6, Value.pointer (some ⟨b_1, 0, none⟩)), (7, Value.pointer r), (9, Value.int .i64 i)], Sub.mk (by kernel_rfl), rfl, h⟩
          · rintro _ w9 ⟨rfl, h⟩
            unfold F_towpathlaw10_RingShows_k1 at h
            refine wpE_region (id := 9) (ops := r_towpathlaw10_RingShows_61) (by kernel_rfl) ?_
            refine reg_run [.plain, .plain, .plain] 3 [(2, [], Value.bool t2), (4, [], Value.slice things.ptr things.len things.cap), (5, [], Value.int .u8 taken), (6, [], Value.pointer (some ⟨b_1, 0, none⟩)), (7, [], Value.pointer r), (9, [], Value.int .i64 (IntKind.i64.wrap (i + 1)))] (by kernel_rfl) (by kernel_rfl) ?_
            refine reg_end [(2, Value.bool t2), (4, Value.slice things.ptr things.len things.cap), (5, Value.int .u8 taken), (6, Value.pointer (some ⟨b_1, 0, none⟩)), (7, Value.pointer r), (9, Value.int .i64 (IntKind.i64.wrap (i + 1)))] (by kernel_rfl) (by kernel_rfl) ?_
            have hb_ := again__h _ _ _ h
            exact ⟨_, hb_.2, [(2, Value.bool t2), (4, Value.slice things.ptr things.len things.cap), (5, Value.int .u8 taken), (6, Value.pointer (some ⟨b_1, 0, none⟩)), (7, Value.pointer r), (9, Value.int .i64 (IntKind.i64.wrap (i + 1)))], Sub.mk (by kernel_rfl), t2, (IntKind.i64.wrap (i + 1)), rfl, hb_.1, rfl⟩
        · replace h := h.2 hb
          refine wpE_exit (id := 0) (by kernel_rfl) ?_
          change WpE _ _ c_towpathlaw10_RingShows_63 _ _ _
          refine wpE_seq (x := c_towpathlaw10_RingShows_64) (y := c_towpathlaw10_RingShows_82) (by kernel_rfl) ?_
          refine wpE_seq (x := c_towpathlaw10_RingShows_65) (y := c_towpathlaw10_RingShows_67) (by kernel_rfl) ?_
          refine wpE_region (id := 14) (ops := r_towpathlaw10_RingShows_65) (by kernel_rfl) ?_
          refine reg_run [.plain] 1 [(2, [], Value.bool t2), (5, [], Value.int .u8 taken), (6, [], Value.pointer (some ⟨b_1, 0, none⟩)), (7, [], Value.pointer r), (10, [], Value.int .i64 0)] (by kernel_rfl) (by kernel_rfl) ?_
          refine reg_end [(2, Value.bool t2), (5, Value.int .u8 taken), (6, Value.pointer (some ⟨b_1, 0, none⟩)), (7, Value.pointer r), (10, Value.int .i64 0)] (by kernel_rfl) (by kernel_rfl) ?_
          change WpE _ _ c_towpathlaw10_RingShows_67 _ _ _
          refine wpE_block (id := 2) (x := c_towpathlaw10_RingShows_68) (by kernel_rfl) ?_
          obtain ⟨I, μ, h0, hr⟩ := h
          refine wpE_loop (x := c_towpathlaw10_RingShows_69) (by kernel_rfl) (fun m l w => ∃ (i1 : Int), l = [(2, Value.bool t2), (5, Value.int .u8 taken), (6, Value.pointer (some ⟨b_1, 0, none⟩)), (7, Value.pointer r), (10, Value.int .i64 i1)] ∧ I i1 w ∧ μ i1 w = m) (l' := [(2, Value.bool t2), (5, Value.int .u8 taken), (6, Value.pointer (some ⟨b_1, 0, none⟩)), (7, Value.pointer r), (10, Value.int .i64 0)]) (Sub.mk (by kernel_rfl)) ⟨0, rfl, h0, rfl⟩ ?_
          rintro _ _ w13 ⟨i1, rfl, hI, rfl⟩
          obtain ⟨again_1, again_1_h, h⟩ : ∃ again_1 : Int → World → Prop, (∀ i1' w', again_1 i1' w' → I i1' w' ∧ μ i1' w' < μ i1 w13) ∧ F_towpathlaw10_RingShows_L2 R b_ taken b_1 r again_1 i1 w13 := ⟨_, fun _ _ h => h, hr i1 w13 hI⟩
          clear h0 hI
          unfold F_towpathlaw10_RingShows_L2 at h
          refine wpE_seq (x := c_towpathlaw10_RingShows_70) (y := c_towpathlaw10_RingShows_76) (by kernel_rfl) ?_
          refine wpE_seq (x := c_towpathlaw10_RingShows_71) (y := c_towpathlaw10_RingShows_73) (by kernel_rfl) ?_
          refine wpE_region (id := 15) (ops := r_towpathlaw10_RingShows_71) (by kernel_rfl) ?_
          refine reg_run [.plain, .plain, .plain, .plain] 4 [(2, [], Value.bool t2), (5, [], Value.int .u8 taken), (6, [], Value.pointer (some ⟨b_1, 0, none⟩)), (7, [], Value.pointer r), (10, [], Value.int .i64 i1), (67, [], Value.bool (decide (i1 < (IntKind.i64.wrap taken))))] (by kernel_rfl) (by kernel_rfl) ?_
          refine reg_end [(2, Value.bool t2), (5, Value.int .u8 taken), (6, Value.pointer (some ⟨b_1, 0, none⟩)), (7, Value.pointer r), (10, Value.int .i64 i1), (67, Value.bool (decide (i1 < (IntKind.i64.wrap taken))))] (by kernel_rfl) (by kernel_rfl) ?_
          change WpE _ _ c_towpathlaw10_RingShows_73 _ _ _
          refine wpE_cond (o := (Operand.tmp 67)) (b := (decide (i1 < (IntKind.i64.wrap taken)))) (x := c_towpathlaw10_RingShows_74) (y := c_towpathlaw10_RingShows_75) (by kernel_rfl) (by kernel_rfl) (fun hb => ?_) (fun hb => ?_)
          · replace h := h.1 hb
            refine wpE_skip (by kernel_rfl) ?_
            change WpE _ _ c_towpathlaw10_RingShows_76 _ _ _
            refine wpE_seq (x := c_towpathlaw10_RingShows_77) (y := c_towpathlaw10_RingShows_80) (by kernel_rfl) ?_
            refine wpE_block (id := 3) (x := c_towpathlaw10_RingShows_78) (by kernel_rfl) ?_
            refine wpE_region (id := 17) (ops := r_towpathlaw10_RingShows_78) (by kernel_rfl) ?_
            refine reg_run [.plain] 1 [(2, [], Value.bool t2), (5, [], Value.int .u8 taken), (6, [], Value.pointer (some ⟨b_1, 0, none⟩)), (7, [], Value.pointer r), (10, [], Value.int .i64 i1), (70, [], Value.pointer r)] (by kernel_rfl) (by kernel_rfl) ?_
            refine reg_enter (op := (Go.Op.call (Go.Call.mk (Go.Callee.value (Go.Operand.func 24)) #[(Go.Operand.tmp 70)] #[36]))) (ty := 40) (dst := some 71) 24 #[Value.pointer r] (by kernel_rfl) (fun ww => by kernel_rfl) (Calls.mono h ?_)
            rintro _ w14 ⟨v71, v71_1, rfl, h⟩
            refine ⟨_, rfl, ?_⟩
            refine reg_end [(2, Value.bool t2), (5, Value.int .u8 taken), (6, Value.pointer (some ⟨b_1, 0, none⟩)), (7, Value.pointer r), (10, Value.int .i64 i1)] (by kernel_rfl) (by kernel_rfl) ?_
            change WpE _ _ c_towpathlaw10_RingShows_80 _ _ _
            refine wpE_region (id := 16) (ops := r_towpathlaw10_RingShows_80) (by kernel_rfl) ?_
            refine reg_run [.plain, .plain, .plain] 3 [(2, [], Value.bool t2), (5, [], Value.int .u8 taken), (6, [], Value.pointer (some ⟨b_1, 0, none⟩)), (7, [], Value.pointer r), (10, [], Value.int .i64 (IntKind.i64.wrap (i1 + 1)))] (by kernel_rfl) (by kernel_rfl) ?_
            refine reg_end [(2, Value.bool t2), (5, Value.int .u8 taken), (6, Value.pointer (some ⟨b_1, 0, none⟩)), (7, Value.pointer r), (10, Value.int .i64 (IntKind.i64.wrap (i1 + 1)))] (by kernel_rfl) (by kernel_rfl) ?_
            have hb_ := again_1_h _ _ h
            exact ⟨_, hb_.2, [(2, Value.bool t2), (5, Value.int .u8 taken), (6, Value.pointer (some ⟨b_1, 0, none⟩)), (7, Value.pointer r), (10, Value.int .i64 (IntKind.i64.wrap (i1 + 1)))], Sub.mk (by kernel_rfl), (IntKind.i64.wrap (i1 + 1)), rfl, hb_.1, rfl⟩
          · replace h := h.2 hb
            refine wpE_exit (id := 2) (by kernel_rfl) ?_
            change WpE _ _ c_towpathlaw10_RingShows_82 _ _ _
            refine wpE_seq (x := c_towpathlaw10_RingShows_83) (y := c_towpathlaw10_RingShows_85) (by kernel_rfl) ?_
            refine wpE_region (id := 18) (ops := r_towpathlaw10_RingShows_83) (by kernel_rfl) ?_
            refine reg_run [.plain] 1 [(2, [], Value.bool t2), (6, [], Value.pointer (some ⟨b_1, 0, none⟩)), (7, [], Value.pointer r), (72, [], Value.pointer r)] (by kernel_rfl) (by kernel_rfl) ?_
            refine reg_enter (op := (Go.Op.call (Go.Call.mk (Go.Callee.value (Go.Operand.func 25)) #[(Go.Operand.tmp 72)] #[36]))) (ty := 3) (dst := some 73) 25 #[Value.pointer r] (by kernel_rfl) (fun ww => by kernel_rfl) (Calls.mono h ?_)
            rintro _ w15 ⟨v73, rfl, h⟩
            refine ⟨_, rfl, ?_⟩
            refine reg_run [.plain] 3 [(2, [], Value.bool t2), (6, [], Value.pointer (some ⟨b_1, 0, none⟩)), (7, [], Value.pointer r), (11, [], Value.int .i64 v73)] (by kernel_rfl) (by kernel_rfl) ?_
            refine reg_end [(2, Value.bool t2), (6, Value.pointer (some ⟨b_1, 0, none⟩)), (7, Value.pointer r), (11, Value.int .i64 v73)] (by kernel_rfl) (by kernel_rfl) ?_
            change WpE _ _ c_towpathlaw10_RingShows_85 _ _ _
            refine wpE_seq (x := c_towpathlaw10_RingShows_86) (y := c_towpathlaw10_RingShows_88) (by kernel_rfl) ?_
            refine wpE_region (id := 19) (ops := r_towpathlaw10_RingShows_86) (by kernel_rfl) ?_
            refine reg_run [] 0 [(2, [], Value.bool t2), (6, [], Value.pointer (some ⟨b_1, 0, none⟩)), (7, [], Value.pointer r), (11, [], Value.int .i64 v73)] (by kernel_rfl) (by kernel_rfl) ?_
            refine reg_new (op := (Go.Op.alloc 49)) (ty := 0) (dst := some 12) (fun bb => Value.pointer (some ⟨bb, 0, none⟩)) (Obj.cells ([Value.slice none 0 0]).toArray ty_sl_int (0, 0)) (by kernel_rfl) (by kernel_rfl) (fun b_2 w16 hb hw => ?_)
            replace h := h b_2 w16 hb hw
            clear hb hw
            refine reg_end [(2, Value.bool t2), (6, Value.pointer (some ⟨b_1, 0, none⟩)), (7, Value.pointer r), (11, Value.int .i64 v73), (12, Value.pointer (some ⟨b_2, 0, none⟩))] (by kernel_rfl) (by kernel_rfl) ?_
            change WpE _ _ c_towpathlaw10_RingShows_88 _ _ _
            refine wpE_seq_range (x := c_towpathlaw10_RingShows_89) (r1 := c_towpathlaw10_RingShows_90) (b := c_towpathlaw10_RingShows_92) (id := 4) (rg := c_towpathlaw10_RingShows_93) (rest := c_towpathlaw10_RingShows_106) (assign := c_towpathlaw10_RingShows_94) (body := c_towpathlaw10_RingShows_96) (g := (Operand.tmp 75)) (ps := [76]) (psa := #[76]) (by kernel_rfl) (by kernel_rfl) (by kernel_rfl) (by kernel_rfl) (by kernel_rfl) ?_
            refine wpE_region (id := 20) (ops := r_towpathlaw10_RingShows_90) (by kernel_rfl) ?_
            refine reg_run [.plain] 1 [(2, [], Value.bool t2), (6, [], Value.pointer (some ⟨b_1, 0, none⟩)), (7, [], Value.pointer r), (11, [], Value.int .i64 v73), (12, [], Value.pointer (some ⟨b_2, 0, none⟩)), (74, [], Value.pointer r)] (by kernel_rfl) (by kernel_rfl) ?_
            refine reg_enter (op := (Go.Op.call (Go.Call.mk (Go.Callee.value (Go.Operand.func 42)) #[(Go.Operand.tmp 74)] #[36]))) (ty := 72) (dst := some 75) 42 #[Value.pointer r] (by kernel_rfl) (fun ww => by kernel_rfl) (Calls.mono h ?_)
            rintro _ w17 ⟨v75, rfl, h⟩
            refine ⟨_, rfl, ?_⟩
            refine reg_end [(2, Value.bool t2), (6, Value.pointer (some ⟨b_1, 0, none⟩)), (7, Value.pointer r), (11, Value.int .i64 v73), (12, Value.pointer (some ⟨b_2, 0, none⟩)), (75, v75)] (by kernel_rfl) (by kernel_rfl) ?_
            refine rangeJ_mk (gv := v75) (by kernel_rfl) (by kernel_rfl) (fun rec_ D w18 hD_ hw_ hB_ => ?_)
            have hB_ : ∀ (t76 : Int) (w19 : World) (Kb : Bool → World → Prop), w19.heap[D + 1]? = some (.loop (rec_ .ready none)) → (∀ w26, w26 = w19.putObj (D + 1) (.loop (rec_ .busy none)) → F_towpathlaw10_RingShows_B3 b_1 b_2 rec_ D Kb t76 w26) → CallsY (P := Try.prog) (yieldV (D + 1)) #[Value.int .i64 t76] w19 (fun e_ W_ => ∃ b_, e_ = Ending.returned (.bool b_) ∧ Kb b_ W_) := by
              clear h
              intro t76 w19 Kb hl_ hf_
              refine hB_ [Value.int .i64 t76] w19 _ (by kernel_rfl) hl_ ?_
              letI : Rnd := mkRnd (some (D + 1)) [] noEsc
              change WpE _ _ c_towpathlaw10_RingShows_94 _ _ _
              refine wpE_region (id := 21) (ops := r_towpathlaw10_RingShows_94) (by kernel_rfl) ?_
              refine reg_run [.plain] 1 [(6, [], Value.pointer (some ⟨b_1, 0, none⟩)), (12, [], Value.pointer (some ⟨b_2, 0, none⟩)), (13, [], Value.int .i64 t76)] (by kernel_rfl) (by kernel_rfl) ?_
              refine reg_end [(6, Value.pointer (some ⟨b_1, 0, none⟩)), (12, Value.pointer (some ⟨b_2, 0, none⟩)), (13, Value.int .i64 t76)] (by kernel_rfl) (by kernel_rfl) ?_
              refine And.intro hl_ (fun w20 hw_ => ?_)
              have h := hf_ w20 hw_
              clear hw_ hf_ hl_
              unfold F_towpathlaw10_RingShows_B3 at h
              change WpE _ _ c_towpathlaw10_RingShows_96 _ _ _
              refine wpE_block (id := 5) (x := c_towpathlaw10_RingShows_97) (by kernel_rfl) ?_
              refine wpE_seq (x := c_towpathlaw10_RingShows_98) (y := c_towpathlaw10_RingShows_100) (by kernel_rfl) ?_
              refine wpE_region (id := 22) (ops := r_towpathlaw10_RingShows_98) (by kernel_rfl) ?_
              refine reg_run [] 0 [(6, [], Value.pointer (some ⟨b_1, 0, none⟩)), (12, [], Value.pointer (some ⟨b_2, 0, none⟩)), (13, [], Value.int .i64 t76)] (by kernel_rfl) (by kernel_rfl) ?_
              obtain ⟨v77, hc, h⟩ := h
              refine reg_load1 (t := 49) (a := (Go.Operand.tmp 12)) (b := b_2) (o := 0) (ty := 49) (dst := some 77) (by kernel_rfl) (by kernel_rfl) (by kernel_rfl) hc ?_
              refine reg_run [.plain] 2 [(6, [], Value.pointer (some ⟨b_1, 0, none⟩)), (12, [], Value.pointer (some ⟨b_2, 0, none⟩)), (77, [], Value.slice v77.ptr v77.len v77.cap), (78, [], Value.int .i64 t76)] (by kernel_rfl) (by kernel_rfl) ?_
              refine reg_new (op := (Go.Op.buildSlice 49 1 #[(0, (Go.Operand.tmp 78))])) (ty := 49) (dst := some 79) (fun bb => Value.slice (some ⟨bb, 0, none⟩) 1 1) (Obj.cells ([Value.int .i64 t76]).toArray ty_int (0, 0)) (by kernel_rfl) (by kernel_rfl) (fun b_3 w21 hb hw => ?_)
              replace h := h b_3 w21 hb hw
              clear hb hw
              refine reg_run [] 3 [(6, [], Value.pointer (some ⟨b_1, 0, none⟩)), (12, [], Value.pointer (some ⟨b_2, 0, none⟩)), (77, [], Value.slice v77.ptr v77.len v77.cap), (79, [], Value.slice (some ⟨b_3, 0, none⟩) 1 1)] (by kernel_rfl) (by kernel_rfl) ?_
              obtain ⟨src, hs, h⟩ := h
              refine reg_append (t := 49) (tx := 49) (e := 3) (a := (Go.Operand.tmp 77)) (xo := (Go.Operand.tmp 79)) (s := v77) (x := (Slc.mk (some ⟨b_3, 0, none⟩) 1 1)) (sz := 1) (by_ := 8) (zs := [Value.int .i64 0]) (ty := 49) (dst := some 80)  src (by kernel_rfl) (by kernel_rfl) (by kernel_rfl) (by kernel_rfl) (by kernel_rfl) (by kernel_rfl) (by kernel_rfl) (by kernel_rfl) (by kernel_rfl) hs (AppendW.mono h (fun v80 w22 h => ?_))
              refine reg_run [] 4 [(6, [], Value.pointer (some ⟨b_1, 0, none⟩)), (12, [], Value.pointer (some ⟨b_2, 0, none⟩)), (80, [], Value.slice v80.ptr v80.len v80.cap)] (by kernel_rfl) (by kernel_rfl) ?_
              obtain ⟨hc, h⟩ := h
              refine reg_store (t := 49) (a := (Go.Operand.tmp 12)) (x := (Go.Operand.tmp 80)) (b := b_2) (o := 0) (ty := 0) (dst := none) [Value.slice v80.ptr v80.len v80.cap] (by kernel_rfl) (by kernel_rfl) (by kernel_rfl) (k := 1) (by kernel_rfl) (by kernel_rfl) (by kernel_rfl) hc (fun w23 hw => ?_)
              replace h := h w23 hw
              clear hw
              refine reg_end [(6, Value.pointer (some ⟨b_1, 0, none⟩)), (12, Value.pointer (some ⟨b_2, 0, none⟩))] (by kernel_rfl) (by kernel_rfl) ?_
              change WpE _ _ c_towpathlaw10_RingShows_100 _ _ _
              refine wpE_seq (x := c_towpathlaw10_RingShows_101) (y := c_towpathlaw10_RingShows_103) (by kernel_rfl) ?_
              refine wpE_region (id := 23) (ops := r_towpathlaw10_RingShows_101) (by kernel_rfl) ?_
              refine reg_run [] 0 [(6, [], Value.pointer (some ⟨b_1, 0, none⟩)), (12, [], Value.pointer (some ⟨b_2, 0, none⟩))] (by kernel_rfl) (by kernel_rfl) ?_
              obtain ⟨v81, hc, h⟩ := h
              refine reg_load1 (t := 49) (a := (Go.Operand.tmp 12)) (b := b_2) (o := 0) (ty := 49) (dst := some 81) (by kernel_rfl) (by kernel_rfl) (by kernel_rfl) hc ?_
              refine reg_run [.plain] 2 [(6, [], Value.pointer (some ⟨b_1, 0, none⟩)), (82, [], Value.int .i64 ((v81.len : Nat) : Int))] (by kernel_rfl) (by kernel_rfl) ?_
              obtain ⟨v83, hc, h⟩ := h
              refine reg_load1 (t := 5) (a := (Go.Operand.tmp 6)) (b := b_1) (o := 0) (ty := 5) (dst := some 83) (by kernel_rfl) (by kernel_rfl) (by kernel_rfl) hc ?_
              refine reg_run [.plain, .plain] 5 [(85, [], Value.bool (decide (((v81.len : Nat) : Int) > (IntKind.i64.wrap v83))))] (by kernel_rfl) (by kernel_rfl) ?_
              refine reg_end [(85, Value.bool (decide (((v81.len : Nat) : Int) > (IntKind.i64.wrap v83))))] (by kernel_rfl) (by kernel_rfl) ?_
              change WpE _ _ c_towpathlaw10_RingShows_103 _ _ _
              refine wpE_cond (o := (Operand.tmp 85)) (b := (decide (((v81.len : Nat) : Int) > (IntKind.i64.wrap v83)))) (x := c_towpathlaw10_RingShows_104) (y := c_towpathlaw10_RingShows_105) (by kernel_rfl) (by kernel_rfl) (fun hb => ?_) (fun hb => ?_)
              · replace h := h.1 hb
                refine wpE_exit (id := 4) (by kernel_rfl) ?_
                exact And.intro h.1 ⟨false, rfl, h.2 _ rfl⟩
              · replace h := h.2 hb
                refine wpE_skip (by kernel_rfl) ?_
                exact And.intro h.1 ⟨true, rfl, h.2 _ rfl⟩
            replace h := h rec_ D w18 hD_ hw_ hB_
            clear hB_ hw_
            have hA_ : ∀ w27, F_towpathlaw10_RingShows_A4 R b_1 r v73 b_2 D w27 → @WpE (rndD Try.prog Try.f11 (fun v w' => ∃ (r0 : Bool), v = Value.bool r0 ∧ R r0 w') D) Try.prog 129 c_towpathlaw10_RingShows_106 (fun _ _ _ => False) [(2, Value.bool t2), (6, Value.pointer (some ⟨b_1, 0, none⟩)), (7, Value.pointer r), (11, Value.int .i64 v73), (12, Value.pointer (some ⟨b_2, 0, none⟩)), (75, v75)] w27 := by
              clear h
              intro w27 h
              letI : Rnd := rndD Try.prog Try.f11 (fun v w' => ∃ (r0 : Bool), v = Value.bool r0 ∧ R r0 w') D
              unfold F_towpathlaw10_RingShows_A4 at h
              change WpE _ _ c_towpathlaw10_RingShows_106 _ _ _
              refine wpE_seq (x := c_towpathlaw10_RingShows_107) (y := c_towpathlaw10_RingShows_116) (by kernel_rfl) ?_
              refine wpE_seq_cut (x := c_towpathlaw10_RingShows_108) (y := c_towpathlaw10_RingShows_110) (by kernel_rfl) (fun l w => ∃ (t99 : Bool), l = [(7, Value.pointer r), (11, Value.int .i64 v73), (12, Value.pointer (some ⟨b_2, 0, none⟩)), (99, Value.bool t99)] ∧ F_towpathlaw10_RingShows_k5 R r v73 b_2 D t99 w) ?_ ?_
              · refine wpE_region (id := 24) (ops := r_towpathlaw10_RingShows_108) (by kernel_rfl) ?_
                refine reg_run [] 0 [(6, [], Value.pointer (some ⟨b_1, 0, none⟩)), (7, [], Value.pointer r), (11, [], Value.int .i64 v73), (12, [], Value.pointer (some ⟨b_2, 0, none⟩))] (by kernel_rfl) (by kernel_rfl) ?_
                obtain ⟨v86, hc, h⟩ := h
                refine reg_load1 (t := 49) (a := (Go.Operand.tmp 12)) (b := b_2) (o := 0) (ty := 49) (dst := some 86) (by kernel_rfl) (by kernel_rfl) (by kernel_rfl) hc ?_
                refine reg_run [.plain, .plain] 3 [(6, [], Value.pointer (some ⟨b_1, 0, none⟩)), (7, [], Value.pointer r), (11, [], Value.int .i64 v73), (12, [], Value.pointer (some ⟨b_2, 0, none⟩)), (87, [], Value.int .i64 ((v86.len : Nat) : Int)), (88, [], Value.int .i64 v73)] (by kernel_rfl) (by kernel_rfl) ?_
                obtain ⟨v89, hc, h⟩ := h
                refine reg_load1 (t := 5) (a := (Go.Operand.tmp 6)) (b := b_1) (o := 0) (ty := 5) (dst := some 89) (by kernel_rfl) (by kernel_rfl) (by kernel_rfl) hc ?_
                refine reg_run [.plain, .plain, .plain, .plain, .plain, .plain] 10 [(7, [], Value.pointer r), (11, [], Value.int .i64 v73), (12, [], Value.pointer (some ⟨b_2, 0, none⟩)), (94, [], Value.bool (((v86.len : Nat) : Int) != (if (IntKind.i64.wrap ((IntKind.i64.wrap v89) + 1)) < v73 then (IntKind.i64.wrap ((IntKind.i64.wrap v89) + 1)) else v73))), (95, [(94, false)], Value.pointer r)] (by kernel_rfl) (by kernel_rfl) ?_
                refine reg_split 94 (((v86.len : Nat) : Int) != (if (IntKind.i64.wrap ((IntKind.i64.wrap v89) + 1)) < v73 then (IntKind.i64.wrap ((IntKind.i64.wrap v89) + 1)) else v73)) (by kernel_rfl) (fun hb => ?_) (fun hb => ?_)
                · replace h := h.1 hb
                  refine reg_run [] 10 [(7, [], Value.pointer r), (11, [], Value.int .i64 v73), (12, [], Value.pointer (some ⟨b_2, 0, none⟩)), (94, [], Value.bool true), (95, [], undef)] (by kernel_rfl) (by kernel_rfl) ?_
                  refine reg_run [.skip, .skip, .skip, .plain] 14 [(7, [], Value.pointer r), (11, [], Value.int .i64 v73), (12, [], Value.pointer (some ⟨b_2, 0, none⟩)), (99, [], Value.bool true)] (by kernel_rfl) (by kernel_rfl) ?_
                  refine reg_end [(7, Value.pointer r), (11, Value.int .i64 v73), (12, Value.pointer (some ⟨b_2, 0, none⟩)), (99, Value.bool true)] (by kernel_rfl) (by kernel_rfl) ?_
                  exact ⟨[(7, Value.pointer r), (11, Value.int .i64 v73), (12, Value.pointer (some ⟨b_2, 0, none⟩)), (99, Value.bool true)], Sub.mk (by kernel_rfl), true, rfl, h⟩
                · replace h := h.2 hb
                  refine reg_run [] 10 [(7, [], Value.pointer r), (11, [], Value.int .i64 v73), (12, [], Value.pointer (some ⟨b_2, 0, none⟩)), (94, [], Value.bool false), (95, [], Value.pointer r)] (by kernel_rfl) (by kernel_rfl) ?_
                  refine reg_run [] 10 [(7, [], Value.pointer r), (11, [], Value.int .i64 v73), (12, [], Value.pointer (some ⟨b_2, 0, none⟩)), (94, [], Value.bool false), (95, [], Value.pointer r)] (by kernel_rfl) (by kernel_rfl) ?_
                  refine reg_enter (op := (Go.Op.call (Go.Call.mk (Go.Callee.value (Go.Operand.func 25)) #[(Go.Operand.tmp 95)] #[36]))) (ty := 3) (dst := some 96) 25 #[Value.pointer r] (by kernel_rfl) (fun ww => by kernel_rfl) (Calls.mono h ?_)
                  rintro _ w38 ⟨v96, rfl, h⟩
                  refine ⟨_, rfl, ?_⟩
                  refine reg_run [.sure, .sure, .plain] 14 [(7, [], Value.pointer r), (11, [], Value.int .i64 v73), (12, [], Value.pointer (some ⟨b_2, 0, none⟩)), (99, [], Value.bool (v96 != v73))] (by kernel_rfl) (by kernel_rfl) ?_
                  refine reg_end [(7, Value.pointer r), (11, Value.int .i64 v73), (12, Value.pointer (some ⟨b_2, 0, none⟩)), (99, Value.bool (v96 != v73))] (by kernel_rfl) (by kernel_rfl) ?_
                  exact ⟨[(7, Value.pointer r), (11, Value.int .i64 v73), (12, Value.pointer (some ⟨b_2, 0, none⟩)), (99, Value.bool (v96 != v73))], Sub.mk (by kernel_rfl), (v96 != v73), rfl, h⟩
              · rintro _ w30 ⟨t99, rfl, h⟩
                unfold F_towpathlaw10_RingShows_k5 at h
                refine wpE_cond (o := (Operand.tmp 99)) (b := t99) (x := c_towpathlaw10_RingShows_111) (y := c_towpathlaw10_RingShows_115) (by kernel_rfl) (by kernel_rfl) (fun hb => ?_) (fun hb => ?_)
                · replace h := h.1 hb
                  refine wpE_seq (x := c_towpathlaw10_RingShows_112) (y := c_towpathlaw10_RingShows_114) (by kernel_rfl) ?_
                  refine wpE_region (id := 25) (ops := r_towpathlaw10_RingShows_112) (by kernel_rfl) ?_
                  refine reg_run [.plain] 1 [(2, [], Value.bool false)] (by kernel_rfl) (by kernel_rfl) ?_
                  refine reg_end [(2, Value.bool false)] (by kernel_rfl) (by kernel_rfl) ?_
                  change WpE _ _ c_towpathlaw10_RingShows_114 _ _ _
                  refine wpE_retD (by kernel_rfl) h.1 ?_
                  replace h := h.2 _ rfl
                  repeat (first | refine seqQ_ret ?_ | refine blockQ_ret ?_ | refine loopQ_ret ?_ | refine cutQ_ret ?_)
                  exact retS (rs := [(Go.ResultVar.tmp 2)]) (v := Value.bool false) (by kernel_rfl) (⟨by kernel_rfl, trivial⟩) ⟨false, rfl, h⟩
                · replace h := h.2 hb
                  refine wpE_skip (by kernel_rfl) ?_
                  change WpE _ _ c_towpathlaw10_RingShows_116 _ _ _
                  refine wpE_seq (x := c_towpathlaw10_RingShows_117) (y := c_towpathlaw10_RingShows_145) (by kernel_rfl) ?_
                  refine wpE_seq (x := c_towpathlaw10_RingShows_118) (y := c_towpathlaw10_RingShows_120) (by kernel_rfl) ?_
                  refine wpE_region (id := 26) (ops := r_towpathlaw10_RingShows_118) (by kernel_rfl) ?_
                  refine reg_run [.plain] 1 [(7, [], Value.pointer r), (11, [], Value.int .i64 v73), (12, [], Value.pointer (some ⟨b_2, 0, none⟩)), (14, [], Value.int .i64 0)] (by kernel_rfl) (by kernel_rfl) ?_
                  refine reg_end [(7, Value.pointer r), (11, Value.int .i64 v73), (12, Value.pointer (some ⟨b_2, 0, none⟩)), (14, Value.int .i64 0)] (by kernel_rfl) (by kernel_rfl) ?_
                  change WpE _ _ c_towpathlaw10_RingShows_120 _ _ _
                  refine wpE_block (id := 6) (x := c_towpathlaw10_RingShows_121) (by kernel_rfl) ?_
                  obtain ⟨I, μ, h0, hr⟩ := h
                  refine wpE_loop (x := c_towpathlaw10_RingShows_122) (by kernel_rfl) (fun m l w => ∃ (i2 : Int), l = [(7, Value.pointer r), (11, Value.int .i64 v73), (12, Value.pointer (some ⟨b_2, 0, none⟩)), (14, Value.int .i64 i2)] ∧ I i2 w ∧ μ i2 w = m) (l' := [(7, Value.pointer r), (11, Value.int .i64 v73), (12, Value.pointer (some ⟨b_2, 0, none⟩)), (14, Value.int .i64 0)]) (Sub.mk (by kernel_rfl)) ⟨0, rfl, h0, rfl⟩ ?_
                  rintro _ _ w32 ⟨i2, rfl, hI, rfl⟩
                  obtain ⟨again_2, again_2_h, h⟩ : ∃ again_2 : Int → World → Prop, (∀ i2' w', again_2 i2' w' → I i2' w' ∧ μ i2' w' < μ i2 w32) ∧ F_towpathlaw10_RingShows_L6 R r v73 b_2 D again_2 i2 w32 := ⟨_, fun _ _ h => h, hr i2 w32 hI⟩
                  clear h0 hI
                  unfold F_towpathlaw10_RingShows_L6 at h
                  refine wpE_seq (x := c_towpathlaw10_RingShows_123) (y := c_towpathlaw10_RingShows_129) (by kernel_rfl) ?_
                  refine wpE_seq (x := c_towpathlaw10_RingShows_124) (y := c_towpathlaw10_RingShows_126) (by kernel_rfl) ?_
                  refine wpE_region (id := 27) (ops := r_towpathlaw10_RingShows_124) (by kernel_rfl) ?_
                  refine reg_run [.plain, .plain, .plain] 3 [(7, [], Value.pointer r), (11, [], Value.int .i64 v73), (12, [], Value.pointer (some ⟨b_2, 0, none⟩)), (14, [], Value.int .i64 i2), (102, [], Value.bool (decide (i2 < v73)))] (by kernel_rfl) (by kernel_rfl) ?_
                  refine reg_end [(7, Value.pointer r), (11, Value.int .i64 v73), (12, Value.pointer (some ⟨b_2, 0, none⟩)), (14, Value.int .i64 i2), (102, Value.bool (decide (i2 < v73)))] (by kernel_rfl) (by kernel_rfl) ?_
                  change WpE _ _ c_towpathlaw10_RingShows_126 _ _ _
                  refine wpE_cond (o := (Operand.tmp 102)) (b := (decide (i2 < v73))) (x := c_towpathlaw10_RingShows_127) (y := c_towpathlaw10_RingShows_128) (by kernel_rfl) (by kernel_rfl) (fun hb => ?_) (fun hb => ?_)
                  · replace h := h.1 hb
                    refine wpE_skip (by kernel_rfl) ?_
                    change WpE _ _ c_towpathlaw10_RingShows_129 _ _ _
                    refine wpE_seq (x := c_towpathlaw10_RingShows_130) (y := c_towpathlaw10_RingShows_143) (by kernel_rfl) ?_
                    refine wpE_block (id := 7) (x := c_towpathlaw10_RingShows_131) (by kernel_rfl) ?_
                    refine wpE_seq (x := c_towpathlaw10_RingShows_132) (y := c_towpathlaw10_RingShows_134) (by kernel_rfl) ?_
                    refine wpE_region (id := 29) (ops := r_towpathlaw10_RingShows_132) (by kernel_rfl) ?_
                    refine reg_run [.plain] 1 [(7, [], Value.pointer r), (11, [], Value.int .i64 v73), (12, [], Value.pointer (some ⟨b_2, 0, none⟩)), (14, [], Value.int .i64 i2), (106, [], Value.pointer r)] (by kernel_rfl) (by kernel_rfl) ?_
                    refine reg_enter (op := (Go.Op.call (Go.Call.mk (Go.Callee.value (Go.Operand.func 24)) #[(Go.Operand.tmp 106)] #[36]))) (ty := 40) (dst := some 107) 24 #[Value.pointer r] (by kernel_rfl) (fun ww => by kernel_rfl) (Calls.mono h ?_)
                    rintro _ w33 ⟨x, ok, rfl, h⟩
                    refine ⟨_, rfl, ?_⟩
                    refine reg_run [.plain, .plain, .plain, .plain, .plain] 7 [(7, [], Value.pointer r), (11, [], Value.int .i64 v73), (12, [], Value.pointer (some ⟨b_2, 0, none⟩)), (14, [], Value.int .i64 i2), (15, [], Value.int .i64 x), (16, [], Value.bool ok)] (by kernel_rfl) (by kernel_rfl) ?_
                    refine reg_end [(7, Value.pointer r), (11, Value.int .i64 v73), (12, Value.pointer (some ⟨b_2, 0, none⟩)), (14, Value.int .i64 i2), (15, Value.int .i64 x), (16, Value.bool ok)] (by kernel_rfl) (by kernel_rfl) ?_
                    change WpE _ _ c_towpathlaw10_RingShows_134 _ _ _
                    refine wpE_seq_cut (x := c_towpathlaw10_RingShows_135) (y := c_towpathlaw10_RingShows_137) (by kernel_rfl) (fun l w => ∃ (t125 : Bool), l = [(7, Value.pointer r), (11, Value.int .i64 v73), (12, Value.pointer (some ⟨b_2, 0, none⟩)), (14, Value.int .i64 i2), (125, Value.bool t125)] ∧ F_towpathlaw10_RingShows_k7 R D i2 again_2 t125 w) ?_ ?_
                    · refine wpE_region (id := 30) (ops := r_towpathlaw10_RingShows_135) (by kernel_rfl) ?_
                      refine reg_run [.plain, .plain, .plain, .plain] 4 [(7, [], Value.pointer r), (11, [], Value.int .i64 v73), (12, [], Value.pointer (some ⟨b_2, 0, none⟩)), (14, [], Value.int .i64 i2), (15, [], Value.int .i64 x), (112, [], Value.bool (!ok)), (113, [(112, false)], Value.int .i64 i2)] (by kernel_rfl) (by kernel_rfl) ?_
                      refine reg_split 112 (!ok) (by kernel_rfl) (fun hb => ?_) (fun hb => ?_)
                      · replace h := h.1 hb
                        refine reg_run [] 4 [(7, [], Value.pointer r), (11, [], Value.int .i64 v73), (12, [], Value.pointer (some ⟨b_2, 0, none⟩)), (14, [], Value.int .i64 i2), (15, [], Value.int .i64 x), (112, [], Value.bool true), (113, [], undef)] (by kernel_rfl) (by kernel_rfl) ?_
                        refine reg_run [.skip, .skip, .skip, .skip, .skip, .skip, .skip, .skip, .skip, .skip, .skip, .plain] 16 [(7, [], Value.pointer r), (11, [], Value.int .i64 v73), (12, [], Value.pointer (some ⟨b_2, 0, none⟩)), (14, [], Value.int .i64 i2), (125, [], Value.bool true)] (by kernel_rfl) (by kernel_rfl) ?_
                        refine reg_end [(7, Value.pointer r), (11, Value.int .i64 v73), (12, Value.pointer (some ⟨b_2, 0, none⟩)), (14, Value.int .i64 i2), (125, Value.bool true)] (by kernel_rfl) (by kernel_rfl) ?_
                        exact ⟨[(7, Value.pointer r), (11, Value.int .i64 v73), (12, Value.pointer (some ⟨b_2, 0, none⟩)), (14, Value.int .i64 i2), (125, Value.bool true)], Sub.mk (by kernel_rfl), true, rfl, h⟩
                      · replace h := h.2 hb
                        refine reg_run [] 4 [(7, [], Value.pointer r), (11, [], Value.int .i64 v73), (12, [], Value.pointer (some ⟨b_2, 0, none⟩)), (14, [], Value.int .i64 i2), (15, [], Value.int .i64 x), (112, [], Value.bool false), (113, [], Value.int .i64 i2)] (by kernel_rfl) (by kernel_rfl) ?_
                        refine reg_run [] 4 [(7, [], Value.pointer r), (11, [], Value.int .i64 v73), (12, [], Value.pointer (some ⟨b_2, 0, none⟩)), (14, [], Value.int .i64 i2), (15, [], Value.int .i64 x), (112, [], Value.bool false), (113, [], Value.int .i64 i2)] (by kernel_rfl) (by kernel_rfl) ?_
                        obtain ⟨v114, hc, h⟩ := h
                        refine reg_load1 (t := 49) (a := (Go.Operand.tmp 12)) (b := b_2) (o := 0) (ty := 49) (dst := some 114) (by kernel_rfl) (by kernel_rfl) (by kernel_rfl) hc ?_
                        refine reg_run [.sure, .sure, .sure] 8 [(7, [], Value.pointer r), (11, [], Value.int .i64 v73), (12, [], Value.pointer (some ⟨b_2, 0, none⟩)), (14, [], Value.int .i64 i2), (15, [], Value.int .i64 x), (112, [], Value.bool false), (117, [], Value.bool (decide (i2 < ((v114.len : Nat) : Int))))] (by kernel_rfl) (by kernel_rfl) ?_
                        refine reg_split 117 (decide (i2 < ((v114.len : Nat) : Int))) (by kernel_rfl) (fun hb => ?_) (fun hb => ?_)
                        · replace h := h.1 hb
                          refine reg_run [] 8 [(7, [], Value.pointer r), (11, [], Value.int .i64 v73), (12, [], Value.pointer (some ⟨b_2, 0, none⟩)), (14, [], Value.int .i64 i2), (15, [], Value.int .i64 x), (112, [], Value.bool false), (117, [], Value.bool true)] (by kernel_rfl) (by kernel_rfl) ?_
                          refine reg_run [] 8 [(7, [], Value.pointer r), (11, [], Value.int .i64 v73), (12, [], Value.pointer (some ⟨b_2, 0, none⟩)), (14, [], Value.int .i64 i2), (15, [], Value.int .i64 x), (112, [], Value.bool false), (117, [], Value.bool true)] (by kernel_rfl) (by kernel_rfl) ?_
                          obtain ⟨v118, hc, h⟩ := h
                          refine reg_load1 (t := 49) (a := (Go.Operand.tmp 12)) (b := b_2) (o := 0) (ty := 49) (dst := some 118) (by kernel_rfl) (by kernel_rfl) (by kernel_rfl) hc ?_
                          refine reg_run [.sure] 10 [(7, [], Value.pointer r), (11, [], Value.int .i64 v73), (12, [], Value.pointer (some ⟨b_2, 0, none⟩)), (14, [], Value.int .i64 i2), (15, [], Value.int .i64 x), (112, [], Value.bool false), (117, [], Value.bool true), (118, [], Value.slice v118.ptr v118.len v118.cap), (119, [], Value.int .i64 i2)] (by kernel_rfl) (by kernel_rfl) ?_
                          obtain ⟨hp_23, h⟩ := h
                          refine reg_conv [(7, [], Value.pointer r), (11, [], Value.int .i64 v73), (12, [], Value.pointer (some ⟨b_2, 0, none⟩)), (14, [], Value.int .i64 i2), (15, [], Value.int .i64 x), (112, [], Value.bool false), (117, [], Value.bool true), (118, [], Value.slice (some ⟨(pblk v118.ptr), (poff v118.ptr), none⟩) v118.len v118.cap), (119, [], Value.int .i64 i2)] (congrArg (fun pp => ([(7, [], Value.pointer r), (11, [], Value.int .i64 v73), (12, [], Value.pointer (some ⟨b_2, 0, none⟩)), (14, [], Value.int .i64 i2), (15, [], Value.int .i64 x), (112, [], Value.bool false), (117, [], Value.bool true), (118, [], Value.slice pp v118.len v118.cap), (119, [], Value.int .i64 i2)] : GEnv)) hp_23) ?_
                          obtain ⟨h0, h1, h⟩ := h
                          refine reg_indexS1 (t := 49) (e := 3) (x := (Go.Operand.tmp 118)) (ix := (Go.Operand.tmp 119)) (b := (pblk v118.ptr)) (o := (poff v118.ptr)) (l := v118.len) (c := v118.cap) (k := .i64) (j := i2) (ty := 0) (dst := some 120) (by kernel_rfl) (by kernel_rfl) (by kernel_rfl) (by kernel_rfl) (by kernel_rfl) h0 h1 ?_
                          refine reg_run [] 11 [(7, [], Value.pointer r), (11, [], Value.int .i64 v73), (12, [], Value.pointer (some ⟨b_2, 0, none⟩)), (14, [], Value.int .i64 i2), (15, [], Value.int .i64 x), (112, [], Value.bool false), (117, [], Value.bool true), (120, [], Value.pointer (some ⟨(pblk v118.ptr), (poff v118.ptr) + i2.toNat, none⟩))] (by kernel_rfl) (by kernel_rfl) ?_
                          obtain ⟨v121, hc, h⟩ := h
                          refine reg_load1 (t := 3) (a := (Go.Operand.tmp 120)) (b := (pblk v118.ptr)) (o := ((poff v118.ptr) + i2.toNat)) (ty := 3) (dst := some 121) (by kernel_rfl) (by kernel_rfl) (by kernel_rfl) hc ?_
                          refine reg_run [.sure, .sure, .sure, .plain] 16 [(7, [], Value.pointer r), (11, [], Value.int .i64 v73), (12, [], Value.pointer (some ⟨b_2, 0, none⟩)), (14, [], Value.int .i64 i2), (125, [], Value.bool (v121 != x))] (by kernel_rfl) (by kernel_rfl) ?_
                          refine reg_end [(7, Value.pointer r), (11, Value.int .i64 v73), (12, Value.pointer (some ⟨b_2, 0, none⟩)), (14, Value.int .i64 i2), (125, Value.bool (v121 != x))] (by kernel_rfl) (by kernel_rfl) ?_
                          exact ⟨[(7, Value.pointer r), (11, Value.int .i64 v73), (12, Value.pointer (some ⟨b_2, 0, none⟩)), (14, Value.int .i64 i2), (125, Value.bool (v121 != x))], Sub.mk (by kernel_rfl), (v121 != x), rfl, h⟩
                        · replace h := h.2 hb
                          refine reg_run [] 8 [(7, [], Value.pointer r), (11, [], Value.int .i64 v73), (12, [], Value.pointer (some ⟨b_2, 0, none⟩)), (14, [], Value.int .i64 i2), (15, [], Value.int .i64 x), (112, [], Value.bool false), (117, [], Value.bool false)] (by kernel_rfl) (by kernel_rfl) ?_
                          refine reg_run [.skip, .skip, .skip, .skip, .skip, .skip, .sure, .plain] 16 [(7, [], Value.pointer r), (11, [], Value.int .i64 v73), (12, [], Value.pointer (some ⟨b_2, 0, none⟩)), (14, [], Value.int .i64 i2), (125, [], Value.bool false)] (by kernel_rfl) (by kernel_rfl) ?_
                          refine reg_end [(7, Value.pointer r), (11, Value.int .i64 v73), (12, Value.pointer (some ⟨b_2, 0, none⟩)), (14, Value.int .i64 i2), (125, Value.bool false)] (by kernel_rfl) (by kernel_rfl) ?_
                          exact ⟨[(7, Value.pointer r), (11, Value.int .i64 v73), (12, Value.pointer (some ⟨b_2, 0, none⟩)), (14, Value.int .i64 i2), (125, Value.bool false)], Sub.mk (by kernel_rfl), false, rfl, h⟩
                    · rintro _ w34 ⟨t125, rfl, h⟩
                      unfold F_towpathlaw10_RingShows_k7 at h
                      refine wpE_cond (o := (Operand.tmp 125)) (b := t125) (x := c_towpathlaw10_RingShows_138) (y := c_towpathlaw10_RingShows_142) (by kernel_rfl) (by kernel_rfl) (fun hb => ?_) (fun hb => ?_)
                      · replace h := h.1 hb
                        refine wpE_seq (x := c_towpathlaw10_RingShows_139) (y := c_towpathlaw10_RingShows_141) (by kernel_rfl) ?_
                        refine wpE_region (id := 31) (ops := r_towpathlaw10_RingShows_139) (by kernel_rfl) ?_
                        refine reg_run [.plain] 1 [(2, [], Value.bool false)] (by kernel_rfl) (by kernel_rfl) ?_
                        refine reg_end [(2, Value.bool false)] (by kernel_rfl) (by kernel_rfl) ?_
                        change WpE _ _ c_towpathlaw10_RingShows_141 _ _ _
                        refine wpE_retD (by kernel_rfl) h.1 ?_
                        replace h := h.2 _ rfl
                        repeat (first | refine seqQ_ret ?_ | refine blockQ_ret ?_ | refine loopQ_ret ?_ | refine cutQ_ret ?_)
                        exact retS (rs := [(Go.ResultVar.tmp 2)]) (v := Value.bool false) (by kernel_rfl) (⟨by kernel_rfl, trivial⟩) ⟨false, rfl, h⟩
                      · replace h := h.2 hb
                        refine wpE_skip (by kernel_rfl) ?_
                        change WpE _ _ c_towpathlaw10_RingShows_143 _ _ _
                        refine wpE_region (id := 28) (ops := r_towpathlaw10_RingShows_143) (by kernel_rfl) ?_
                        refine reg_run [.plain, .plain, .plain] 3 [(7, [], Value.pointer r), (11, [], Value.int .i64 v73), (12, [], Value.pointer (some ⟨b_2, 0, none⟩)), (14, [], Value.int .i64 (IntKind.i64.wrap (i2 + 1)))] (by kernel_rfl) (by kernel_rfl) ?_
                        refine reg_end [(7, Value.pointer r), (11, Value.int .i64 v73), (12, Value.pointer (some ⟨b_2, 0, none⟩)), (14, Value.int .i64 (IntKind.i64.wrap (i2 + 1)))] (by kernel_rfl) (by kernel_rfl) ?_
                        have hb_ := again_2_h _ _ h
                        exact ⟨_, hb_.2, [(7, Value.pointer r), (11, Value.int .i64 v73), (12, Value.pointer (some ⟨b_2, 0, none⟩)), (14, Value.int .i64 (IntKind.i64.wrap (i2 + 1)))], Sub.mk (by kernel_rfl), (IntKind.i64.wrap (i2 + 1)), rfl, hb_.1, rfl⟩
                  · replace h := h.2 hb
                    refine wpE_exit (id := 6) (by kernel_rfl) ?_
                    change WpE _ _ c_towpathlaw10_RingShows_145 _ _ _
                    refine wpE_seq (x := c_towpathlaw10_RingShows_146) (y := c_towpathlaw10_RingShows_148) (by kernel_rfl) ?_
                    refine wpE_region (id := 32) (ops := r_towpathlaw10_RingShows_146) (by kernel_rfl) ?_
                    refine reg_run [.plain] 1 [(126, [], Value.pointer r)] (by kernel_rfl) (by kernel_rfl) ?_
                    refine reg_enter (op := (Go.Op.call (Go.Call.mk (Go.Callee.value (Go.Operand.func 25)) #[(Go.Operand.tmp 126)] #[36]))) (ty := 3) (dst := some 127) 25 #[Value.pointer r] (by kernel_rfl) (fun ww => by kernel_rfl) (Calls.mono h ?_)
                    rintro _ w36 ⟨v127, rfl, h⟩
                    refine ⟨_, rfl, ?_⟩
                    refine reg_run [.plain, .plain] 4 [(2, [], Value.bool (v127 == 0))] (by kernel_rfl) (by kernel_rfl) ?_
                    refine reg_end [(2, Value.bool (v127 == 0))] (by kernel_rfl) (by kernel_rfl) ?_
                    change WpE _ _ c_towpathlaw10_RingShows_148 _ _ _
                    refine wpE_retD (by kernel_rfl) h.1 ?_
                    replace h := h.2 _ rfl
                    repeat (first | refine seqQ_ret ?_ | refine blockQ_ret ?_ | refine loopQ_ret ?_ | refine cutQ_ret ?_)
                    exact retS (rs := [(Go.ResultVar.tmp 2)]) (v := Value.bool (v127 == 0)) (by kernel_rfl) (⟨by kernel_rfl, trivial⟩) ⟨(v127 == 0), rfl, h⟩
            refine CallsV.mono h ?_
            rintro e_ w28 ⟨hv_, st_, pe_, hl_, hst_, h⟩
            refine ⟨hv_, st_, pe_, hl_, hst_, ?_⟩
            replace h := h _ rfl
            obtain ⟨hpe_, h⟩ := h
            rcases hpe_ with rfl | rfl
            · exact hA_ _ h
            · exact ⟨rfl, hA_ _ h⟩
  · rintro e w' ⟨v, rfl, r0, rfl, h⟩; exact ⟨r0, rfl, h⟩
end Go.Proofs.Ytchcljkflklddaa
