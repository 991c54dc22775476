/- WRITTEN BY PROGRAM (dec.py): for each Go function the clean formula F, the call's contract C, and the proof S that F gives C. -/
import Derived.Test.YtcgfmkpddhhmgaaRows
import Derived.Test.YtcgfmkpddhhmgaaGF
namespace Go.Proofs.Ytcgfmkpddhhmgaa
open Go
set_option linter.unusedVariables false

/-! ### towpath/towpathlaw08.ChainOrders (function 3) -/
noncomputable def c_towpathlaw08_ChainOrders_0 : Code := (Try.f3.body).getD Code.skip
noncomputable def c_towpathlaw08_ChainOrders_1 : Code := Code.l c_towpathlaw08_ChainOrders_0
noncomputable def r_towpathlaw08_ChainOrders_1 : Array Oper := Code.ops c_towpathlaw08_ChainOrders_1
noncomputable def c_towpathlaw08_ChainOrders_3 : Code := Code.r c_towpathlaw08_ChainOrders_0
noncomputable def c_towpathlaw08_ChainOrders_4 : Code := Code.l c_towpathlaw08_ChainOrders_3
noncomputable def c_towpathlaw08_ChainOrders_5 : Code := Code.l c_towpathlaw08_ChainOrders_4
noncomputable def r_towpathlaw08_ChainOrders_5 : Array Oper := Code.ops c_towpathlaw08_ChainOrders_5
noncomputable def c_towpathlaw08_ChainOrders_7 : Code := Code.r c_towpathlaw08_ChainOrders_4
noncomputable def c_towpathlaw08_ChainOrders_8 : Code := Code.l c_towpathlaw08_ChainOrders_7
noncomputable def c_towpathlaw08_ChainOrders_9 : Code := Code.l c_towpathlaw08_ChainOrders_8
noncomputable def r_towpathlaw08_ChainOrders_9 : Array Oper := Code.ops c_towpathlaw08_ChainOrders_9
noncomputable def c_towpathlaw08_ChainOrders_11 : Code := Code.r c_towpathlaw08_ChainOrders_8
noncomputable def c_towpathlaw08_ChainOrders_12 : Code := Code.r c_towpathlaw08_ChainOrders_7
noncomputable def c_towpathlaw08_ChainOrders_13 : Code := Code.r c_towpathlaw08_ChainOrders_3
noncomputable def c_towpathlaw08_ChainOrders_14 : Code := Code.l c_towpathlaw08_ChainOrders_13
noncomputable def r_towpathlaw08_ChainOrders_14 : Array Oper := Code.ops c_towpathlaw08_ChainOrders_14
noncomputable def c_towpathlaw08_ChainOrders_16 : Code := Code.r c_towpathlaw08_ChainOrders_13
noncomputable def c_towpathlaw08_ChainOrders_17 : Code := Code.l c_towpathlaw08_ChainOrders_16
noncomputable def r_towpathlaw08_ChainOrders_17 : Array Oper := Code.ops c_towpathlaw08_ChainOrders_17
noncomputable def c_towpathlaw08_ChainOrders_19 : Code := Code.r c_towpathlaw08_ChainOrders_16
noncomputable def c_towpathlaw08_ChainOrders_20 : Code := Code.l c_towpathlaw08_ChainOrders_19
noncomputable def c_towpathlaw08_ChainOrders_21 : Code := Code.l c_towpathlaw08_ChainOrders_20
noncomputable def r_towpathlaw08_ChainOrders_21 : Array Oper := Code.ops c_towpathlaw08_ChainOrders_21
noncomputable def c_towpathlaw08_ChainOrders_23 : Code := Code.r c_towpathlaw08_ChainOrders_20
noncomputable def c_towpathlaw08_ChainOrders_24 : Code := Code.l c_towpathlaw08_ChainOrders_23
noncomputable def c_towpathlaw08_ChainOrders_25 : Code := Code.l c_towpathlaw08_ChainOrders_24
noncomputable def c_towpathlaw08_ChainOrders_26 : Code := Code.l c_towpathlaw08_ChainOrders_25
noncomputable def c_towpathlaw08_ChainOrders_27 : Code := Code.l c_towpathlaw08_ChainOrders_26
noncomputable def r_towpathlaw08_ChainOrders_27 : Array Oper := Code.ops c_towpathlaw08_ChainOrders_27
noncomputable def c_towpathlaw08_ChainOrders_29 : Code := Code.r c_towpathlaw08_ChainOrders_26
noncomputable def c_towpathlaw08_ChainOrders_30 : Code := Code.l c_towpathlaw08_ChainOrders_29
noncomputable def c_towpathlaw08_ChainOrders_31 : Code := Code.r c_towpathlaw08_ChainOrders_29
noncomputable def c_towpathlaw08_ChainOrders_32 : Code := Code.r c_towpathlaw08_ChainOrders_25
noncomputable def c_towpathlaw08_ChainOrders_33 : Code := Code.l c_towpathlaw08_ChainOrders_32
noncomputable def c_towpathlaw08_ChainOrders_34 : Code := Code.l c_towpathlaw08_ChainOrders_33
noncomputable def c_towpathlaw08_ChainOrders_35 : Code := Code.l c_towpathlaw08_ChainOrders_34
noncomputable def r_towpathlaw08_ChainOrders_35 : Array Oper := Code.ops c_towpathlaw08_ChainOrders_35
noncomputable def c_towpathlaw08_ChainOrders_37 : Code := Code.r c_towpathlaw08_ChainOrders_34
noncomputable def c_towpathlaw08_ChainOrders_38 : Code := Code.l c_towpathlaw08_ChainOrders_37
noncomputable def r_towpathlaw08_ChainOrders_38 : Array Oper := Code.ops c_towpathlaw08_ChainOrders_38
noncomputable def c_towpathlaw08_ChainOrders_40 : Code := Code.r c_towpathlaw08_ChainOrders_37
noncomputable def c_towpathlaw08_ChainOrders_41 : Code := Code.l c_towpathlaw08_ChainOrders_40
noncomputable def c_towpathlaw08_ChainOrders_42 : Code := Code.l c_towpathlaw08_ChainOrders_41
noncomputable def r_towpathlaw08_ChainOrders_42 : Array Oper := Code.ops c_towpathlaw08_ChainOrders_42
noncomputable def c_towpathlaw08_ChainOrders_44 : Code := Code.r c_towpathlaw08_ChainOrders_41
noncomputable def r_towpathlaw08_ChainOrders_44 : Array Oper := Code.ops c_towpathlaw08_ChainOrders_44
noncomputable def c_towpathlaw08_ChainOrders_46 : Code := Code.r c_towpathlaw08_ChainOrders_40
noncomputable def c_towpathlaw08_ChainOrders_47 : Code := Code.r c_towpathlaw08_ChainOrders_32
noncomputable def r_towpathlaw08_ChainOrders_47 : Array Oper := Code.ops c_towpathlaw08_ChainOrders_47
noncomputable def c_towpathlaw08_ChainOrders_49 : Code := Code.r c_towpathlaw08_ChainOrders_19
noncomputable def c_towpathlaw08_ChainOrders_50 : Code := Code.l c_towpathlaw08_ChainOrders_49
noncomputable def c_towpathlaw08_ChainOrders_51 : Code := Code.l c_towpathlaw08_ChainOrders_50
noncomputable def r_towpathlaw08_ChainOrders_51 : Array Oper := Code.ops c_towpathlaw08_ChainOrders_51
noncomputable def c_towpathlaw08_ChainOrders_53 : Code := Code.r c_towpathlaw08_ChainOrders_50
noncomputable def c_towpathlaw08_ChainOrders_54 : Code := Code.l c_towpathlaw08_ChainOrders_53
noncomputable def c_towpathlaw08_ChainOrders_55 : Code := Code.l c_towpathlaw08_ChainOrders_54
noncomputable def r_towpathlaw08_ChainOrders_55 : Array Oper := Code.ops c_towpathlaw08_ChainOrders_55
noncomputable def c_towpathlaw08_ChainOrders_57 : Code := Code.r c_towpathlaw08_ChainOrders_54
noncomputable def c_towpathlaw08_ChainOrders_58 : Code := Code.r c_towpathlaw08_ChainOrders_53
noncomputable def c_towpathlaw08_ChainOrders_59 : Code := Code.r c_towpathlaw08_ChainOrders_49
noncomputable def c_towpathlaw08_ChainOrders_60 : Code := Code.l c_towpathlaw08_ChainOrders_59
noncomputable def r_towpathlaw08_ChainOrders_60 : Array Oper := Code.ops c_towpathlaw08_ChainOrders_60
noncomputable def c_towpathlaw08_ChainOrders_62 : Code := Code.r c_towpathlaw08_ChainOrders_59
noncomputable def c_towpathlaw08_ChainOrders_63 : Code := Code.l c_towpathlaw08_ChainOrders_62
noncomputable def c_towpathlaw08_ChainOrders_64 : Code := Code.l c_towpathlaw08_ChainOrders_63
noncomputable def r_towpathlaw08_ChainOrders_64 : Array Oper := Code.ops c_towpathlaw08_ChainOrders_64
noncomputable def c_towpathlaw08_ChainOrders_66 : Code := Code.r c_towpathlaw08_ChainOrders_63
noncomputable def c_towpathlaw08_ChainOrders_67 : Code := Code.l c_towpathlaw08_ChainOrders_66
noncomputable def c_towpathlaw08_ChainOrders_68 : Code := Code.l c_towpathlaw08_ChainOrders_67
noncomputable def c_towpathlaw08_ChainOrders_69 : Code := Code.l c_towpathlaw08_ChainOrders_68
noncomputable def c_towpathlaw08_ChainOrders_70 : Code := Code.l c_towpathlaw08_ChainOrders_69
noncomputable def r_towpathlaw08_ChainOrders_70 : Array Oper := Code.ops c_towpathlaw08_ChainOrders_70
noncomputable def c_towpathlaw08_ChainOrders_72 : Code := Code.r c_towpathlaw08_ChainOrders_69
noncomputable def c_towpathlaw08_ChainOrders_73 : Code := Code.l c_towpathlaw08_ChainOrders_72
noncomputable def c_towpathlaw08_ChainOrders_74 : Code := Code.r c_towpathlaw08_ChainOrders_72
noncomputable def c_towpathlaw08_ChainOrders_75 : Code := Code.r c_towpathlaw08_ChainOrders_68
noncomputable def c_towpathlaw08_ChainOrders_76 : Code := Code.l c_towpathlaw08_ChainOrders_75
noncomputable def c_towpathlaw08_ChainOrders_77 : Code := Code.l c_towpathlaw08_ChainOrders_76
noncomputable def c_towpathlaw08_ChainOrders_78 : Code := Code.l c_towpathlaw08_ChainOrders_77
noncomputable def r_towpathlaw08_ChainOrders_78 : Array Oper := Code.ops c_towpathlaw08_ChainOrders_78
noncomputable def c_towpathlaw08_ChainOrders_80 : Code := Code.r c_towpathlaw08_ChainOrders_77
noncomputable def c_towpathlaw08_ChainOrders_81 : Code := Code.l c_towpathlaw08_ChainOrders_80
noncomputable def c_towpathlaw08_ChainOrders_82 : Code := Code.l c_towpathlaw08_ChainOrders_81
noncomputable def r_towpathlaw08_ChainOrders_82 : Array Oper := Code.ops c_towpathlaw08_ChainOrders_82
noncomputable def c_towpathlaw08_ChainOrders_84 : Code := Code.r c_towpathlaw08_ChainOrders_81
noncomputable def c_towpathlaw08_ChainOrders_85 : Code := Code.l c_towpathlaw08_ChainOrders_84
noncomputable def c_towpathlaw08_ChainOrders_86 : Code := Code.l c_towpathlaw08_ChainOrders_85
noncomputable def r_towpathlaw08_ChainOrders_86 : Array Oper := Code.ops c_towpathlaw08_ChainOrders_86
noncomputable def c_towpathlaw08_ChainOrders_88 : Code := Code.r c_towpathlaw08_ChainOrders_85
noncomputable def c_towpathlaw08_ChainOrders_89 : Code := Code.r c_towpathlaw08_ChainOrders_84
noncomputable def c_towpathlaw08_ChainOrders_90 : Code := Code.r c_towpathlaw08_ChainOrders_80
noncomputable def r_towpathlaw08_ChainOrders_90 : Array Oper := Code.ops c_towpathlaw08_ChainOrders_90
noncomputable def c_towpathlaw08_ChainOrders_92 : Code := Code.r c_towpathlaw08_ChainOrders_75
noncomputable def r_towpathlaw08_ChainOrders_92 : Array Oper := Code.ops c_towpathlaw08_ChainOrders_92
noncomputable def c_towpathlaw08_ChainOrders_94 : Code := Code.r c_towpathlaw08_ChainOrders_62
noncomputable def c_towpathlaw08_ChainOrders_95 : Code := Code.l c_towpathlaw08_ChainOrders_94
noncomputable def c_towpathlaw08_ChainOrders_96 : Code := Code.l c_towpathlaw08_ChainOrders_95
noncomputable def r_towpathlaw08_ChainOrders_96 : Array Oper := Code.ops c_towpathlaw08_ChainOrders_96
noncomputable def c_towpathlaw08_ChainOrders_98 : Code := Code.r c_towpathlaw08_ChainOrders_95
noncomputable def c_towpathlaw08_ChainOrders_99 : Code := Code.l c_towpathlaw08_ChainOrders_98
noncomputable def c_towpathlaw08_ChainOrders_100 : Code := Code.l c_towpathlaw08_ChainOrders_99
noncomputable def r_towpathlaw08_ChainOrders_100 : Array Oper := Code.ops c_towpathlaw08_ChainOrders_100
noncomputable def c_towpathlaw08_ChainOrders_102 : Code := Code.r c_towpathlaw08_ChainOrders_99
noncomputable def c_towpathlaw08_ChainOrders_103 : Code := Code.r c_towpathlaw08_ChainOrders_98
noncomputable def c_towpathlaw08_ChainOrders_104 : Code := Code.r c_towpathlaw08_ChainOrders_94
noncomputable def c_towpathlaw08_ChainOrders_105 : Code := Code.l c_towpathlaw08_ChainOrders_104
noncomputable def c_towpathlaw08_ChainOrders_106 : Code := Code.l c_towpathlaw08_ChainOrders_105
noncomputable def r_towpathlaw08_ChainOrders_106 : Array Oper := Code.ops c_towpathlaw08_ChainOrders_106
noncomputable def c_towpathlaw08_ChainOrders_108 : Code := Code.r c_towpathlaw08_ChainOrders_105
noncomputable def c_towpathlaw08_ChainOrders_109 : Code := Code.l c_towpathlaw08_ChainOrders_108
noncomputable def c_towpathlaw08_ChainOrders_110 : Code := Code.l c_towpathlaw08_ChainOrders_109
noncomputable def c_towpathlaw08_ChainOrders_111 : Code := Code.l c_towpathlaw08_ChainOrders_110
noncomputable def c_towpathlaw08_ChainOrders_112 : Code := Code.l c_towpathlaw08_ChainOrders_111
noncomputable def r_towpathlaw08_ChainOrders_112 : Array Oper := Code.ops c_towpathlaw08_ChainOrders_112
noncomputable def c_towpathlaw08_ChainOrders_114 : Code := Code.r c_towpathlaw08_ChainOrders_111
noncomputable def c_towpathlaw08_ChainOrders_115 : Code := Code.l c_towpathlaw08_ChainOrders_114
noncomputable def c_towpathlaw08_ChainOrders_116 : Code := Code.r c_towpathlaw08_ChainOrders_114
noncomputable def c_towpathlaw08_ChainOrders_117 : Code := Code.r c_towpathlaw08_ChainOrders_110
noncomputable def c_towpathlaw08_ChainOrders_118 : Code := Code.l c_towpathlaw08_ChainOrders_117
noncomputable def c_towpathlaw08_ChainOrders_119 : Code := Code.l c_towpathlaw08_ChainOrders_118
noncomputable def c_towpathlaw08_ChainOrders_120 : Code := Code.l c_towpathlaw08_ChainOrders_119
noncomputable def r_towpathlaw08_ChainOrders_120 : Array Oper := Code.ops c_towpathlaw08_ChainOrders_120
noncomputable def c_towpathlaw08_ChainOrders_122 : Code := Code.r c_towpathlaw08_ChainOrders_119
noncomputable def c_towpathlaw08_ChainOrders_123 : Code := Code.l c_towpathlaw08_ChainOrders_122
noncomputable def r_towpathlaw08_ChainOrders_123 : Array Oper := Code.ops c_towpathlaw08_ChainOrders_123
noncomputable def c_towpathlaw08_ChainOrders_125 : Code := Code.r c_towpathlaw08_ChainOrders_122
noncomputable def c_towpathlaw08_ChainOrders_126 : Code := Code.l c_towpathlaw08_ChainOrders_125
noncomputable def c_towpathlaw08_ChainOrders_127 : Code := Code.l c_towpathlaw08_ChainOrders_126
noncomputable def r_towpathlaw08_ChainOrders_127 : Array Oper := Code.ops c_towpathlaw08_ChainOrders_127
noncomputable def c_towpathlaw08_ChainOrders_129 : Code := Code.r c_towpathlaw08_ChainOrders_126
noncomputable def c_towpathlaw08_ChainOrders_130 : Code := Code.r c_towpathlaw08_ChainOrders_125
noncomputable def c_towpathlaw08_ChainOrders_131 : Code := Code.r c_towpathlaw08_ChainOrders_117
noncomputable def r_towpathlaw08_ChainOrders_131 : Array Oper := Code.ops c_towpathlaw08_ChainOrders_131
noncomputable def c_towpathlaw08_ChainOrders_133 : Code := Code.r c_towpathlaw08_ChainOrders_104
noncomputable def c_towpathlaw08_ChainOrders_134 : Code := Code.l c_towpathlaw08_ChainOrders_133
noncomputable def r_towpathlaw08_ChainOrders_134 : Array Oper := Code.ops c_towpathlaw08_ChainOrders_134
noncomputable def c_towpathlaw08_ChainOrders_136 : Code := Code.r c_towpathlaw08_ChainOrders_133

set_option maxRecDepth 100000 in
set_option maxHeartbeats 4000000 in
theorem S_towpathlaw08_ChainOrders {l_ : Slc} {turn : Int} {w : World} {R : Bool → World → Prop} (h : F_towpathlaw08_ChainOrders l_ turn R w) : C_towpathlaw08_ChainOrders l_ turn w R := by
  unfold F_towpathlaw08_ChainOrders at h
  unfold C_towpathlaw08_ChainOrders
  refine Calls.mono (calls_of_wpE (args := [Value.slice l_.ptr l_.len l_.cap, Value.int .u8 turn]) (R := fun v w' => ∃ (r0 : Bool), v = Value.bool r0 ∧ R r0 w') Try.func3 (c := c_towpathlaw08_ChainOrders_0) (by kernel_rfl) 141 (by kernel_rfl) (by kernel_rfl) [(0, Value.slice l_.ptr l_.len l_.cap), (1, Value.int .u8 turn)] (by kernel_rfl) ?_) ?_
  · refine wpE_seq (x := c_towpathlaw08_ChainOrders_1) (y := c_towpathlaw08_ChainOrders_3) (by kernel_rfl) ?_
    refine wpE_region (id := 0) (ops := r_towpathlaw08_ChainOrders_1) (by kernel_rfl) ?_
    refine reg_run [.plain] 1 [(0, [], Value.slice l_.ptr l_.len l_.cap), (1, [], Value.int .u8 turn)] (by kernel_rfl) (by kernel_rfl) ?_
    refine reg_end [(0, Value.slice l_.ptr l_.len l_.cap), (1, Value.int .u8 turn)] (by kernel_rfl) (by kernel_rfl) ?_
    change WpE _ _ c_towpathlaw08_ChainOrders_3 _ _ _
    refine wpE_seq (x := c_towpathlaw08_ChainOrders_4) (y := c_towpathlaw08_ChainOrders_13) (by kernel_rfl) ?_
    refine wpE_seq_cut (x := c_towpathlaw08_ChainOrders_5) (y := c_towpathlaw08_ChainOrders_7) (by kernel_rfl) (fun l w => ∃ (t32 : Bool), l = [(0, Value.slice l_.ptr l_.len l_.cap), (1, Value.int .u8 turn), (32, Value.bool t32)] ∧ F_towpathlaw08_ChainOrders_k0 l_ turn R t32 w) ?_ ?_
    · refine wpE_region (id := 1) (ops := r_towpathlaw08_ChainOrders_5) (by kernel_rfl) ?_
      refine reg_run [] 0 [(0, [], Value.slice l_.ptr l_.len l_.cap), (1, [], Value.int .u8 turn)] (by kernel_rfl) (by kernel_rfl) ?_
      refine reg_enter (op := (Go.Op.call (Go.Call.mk (Go.Callee.value (Go.Operand.func 7)) #[] #[]))) (ty := 4) (dst := some 20) 7 #[] (by kernel_rfl) (fun ww => by kernel_rfl) (Calls.mono h ?_)
      rintro _ w19 ⟨v20, rfl, h⟩
      refine ⟨_, rfl, ?_⟩
      refine reg_run [.plain, .plain, .plain] 4 [(0, [], Value.slice l_.ptr l_.len l_.cap), (1, [], Value.int .u8 turn), (22, [], Value.bool (!v20)), (23, [(22, false)], Value.slice l_.ptr l_.len l_.cap)] (by kernel_rfl) (by kernel_rfl) ?_
      refine reg_split 22 (!v20) (by kernel_rfl) (fun hb => ?_) (fun hb => ?_)
      · replace h := h.1 hb
        refine reg_run [] 4 [(0, [], Value.slice l_.ptr l_.len l_.cap), (1, [], Value.int .u8 turn), (22, [], Value.bool true), (23, [], undef)] (by kernel_rfl) (by kernel_rfl) ?_
        refine reg_run [.skip, .skip, .skip, .plain, .plain, .skip, .skip, .skip, .plain] 13 [(0, [], Value.slice l_.ptr l_.len l_.cap), (1, [], Value.int .u8 turn), (32, [], Value.bool true)] (by kernel_rfl) (by kernel_rfl) ?_
        refine reg_end [(0, Value.slice l_.ptr l_.len l_.cap), (1, Value.int .u8 turn), (32, Value.bool true)] (by kernel_rfl) (by kernel_rfl) ?_
        exact ⟨[(0, Value.slice l_.ptr l_.len l_.cap), (1, Value.int .u8 turn), (32, Value.bool true)], Sub.mk (by kernel_rfl), true, rfl, h⟩
      · replace h := h.2 hb
        refine reg_run [] 4 [(0, [], Value.slice l_.ptr l_.len l_.cap), (1, [], Value.int .u8 turn), (22, [], Value.bool false), (23, [], Value.slice l_.ptr l_.len l_.cap)] (by kernel_rfl) (by kernel_rfl) ?_
        refine reg_run [] 4 [(0, [], Value.slice l_.ptr l_.len l_.cap), (1, [], Value.int .u8 turn), (22, [], Value.bool false), (23, [], Value.slice l_.ptr l_.len l_.cap)] (by kernel_rfl) (by kernel_rfl) ?_
        refine reg_enter (op := (Go.Op.call (Go.Call.mk (Go.Callee.value (Go.Operand.func 9)) #[(Go.Operand.tmp 23)] #[22]))) (ty := 3) (dst := some 24) 9 #[Value.slice l_.ptr l_.len l_.cap] (by kernel_rfl) (fun ww => by kernel_rfl) (Calls.mono h ?_)
        rintro _ w20 ⟨v24, rfl, h⟩
        refine ⟨_, rfl, ?_⟩
        refine reg_run [] 5 [(0, [], Value.slice l_.ptr l_.len l_.cap), (1, [], Value.int .u8 turn), (22, [], Value.bool false), (24, [], Value.int .i64 v24)] (by kernel_rfl) (by kernel_rfl) ?_
        refine reg_new (op := (Go.Op.buildSlice 41 1 #[(0, (Go.Operand.tmp 24))])) (ty := 41) (dst := some 25) (fun bb => Value.slice (some ⟨bb, 0, none⟩) 1 1) (Obj.cells ([Value.int .i64 v24]).toArray ty_int (0, 0)) (by kernel_rfl) (by kernel_rfl) (fun b_2 w21 hb hw => ?_)
        replace h := h b_2 w21 hb hw
        clear hb hw
        refine reg_run [] 6 [(0, [], Value.slice l_.ptr l_.len l_.cap), (1, [], Value.int .u8 turn), (22, [], Value.bool false), (25, [], Value.slice (some ⟨b_2, 0, none⟩) 1 1)] (by kernel_rfl) (by kernel_rfl) ?_
        refine reg_enter (op := (Go.Op.call (Go.Call.mk (Go.Callee.value (Go.Operand.func 8)) #[(Go.Operand.tmp 25)] #[41]))) (ty := 4) (dst := some 26) 8 #[Value.slice (some ⟨b_2, 0, none⟩) 1 1] (by kernel_rfl) (fun ww => by kernel_rfl) (Calls.mono h ?_)
        rintro _ w22 ⟨v26, rfl, h⟩
        refine ⟨_, rfl, ?_⟩
        refine reg_run [.plain, .plain, .plain, .plain, .plain, .pick] 13 [(0, [], Value.slice l_.ptr l_.len l_.cap), (1, [], Value.int .u8 turn), (32, [], Value.bool (v26 || (decide (((l_.len : Nat) : Int) > 60))))] (by kernel_rfl) (by kernel_rfl) ?_
        refine reg_end [(0, Value.slice l_.ptr l_.len l_.cap), (1, Value.int .u8 turn), (32, Value.bool (v26 || (decide (((l_.len : Nat) : Int) > 60))))] (by kernel_rfl) (by kernel_rfl) ?_
        exact ⟨[(0, Value.slice l_.ptr l_.len l_.cap), (1, Value.int .u8 turn), (32, Value.bool (v26 || (decide (((l_.len : Nat) : Int) > 60))))], Sub.mk (by kernel_rfl), (v26 || (decide (((l_.len : Nat) : Int) > 60))), rfl, h⟩
    · rintro _ w1 ⟨t32, rfl, h⟩
      unfold F_towpathlaw08_ChainOrders_k0 at h
      refine wpE_cond (o := (Operand.tmp 32)) (b := t32) (x := c_towpathlaw08_ChainOrders_8) (y := c_towpathlaw08_ChainOrders_12) (by kernel_rfl) (by kernel_rfl) (fun hb => ?_) (fun hb => ?_)
      · replace h := h.1 hb
        refine wpE_seq (x := c_towpathlaw08_ChainOrders_9) (y := c_towpathlaw08_ChainOrders_11) (by kernel_rfl) ?_
        refine wpE_region (id := 2) (ops := r_towpathlaw08_ChainOrders_9) (by kernel_rfl) ?_
        refine reg_run [] 0 [] (by kernel_rfl) (by kernel_rfl) ?_
        refine reg_enter (op := (Go.Op.call (Go.Call.mk (Go.Callee.value (Go.Operand.func 7)) #[] #[]))) (ty := 4) (dst := some 33) 7 #[] (by kernel_rfl) (fun ww => by kernel_rfl) (Calls.mono h ?_)
        rintro _ w2 ⟨v33, rfl, h⟩
        refine ⟨_, rfl, ?_⟩
        refine reg_run [.plain] 2 [(4, [], Value.bool v33)] (by kernel_rfl) (by kernel_rfl) ?_
        refine reg_end [(4, Value.bool v33)] (by kernel_rfl) (by kernel_rfl) ?_
        change WpE _ _ c_towpathlaw08_ChainOrders_11 _ _ _
        refine wpE_ret (by kernel_rfl) ?_
        repeat (first | refine seqQ_ret ?_ | refine blockQ_ret ?_ | refine loopQ_ret ?_ | refine cutQ_ret ?_)
        exact retS (rs := [(Go.ResultVar.tmp 4)]) (v := Value.bool v33) (by kernel_rfl) (⟨by kernel_rfl, trivial⟩) ⟨v33, rfl, h⟩
      · replace h := h.2 hb
        refine wpE_skip (by kernel_rfl) ?_
        change WpE _ _ c_towpathlaw08_ChainOrders_13 _ _ _
        refine wpE_seq (x := c_towpathlaw08_ChainOrders_14) (y := c_towpathlaw08_ChainOrders_16) (by kernel_rfl) ?_
        refine wpE_region (id := 3) (ops := r_towpathlaw08_ChainOrders_14) (by kernel_rfl) ?_
        refine reg_run [.plain] 1 [(0, [], Value.slice l_.ptr l_.len l_.cap), (1, [], Value.int .u8 turn), (5, [], Value.slice none 0 0)] (by kernel_rfl) (by kernel_rfl) ?_
        refine reg_end [(0, Value.slice l_.ptr l_.len l_.cap), (1, Value.int .u8 turn), (5, Value.slice none 0 0)] (by kernel_rfl) (by kernel_rfl) ?_
        change WpE _ _ c_towpathlaw08_ChainOrders_16 _ _ _
        refine wpE_seq (x := c_towpathlaw08_ChainOrders_17) (y := c_towpathlaw08_ChainOrders_19) (by kernel_rfl) ?_
        refine wpE_region (id := 4) (ops := r_towpathlaw08_ChainOrders_17) (by kernel_rfl) ?_
        refine reg_run [.plain] 1 [(0, [], Value.slice l_.ptr l_.len l_.cap), (1, [], Value.int .u8 turn), (5, [], Value.slice none 0 0), (6, [], Value.slice none 0 0)] (by kernel_rfl) (by kernel_rfl) ?_
        refine reg_end [(0, Value.slice l_.ptr l_.len l_.cap), (1, Value.int .u8 turn), (5, Value.slice none 0 0), (6, Value.slice none 0 0)] (by kernel_rfl) (by kernel_rfl) ?_
        change WpE _ _ c_towpathlaw08_ChainOrders_19 _ _ _
        refine wpE_seq (x := c_towpathlaw08_ChainOrders_20) (y := c_towpathlaw08_ChainOrders_49) (by kernel_rfl) ?_
        refine wpE_seq (x := c_towpathlaw08_ChainOrders_21) (y := c_towpathlaw08_ChainOrders_23) (by kernel_rfl) ?_
        refine wpE_region (id := 5) (ops := r_towpathlaw08_ChainOrders_21) (by kernel_rfl) ?_
        refine reg_run [.plain] 1 [(0, [], Value.slice l_.ptr l_.len l_.cap), (1, [], Value.int .u8 turn), (5, [], Value.slice none 0 0), (6, [], Value.slice none 0 0), (7, [], Value.int .i64 0)] (by kernel_rfl) (by kernel_rfl) ?_
        refine reg_end [(0, Value.slice l_.ptr l_.len l_.cap), (1, Value.int .u8 turn), (5, Value.slice none 0 0), (6, Value.slice none 0 0), (7, Value.int .i64 0)] (by kernel_rfl) (by kernel_rfl) ?_
        change WpE _ _ c_towpathlaw08_ChainOrders_23 _ _ _
        refine wpE_block (id := 0) (x := c_towpathlaw08_ChainOrders_24) (by kernel_rfl) ?_
        obtain ⟨I, μ, h0, hr⟩ := h
        refine wpE_loop (x := c_towpathlaw08_ChainOrders_25) (by kernel_rfl) (fun m l w => ∃ (own : Slc) (x : Slc) (i : Int), l = [(0, Value.slice l_.ptr l_.len l_.cap), (1, Value.int .u8 turn), (5, Value.slice own.ptr own.len own.cap), (6, Value.slice x.ptr x.len x.cap), (7, Value.int .i64 i)] ∧ I own x i w ∧ μ own x i w = m) (l' := [(0, Value.slice l_.ptr l_.len l_.cap), (1, Value.int .u8 turn), (5, Value.slice none 0 0), (6, Value.slice none 0 0), (7, Value.int .i64 0)]) (Sub.mk (by kernel_rfl)) ⟨(Slc.mk none 0 0), (Slc.mk none 0 0), 0, rfl, h0, rfl⟩ ?_
        rintro _ _ w3 ⟨own, x, i, rfl, hI, rfl⟩
        obtain ⟨again_, again__h, h⟩ : ∃ again_ : Slc → Slc → Int → World → Prop, (∀ own' x' i' w', again_ own' x' i' w' → I own' x' i' w' ∧ μ own' x' i' w' < μ own x i w3) ∧ F_towpathlaw08_ChainOrders_L1 l_ turn R again_ own x i w3 := ⟨_, fun _ _ _ _ h => h, hr own x i w3 hI⟩
        clear h0 hI
        unfold F_towpathlaw08_ChainOrders_L1 at h
        refine wpE_seq (x := c_towpathlaw08_ChainOrders_26) (y := c_towpathlaw08_ChainOrders_32) (by kernel_rfl) ?_
        refine wpE_seq (x := c_towpathlaw08_ChainOrders_27) (y := c_towpathlaw08_ChainOrders_29) (by kernel_rfl) ?_
        refine wpE_region (id := 6) (ops := r_towpathlaw08_ChainOrders_27) (by kernel_rfl) ?_
        refine reg_run [.plain, .plain, .plain, .plain] 4 [(0, [], Value.slice l_.ptr l_.len l_.cap), (1, [], Value.int .u8 turn), (5, [], Value.slice own.ptr own.len own.cap), (6, [], Value.slice x.ptr x.len x.cap), (7, [], Value.int .i64 i), (37, [], Value.bool (decide (i < ((l_.len : Nat) : Int))))] (by kernel_rfl) (by kernel_rfl) ?_
        refine reg_end [(0, Value.slice l_.ptr l_.len l_.cap), (1, Value.int .u8 turn), (5, Value.slice own.ptr own.len own.cap), (6, Value.slice x.ptr x.len x.cap), (7, Value.int .i64 i), (37, Value.bool (decide (i < ((l_.len : Nat) : Int))))] (by kernel_rfl) (by kernel_rfl) ?_
        change WpE _ _ c_towpathlaw08_ChainOrders_29 _ _ _
        refine wpE_cond (o := (Operand.tmp 37)) (b := (decide (i < ((l_.len : Nat) : Int)))) (x := c_towpathlaw08_ChainOrders_30) (y := c_towpathlaw08_ChainOrders_31) (by kernel_rfl) (by kernel_rfl) (fun hb => ?_) (fun hb => ?_)
        · replace h := h.1 hb
          refine wpE_skip (by kernel_rfl) ?_
          change WpE _ _ c_towpathlaw08_ChainOrders_32 _ _ _
          refine wpE_seq_cut (x := c_towpathlaw08_ChainOrders_33) (y := c_towpathlaw08_ChainOrders_47) (by kernel_rfl) (fun l w => ∃ (own1 : Slc) (x1 : Slc), l = [(0, Value.slice l_.ptr l_.len l_.cap), (1, Value.int .u8 turn), (5, Value.slice own1.ptr own1.len own1.cap), (6, Value.slice x1.ptr x1.len x1.cap), (7, Value.int .i64 i)] ∧ F_towpathlaw08_ChainOrders_k2 i again_ own1 x1 w) ?_ ?_
          · refine wpE_block (id := 1) (x := c_towpathlaw08_ChainOrders_34) (by kernel_rfl) ?_
            refine wpE_seq (x := c_towpathlaw08_ChainOrders_35) (y := c_towpathlaw08_ChainOrders_37) (by kernel_rfl) ?_
            refine wpE_region (id := 8) (ops := r_towpathlaw08_ChainOrders_35) (by kernel_rfl) ?_
            refine reg_run [.plain, .plain, .plain] 3 [(0, [], Value.slice l_.ptr l_.len l_.cap), (1, [], Value.int .u8 turn), (5, [], Value.slice own.ptr own.len own.cap), (6, [], Value.slice x.ptr x.len x.cap), (7, [], Value.int .i64 i), (41, [], Value.slice x.ptr x.len x.cap), (42, [], Value.slice l_.ptr l_.len l_.cap), (43, [], Value.int .i64 i)] (by kernel_rfl) (by kernel_rfl) ?_
            obtain ⟨hp_10, h⟩ := h
            refine reg_conv [(0, [], Value.slice l_.ptr l_.len l_.cap), (1, [], Value.int .u8 turn), (5, [], Value.slice own.ptr own.len own.cap), (6, [], Value.slice x.ptr x.len x.cap), (7, [], Value.int .i64 i), (41, [], Value.slice x.ptr x.len x.cap), (42, [], Value.slice (some ⟨(pblk l_.ptr), (poff l_.ptr), none⟩) l_.len l_.cap), (43, [], Value.int .i64 i)] (congrArg (fun pp => ([(0, [], Value.slice l_.ptr l_.len l_.cap), (1, [], Value.int .u8 turn), (5, [], Value.slice own.ptr own.len own.cap), (6, [], Value.slice x.ptr x.len x.cap), (7, [], Value.int .i64 i), (41, [], Value.slice x.ptr x.len x.cap), (42, [], Value.slice pp l_.len l_.cap), (43, [], Value.int .i64 i)] : GEnv)) hp_10) ?_
            obtain ⟨h0, h1, h⟩ := h
            refine reg_indexS (t := 22) (e := 30) (x := (Go.Operand.tmp 42)) (ix := (Go.Operand.tmp 43)) (b := (pblk l_.ptr)) (o := (poff l_.ptr)) (l := l_.len) (c := l_.cap) (k := .i64) (j := i) (ty := 0) (dst := some 44) (sz := 3) (by kernel_rfl) (by kernel_rfl) (by kernel_rfl) (by kernel_rfl) (by kernel_rfl) h0 h1 ?_
            refine reg_run [] 4 [(0, [], Value.slice l_.ptr l_.len l_.cap), (1, [], Value.int .u8 turn), (5, [], Value.slice own.ptr own.len own.cap), (6, [], Value.slice x.ptr x.len x.cap), (7, [], Value.int .i64 i), (41, [], Value.slice x.ptr x.len x.cap), (44, [], Value.pointer (some ⟨(pblk l_.ptr), (poff l_.ptr) + i.toNat * 3, none⟩))] (by kernel_rfl) (by kernel_rfl) ?_
            obtain ⟨v45, hc, h⟩ := h
            refine reg_loadN (t := 30) (a := (Go.Operand.tmp 44)) (b := (pblk l_.ptr)) (o := ((poff l_.ptr) + i.toNat * 3)) (ty := 30) (dst := some 45) [Value.int .i64 v45.Number, Value.string v45.Val, Value.bool v45.Drop] (by kernel_rfl) (by kernel_rfl) (by kernel_rfl) (k := 3) (by kernel_rfl) (by kernel_rfl) hc ?_
            refine reg_run [] 5 [(0, [], Value.slice l_.ptr l_.len l_.cap), (1, [], Value.int .u8 turn), (5, [], Value.slice own.ptr own.len own.cap), (6, [], Value.slice x.ptr x.len x.cap), (7, [], Value.int .i64 i), (41, [], Value.slice x.ptr x.len x.cap), (45, [], Value.agg #[Value.int .i64 v45.Number, Value.string v45.Val, Value.bool v45.Drop])] (by kernel_rfl) (by kernel_rfl) ?_
            refine reg_enter (op := (Go.Op.call (Go.Call.mk (Go.Callee.value (Go.Operand.func 10)) #[(Go.Operand.tmp 41), (Go.Operand.tmp 45)] #[22, 30]))) (ty := 27) (dst := some 46) 10 #[Value.slice x.ptr x.len x.cap, Value.agg #[Value.int .i64 v45.Number, Value.string v45.Val, Value.bool v45.Drop]] (by kernel_rfl) (fun ww => by kernel_rfl) (Calls.mono h ?_)
            rintro _ w5 ⟨y, ok, e, rfl, h⟩
            refine ⟨_, rfl, ?_⟩
            refine reg_run [.plain, .plain, .plain, .plain, .plain, .plain, .plain] 13 [(0, [], Value.slice l_.ptr l_.len l_.cap), (1, [], Value.int .u8 turn), (5, [], Value.slice own.ptr own.len own.cap), (6, [], Value.slice x.ptr x.len x.cap), (7, [], Value.int .i64 i), (8, [], Value.slice y.ptr y.len y.cap), (9, [], Value.bool ok), (10, [], Value.int .i64 e)] (by kernel_rfl) (by kernel_rfl) ?_
            refine reg_end [(0, Value.slice l_.ptr l_.len l_.cap), (1, Value.int .u8 turn), (5, Value.slice own.ptr own.len own.cap), (6, Value.slice x.ptr x.len x.cap), (7, Value.int .i64 i), (8, Value.slice y.ptr y.len y.cap), (9, Value.bool ok), (10, Value.int .i64 e)] (by kernel_rfl) (by kernel_rfl) ?_
            change WpE _ _ c_towpathlaw08_ChainOrders_37 _ _ _
            refine wpE_seq (x := c_towpathlaw08_ChainOrders_38) (y := c_towpathlaw08_ChainOrders_40) (by kernel_rfl) ?_
            refine wpE_region (id := 9) (ops := r_towpathlaw08_ChainOrders_38) (by kernel_rfl) ?_
            refine reg_run [.plain, .plain, .plain, .plain, .pick] 5 [(0, [], Value.slice l_.ptr l_.len l_.cap), (1, [], Value.int .u8 turn), (5, [], Value.slice own.ptr own.len own.cap), (6, [], Value.slice x.ptr x.len x.cap), (7, [], Value.int .i64 i), (8, [], Value.slice y.ptr y.len y.cap), (54, [], Value.bool ((e == 0) && ok))] (by kernel_rfl) (by kernel_rfl) ?_
            refine reg_end [(0, Value.slice l_.ptr l_.len l_.cap), (1, Value.int .u8 turn), (5, Value.slice own.ptr own.len own.cap), (6, Value.slice x.ptr x.len x.cap), (7, Value.int .i64 i), (8, Value.slice y.ptr y.len y.cap), (54, Value.bool ((e == 0) && ok))] (by kernel_rfl) (by kernel_rfl) ?_
            change WpE _ _ c_towpathlaw08_ChainOrders_40 _ _ _
            refine wpE_cond (o := (Operand.tmp 54)) (b := ((e == 0) && ok)) (x := c_towpathlaw08_ChainOrders_41) (y := c_towpathlaw08_ChainOrders_46) (by kernel_rfl) (by kernel_rfl) (fun hb => ?_) (fun hb => ?_)
            · replace h := h.1 hb
              refine wpE_seq (x := c_towpathlaw08_ChainOrders_42) (y := c_towpathlaw08_ChainOrders_44) (by kernel_rfl) ?_
              refine wpE_region (id := 10) (ops := r_towpathlaw08_ChainOrders_42) (by kernel_rfl) ?_
              refine reg_run [.plain, .plain] 2 [(0, [], Value.slice l_.ptr l_.len l_.cap), (1, [], Value.int .u8 turn), (5, [], Value.slice own.ptr own.len own.cap), (6, [], Value.slice y.ptr y.len y.cap), (7, [], Value.int .i64 i)] (by kernel_rfl) (by kernel_rfl) ?_
              refine reg_end [(0, Value.slice l_.ptr l_.len l_.cap), (1, Value.int .u8 turn), (5, Value.slice own.ptr own.len own.cap), (6, Value.slice y.ptr y.len y.cap), (7, Value.int .i64 i)] (by kernel_rfl) (by kernel_rfl) ?_
              change WpE _ _ c_towpathlaw08_ChainOrders_44 _ _ _
              refine wpE_region (id := 11) (ops := r_towpathlaw08_ChainOrders_44) (by kernel_rfl) ?_
              refine reg_run [.plain, .plain, .plain] 3 [(0, [], Value.slice l_.ptr l_.len l_.cap), (1, [], Value.int .u8 turn), (5, [], Value.slice own.ptr own.len own.cap), (6, [], Value.slice y.ptr y.len y.cap), (7, [], Value.int .i64 i), (56, [], Value.slice own.ptr own.len own.cap), (57, [], Value.slice l_.ptr l_.len l_.cap), (58, [], Value.int .i64 i)] (by kernel_rfl) (by kernel_rfl) ?_
              obtain ⟨hp_11, h⟩ := h
              refine reg_conv [(0, [], Value.slice l_.ptr l_.len l_.cap), (1, [], Value.int .u8 turn), (5, [], Value.slice own.ptr own.len own.cap), (6, [], Value.slice y.ptr y.len y.cap), (7, [], Value.int .i64 i), (56, [], Value.slice own.ptr own.len own.cap), (57, [], Value.slice (some ⟨(pblk l_.ptr), (poff l_.ptr), none⟩) l_.len l_.cap), (58, [], Value.int .i64 i)] (congrArg (fun pp => ([(0, [], Value.slice l_.ptr l_.len l_.cap), (1, [], Value.int .u8 turn), (5, [], Value.slice own.ptr own.len own.cap), (6, [], Value.slice y.ptr y.len y.cap), (7, [], Value.int .i64 i), (56, [], Value.slice own.ptr own.len own.cap), (57, [], Value.slice pp l_.len l_.cap), (58, [], Value.int .i64 i)] : GEnv)) hp_11) ?_
              obtain ⟨h0, h1, h⟩ := h
              refine reg_indexS (t := 22) (e := 30) (x := (Go.Operand.tmp 57)) (ix := (Go.Operand.tmp 58)) (b := (pblk l_.ptr)) (o := (poff l_.ptr)) (l := l_.len) (c := l_.cap) (k := .i64) (j := i) (ty := 0) (dst := some 59) (sz := 3) (by kernel_rfl) (by kernel_rfl) (by kernel_rfl) (by kernel_rfl) (by kernel_rfl) h0 h1 ?_
              refine reg_run [] 4 [(0, [], Value.slice l_.ptr l_.len l_.cap), (1, [], Value.int .u8 turn), (5, [], Value.slice own.ptr own.len own.cap), (6, [], Value.slice y.ptr y.len y.cap), (7, [], Value.int .i64 i), (56, [], Value.slice own.ptr own.len own.cap), (59, [], Value.pointer (some ⟨(pblk l_.ptr), (poff l_.ptr) + i.toNat * 3, none⟩))] (by kernel_rfl) (by kernel_rfl) ?_
              obtain ⟨v60, hc, h⟩ := h
              refine reg_loadN (t := 30) (a := (Go.Operand.tmp 59)) (b := (pblk l_.ptr)) (o := ((poff l_.ptr) + i.toNat * 3)) (ty := 30) (dst := some 60) [Value.int .i64 v60.Number, Value.string v60.Val, Value.bool v60.Drop] (by kernel_rfl) (by kernel_rfl) (by kernel_rfl) (k := 3) (by kernel_rfl) (by kernel_rfl) hc ?_
              refine reg_run [] 5 [(0, [], Value.slice l_.ptr l_.len l_.cap), (1, [], Value.int .u8 turn), (5, [], Value.slice own.ptr own.len own.cap), (6, [], Value.slice y.ptr y.len y.cap), (7, [], Value.int .i64 i), (56, [], Value.slice own.ptr own.len own.cap), (60, [], Value.agg #[Value.int .i64 v60.Number, Value.string v60.Val, Value.bool v60.Drop])] (by kernel_rfl) (by kernel_rfl) ?_
              refine reg_new (op := (Go.Op.buildSlice 22 1 #[(0, (Go.Operand.tmp 60))])) (ty := 22) (dst := some 61) (fun bb => Value.slice (some ⟨bb, 0, none⟩) 1 1) (Obj.cells ([Value.int .i64 v60.Number, Value.string v60.Val, Value.bool v60.Drop]).toArray ty_api_Version (0, 0)) (by kernel_rfl) (by kernel_rfl) (fun b_ w6 hb hw => ?_)
              replace h := h b_ w6 hb hw
              clear hb hw
              refine reg_run [] 6 [(0, [], Value.slice l_.ptr l_.len l_.cap), (1, [], Value.int .u8 turn), (5, [], Value.slice own.ptr own.len own.cap), (6, [], Value.slice y.ptr y.len y.cap), (7, [], Value.int .i64 i), (56, [], Value.slice own.ptr own.len own.cap), (61, [], Value.slice (some ⟨b_, 0, none⟩) 1 1)] (by kernel_rfl) (by kernel_rfl) ?_
              obtain ⟨src, hs, h⟩ := h
              refine reg_append (t := 22) (tx := 22) (e := 30) (a := (Go.Operand.tmp 56)) (xo := (Go.Operand.tmp 61)) (s := own) (x := (Slc.mk (some ⟨b_, 0, none⟩) 1 1)) (sz := 3) (by_ := 32) (zs := [Value.int .i64 0, Value.string ByteArray.empty, Value.bool false]) (ty := 22) (dst := some 62)  src (by kernel_rfl) (by kernel_rfl) (by kernel_rfl) (by kernel_rfl) (by kernel_rfl) (by kernel_rfl) (by kernel_rfl) (by kernel_rfl) (by kernel_rfl) hs (AppendW.mono h (fun own2 w7 h => ?_))
              refine reg_run [.plain] 8 [(0, [], Value.slice l_.ptr l_.len l_.cap), (1, [], Value.int .u8 turn), (5, [], Value.slice own2.ptr own2.len own2.cap), (6, [], Value.slice y.ptr y.len y.cap), (7, [], Value.int .i64 i)] (by kernel_rfl) (by kernel_rfl) ?_
              refine reg_end [(0, Value.slice l_.ptr l_.len l_.cap), (1, Value.int .u8 turn), (5, Value.slice own2.ptr own2.len own2.cap), (6, Value.slice y.ptr y.len y.cap), (7, Value.int .i64 i)] (by kernel_rfl) (by kernel_rfl) ?_
              exact ⟨[(0, Value.slice l_.ptr l_.len l_.cap), (1, Value.int .u8 turn), (5, Value.slice own2.ptr own2.len own2.cap), (6, Value.slice y.ptr y.len y.cap), (7, Value.int .i64 i)], Sub.mk (by kernel_rfl), own2, y, rfl, h⟩
            · replace h := h.2 hb
              refine wpE_skip (by kernel_rfl) ?_
              exact ⟨[(0, Value.slice l_.ptr l_.len l_.cap), (1, Value.int .u8 turn), (5, Value.slice own.ptr own.len own.cap), (6, Value.slice x.ptr x.len x.cap), (7, Value.int .i64 i)], Sub.mk (by kernel_rfl), own, x, rfl, h⟩
          · rintro _ w4 ⟨own1, x1, rfl, h⟩
            unfold F_towpathlaw08_ChainOrders_k2 at h
            refine wpE_region (id := 7) (ops := r_towpathlaw08_ChainOrders_47) (by kernel_rfl) ?_
            refine reg_run [.plain, .plain, .plain] 3 [(0, [], Value.slice l_.ptr l_.len l_.cap), (1, [], Value.int .u8 turn), (5, [], Value.slice own1.ptr own1.len own1.cap), (6, [], Value.slice x1.ptr x1.len x1.cap), (7, [], Value.int .i64 (IntKind.i64.wrap (i + 1)))] (by kernel_rfl) (by kernel_rfl) ?_
            refine reg_end [(0, Value.slice l_.ptr l_.len l_.cap), (1, Value.int .u8 turn), (5, Value.slice own1.ptr own1.len own1.cap), (6, Value.slice x1.ptr x1.len x1.cap), (7, Value.int .i64 (IntKind.i64.wrap (i + 1)))] (by kernel_rfl) (by kernel_rfl) ?_
            have hb_ := again__h _ _ _ _ h
            exact ⟨_, hb_.2, [(0, Value.slice l_.ptr l_.len l_.cap), (1, Value.int .u8 turn), (5, Value.slice own1.ptr own1.len own1.cap), (6, Value.slice x1.ptr x1.len x1.cap), (7, Value.int .i64 (IntKind.i64.wrap (i + 1)))], Sub.mk (by kernel_rfl), own1, x1, (IntKind.i64.wrap (i + 1)), rfl, hb_.1, rfl⟩
        · replace h := h.2 hb
          refine wpE_exit (id := 0) (by kernel_rfl) ?_
          change WpE _ _ c_towpathlaw08_ChainOrders_49 _ _ _
          refine wpE_seq (x := c_towpathlaw08_ChainOrders_50) (y := c_towpathlaw08_ChainOrders_59) (by kernel_rfl) ?_
          refine wpE_seq (x := c_towpathlaw08_ChainOrders_51) (y := c_towpathlaw08_ChainOrders_53) (by kernel_rfl) ?_
          refine wpE_region (id := 12) (ops := r_towpathlaw08_ChainOrders_51) (by kernel_rfl) ?_
          refine reg_run [.plain] 1 [(1, [], Value.int .u8 turn), (5, [], Value.slice own.ptr own.len own.cap), (6, [], Value.slice x.ptr x.len x.cap), (63, [], Value.slice x.ptr x.len x.cap)] (by kernel_rfl) (by kernel_rfl) ?_
          refine reg_enter (op := (Go.Op.call (Go.Call.mk (Go.Callee.value (Go.Operand.func 11)) #[(Go.Operand.tmp 63)] #[22]))) (ty := 26) (dst := some 64) 11 #[Value.slice x.ptr x.len x.cap] (by kernel_rfl) (fun ww => by kernel_rfl) (Calls.mono h ?_)
          rintro _ w8 ⟨v64, rfl, h⟩
          refine ⟨_, rfl, ?_⟩
          refine reg_run [.plain, .plain, .plain, .plain, .plain, .plain, .plain, .pick] 10 [(1, [], Value.int .u8 turn), (5, [], Value.slice own.ptr own.len own.cap), (6, [], Value.slice x.ptr x.len x.cap), (72, [], Value.bool ((v64 != 0) || (((x.len : Nat) : Int) != ((own.len : Nat) : Int))))] (by kernel_rfl) (by kernel_rfl) ?_
          refine reg_end [(1, Value.int .u8 turn), (5, Value.slice own.ptr own.len own.cap), (6, Value.slice x.ptr x.len x.cap), (72, Value.bool ((v64 != 0) || (((x.len : Nat) : Int) != ((own.len : Nat) : Int))))] (by kernel_rfl) (by kernel_rfl) ?_
          change WpE _ _ c_towpathlaw08_ChainOrders_53 _ _ _
          refine wpE_cond (o := (Operand.tmp 72)) (b := ((v64 != 0) || (((x.len : Nat) : Int) != ((own.len : Nat) : Int)))) (x := c_towpathlaw08_ChainOrders_54) (y := c_towpathlaw08_ChainOrders_58) (by kernel_rfl) (by kernel_rfl) (fun hb => ?_) (fun hb => ?_)
          · replace h := h.1 hb
            refine wpE_seq (x := c_towpathlaw08_ChainOrders_55) (y := c_towpathlaw08_ChainOrders_57) (by kernel_rfl) ?_
            refine wpE_region (id := 13) (ops := r_towpathlaw08_ChainOrders_55) (by kernel_rfl) ?_
            refine reg_run [.plain] 1 [(4, [], Value.bool false)] (by kernel_rfl) (by kernel_rfl) ?_
            refine reg_end [(4, Value.bool false)] (by kernel_rfl) (by kernel_rfl) ?_
            change WpE _ _ c_towpathlaw08_ChainOrders_57 _ _ _
            refine wpE_ret (by kernel_rfl) ?_
            repeat (first | refine seqQ_ret ?_ | refine blockQ_ret ?_ | refine loopQ_ret ?_ | refine cutQ_ret ?_)
            exact retS (rs := [(Go.ResultVar.tmp 4)]) (v := Value.bool false) (by kernel_rfl) (⟨by kernel_rfl, trivial⟩) ⟨false, rfl, h⟩
          · replace h := h.2 hb
            refine wpE_skip (by kernel_rfl) ?_
            change WpE _ _ c_towpathlaw08_ChainOrders_59 _ _ _
            refine wpE_seq (x := c_towpathlaw08_ChainOrders_60) (y := c_towpathlaw08_ChainOrders_62) (by kernel_rfl) ?_
            refine wpE_region (id := 14) (ops := r_towpathlaw08_ChainOrders_60) (by kernel_rfl) ?_
            refine reg_run [.plain] 1 [(1, [], Value.int .u8 turn), (5, [], Value.slice own.ptr own.len own.cap), (6, [], Value.slice x.ptr x.len x.cap), (11, [], Value.slice none 0 0)] (by kernel_rfl) (by kernel_rfl) ?_
            refine reg_end [(1, Value.int .u8 turn), (5, Value.slice own.ptr own.len own.cap), (6, Value.slice x.ptr x.len x.cap), (11, Value.slice none 0 0)] (by kernel_rfl) (by kernel_rfl) ?_
            change WpE _ _ c_towpathlaw08_ChainOrders_62 _ _ _
            refine wpE_seq (x := c_towpathlaw08_ChainOrders_63) (y := c_towpathlaw08_ChainOrders_94) (by kernel_rfl) ?_
            refine wpE_seq (x := c_towpathlaw08_ChainOrders_64) (y := c_towpathlaw08_ChainOrders_66) (by kernel_rfl) ?_
            refine wpE_region (id := 15) (ops := r_towpathlaw08_ChainOrders_64) (by kernel_rfl) ?_
            refine reg_run [.plain] 1 [(1, [], Value.int .u8 turn), (5, [], Value.slice own.ptr own.len own.cap), (6, [], Value.slice x.ptr x.len x.cap), (11, [], Value.slice none 0 0), (12, [], Value.int .i64 0)] (by kernel_rfl) (by kernel_rfl) ?_
            refine reg_end [(1, Value.int .u8 turn), (5, Value.slice own.ptr own.len own.cap), (6, Value.slice x.ptr x.len x.cap), (11, Value.slice none 0 0), (12, Value.int .i64 0)] (by kernel_rfl) (by kernel_rfl) ?_
            change WpE _ _ c_towpathlaw08_ChainOrders_66 _ _ _
            refine wpE_block (id := 2) (x := c_towpathlaw08_ChainOrders_67) (by kernel_rfl) ?_
            obtain ⟨I, μ, h0, hr⟩ := h
            refine wpE_loop (x := c_towpathlaw08_ChainOrders_68) (by kernel_rfl) (fun m l w => ∃ (z : Slc) (i1 : Int), l = [(1, Value.int .u8 turn), (5, Value.slice own.ptr own.len own.cap), (6, Value.slice x.ptr x.len x.cap), (11, Value.slice z.ptr z.len z.cap), (12, Value.int .i64 i1)] ∧ I z i1 w ∧ μ z i1 w = m) (l' := [(1, Value.int .u8 turn), (5, Value.slice own.ptr own.len own.cap), (6, Value.slice x.ptr x.len x.cap), (11, Value.slice none 0 0), (12, Value.int .i64 0)]) (Sub.mk (by kernel_rfl)) ⟨(Slc.mk none 0 0), 0, rfl, h0, rfl⟩ ?_
            rintro _ _ w9 ⟨z, i1, rfl, hI, rfl⟩
            obtain ⟨again_1, again_1_h, h⟩ : ∃ again_1 : Slc → Int → World → Prop, (∀ z' i1' w', again_1 z' i1' w' → I z' i1' w' ∧ μ z' i1' w' < μ z i1 w9) ∧ F_towpathlaw08_ChainOrders_L3 turn R own x again_1 z i1 w9 := ⟨_, fun _ _ _ h => h, hr z i1 w9 hI⟩
            clear h0 hI
            unfold F_towpathlaw08_ChainOrders_L3 at h
            refine wpE_seq (x := c_towpathlaw08_ChainOrders_69) (y := c_towpathlaw08_ChainOrders_75) (by kernel_rfl) ?_
            refine wpE_seq (x := c_towpathlaw08_ChainOrders_70) (y := c_towpathlaw08_ChainOrders_72) (by kernel_rfl) ?_
            refine wpE_region (id := 16) (ops := r_towpathlaw08_ChainOrders_70) (by kernel_rfl) ?_
            refine reg_run [.plain, .plain, .plain, .plain] 4 [(1, [], Value.int .u8 turn), (5, [], Value.slice own.ptr own.len own.cap), (6, [], Value.slice x.ptr x.len x.cap), (11, [], Value.slice z.ptr z.len z.cap), (12, [], Value.int .i64 i1), (76, [], Value.bool (decide (i1 < ((own.len : Nat) : Int))))] (by kernel_rfl) (by kernel_rfl) ?_
            refine reg_end [(1, Value.int .u8 turn), (5, Value.slice own.ptr own.len own.cap), (6, Value.slice x.ptr x.len x.cap), (11, Value.slice z.ptr z.len z.cap), (12, Value.int .i64 i1), (76, Value.bool (decide (i1 < ((own.len : Nat) : Int))))] (by kernel_rfl) (by kernel_rfl) ?_
            change WpE _ _ c_towpathlaw08_ChainOrders_72 _ _ _
            refine wpE_cond (o := (Operand.tmp 76)) (b := (decide (i1 < ((own.len : Nat) : Int)))) (x := c_towpathlaw08_ChainOrders_73) (y := c_towpathlaw08_ChainOrders_74) (by kernel_rfl) (by kernel_rfl) (fun hb => ?_) (fun hb => ?_)
            · replace h := h.1 hb
              refine wpE_skip (by kernel_rfl) ?_
              change WpE _ _ c_towpathlaw08_ChainOrders_75 _ _ _
              refine wpE_seq (x := c_towpathlaw08_ChainOrders_76) (y := c_towpathlaw08_ChainOrders_92) (by kernel_rfl) ?_
              refine wpE_block (id := 3) (x := c_towpathlaw08_ChainOrders_77) (by kernel_rfl) ?_
              refine wpE_seq (x := c_towpathlaw08_ChainOrders_78) (y := c_towpathlaw08_ChainOrders_80) (by kernel_rfl) ?_
              refine wpE_region (id := 18) (ops := r_towpathlaw08_ChainOrders_78) (by kernel_rfl) ?_
              refine reg_run [.plain, .plain, .plain, .plain, .plain, .plain, .plain, .plain, .plain, .plain, .plain, .plain] 12 [(1, [], Value.int .u8 turn), (5, [], Value.slice own.ptr own.len own.cap), (6, [], Value.slice x.ptr x.len x.cap), (12, [], Value.int .i64 i1), (80, [], Value.slice z.ptr z.len z.cap), (81, [], Value.slice own.ptr own.len own.cap), (89, [], Value.int .i64 (IntKind.i64.wrap ((IntKind.i64.wrap ((IntKind.i64.wrap (((own.len : Nat) : Int) - 1)) - i1)) + (IntKind.i64.wrap turn)))), (91, [], Value.int .i64 ((own.len : Nat) : Int))] (by kernel_rfl) (by kernel_rfl) ?_
              obtain ⟨h0, h⟩ := h
              refine reg_val (op := (Go.Op.binOp Go.BinOp.rem 3 (Go.Operand.tmp 89) (Go.Operand.tmp 91) 3)) (ty := 3) (dst := some 92) (Value.int .i64 (Int.tmod (IntKind.i64.wrap ((IntKind.i64.wrap ((IntKind.i64.wrap (((own.len : Nat) : Int) - 1)) - i1)) + (IntKind.i64.wrap turn))) ((own.len : Nat) : Int))) (by kernel_rfl) (fun ww => run_rem (by kernel_rfl) (by kernel_rfl) h0 ww) ?_
              refine reg_run [] 13 [(1, [], Value.int .u8 turn), (5, [], Value.slice own.ptr own.len own.cap), (6, [], Value.slice x.ptr x.len x.cap), (12, [], Value.int .i64 i1), (80, [], Value.slice z.ptr z.len z.cap), (81, [], Value.slice own.ptr own.len own.cap), (92, [], Value.int .i64 (Int.tmod (IntKind.i64.wrap ((IntKind.i64.wrap ((IntKind.i64.wrap (((own.len : Nat) : Int) - 1)) - i1)) + (IntKind.i64.wrap turn))) ((own.len : Nat) : Int)))] (by kernel_rfl) (by kernel_rfl) ?_
              obtain ⟨hp_19, h⟩ := h
              refine reg_conv [(1, [], Value.int .u8 turn), (5, [], Value.slice own.ptr own.len own.cap), (6, [], Value.slice x.ptr x.len x.cap), (12, [], Value.int .i64 i1), (80, [], Value.slice z.ptr z.len z.cap), (81, [], Value.slice (some ⟨(pblk own.ptr), (poff own.ptr), none⟩) own.len own.cap), (92, [], Value.int .i64 (Int.tmod (IntKind.i64.wrap ((IntKind.i64.wrap ((IntKind.i64.wrap (((own.len : Nat) : Int) - 1)) - i1)) + (IntKind.i64.wrap turn))) ((own.len : Nat) : Int)))] (congrArg (fun pp => ([(1, [], Value.int .u8 turn), (5, [], Value.slice own.ptr own.len own.cap), (6, [], Value.slice x.ptr x.len x.cap), (12, [], Value.int .i64 i1), (80, [], Value.slice z.ptr z.len z.cap), (81, [], Value.slice pp own.len own.cap), (92, [], Value.int .i64 (Int.tmod (IntKind.i64.wrap ((IntKind.i64.wrap ((IntKind.i64.wrap (((own.len : Nat) : Int) - 1)) - i1)) + (IntKind.i64.wrap turn))) ((own.len : Nat) : Int)))] : GEnv)) hp_19) ?_
              obtain ⟨h0, h1, h⟩ := h
              refine reg_indexS (t := 22) (e := 30) (x := (Go.Operand.tmp 81)) (ix := (Go.Operand.tmp 92)) (b := (pblk own.ptr)) (o := (poff own.ptr)) (l := own.len) (c := own.cap) (k := .i64) (j := (Int.tmod (IntKind.i64.wrap ((IntKind.i64.wrap ((IntKind.i64.wrap (((own.len : Nat) : Int) - 1)) - i1)) + (IntKind.i64.wrap turn))) ((own.len : Nat) : Int))) (ty := 0) (dst := some 93) (sz := 3) (by kernel_rfl) (by kernel_rfl) (by kernel_rfl) (by kernel_rfl) (by kernel_rfl) h0 h1 ?_
              refine reg_run [] 14 [(1, [], Value.int .u8 turn), (5, [], Value.slice own.ptr own.len own.cap), (6, [], Value.slice x.ptr x.len x.cap), (12, [], Value.int .i64 i1), (80, [], Value.slice z.ptr z.len z.cap), (93, [], Value.pointer (some ⟨(pblk own.ptr), (poff own.ptr) + (Int.tmod (IntKind.i64.wrap ((IntKind.i64.wrap ((IntKind.i64.wrap (((own.len : Nat) : Int) - 1)) - i1)) + (IntKind.i64.wrap turn))) ((own.len : Nat) : Int)).toNat * 3, none⟩))] (by kernel_rfl) (by kernel_rfl) ?_
              obtain ⟨v94, hc, h⟩ := h
              refine reg_loadN (t := 30) (a := (Go.Operand.tmp 93)) (b := (pblk own.ptr)) (o := ((poff own.ptr) + (Int.tmod (IntKind.i64.wrap ((IntKind.i64.wrap ((IntKind.i64.wrap (((own.len : Nat) : Int) - 1)) - i1)) + (IntKind.i64.wrap turn))) ((own.len : Nat) : Int)).toNat * 3)) (ty := 30) (dst := some 94) [Value.int .i64 v94.Number, Value.string v94.Val, Value.bool v94.Drop] (by kernel_rfl) (by kernel_rfl) (by kernel_rfl) (k := 3) (by kernel_rfl) (by kernel_rfl) hc ?_
              refine reg_run [] 15 [(1, [], Value.int .u8 turn), (5, [], Value.slice own.ptr own.len own.cap), (6, [], Value.slice x.ptr x.len x.cap), (12, [], Value.int .i64 i1), (80, [], Value.slice z.ptr z.len z.cap), (94, [], Value.agg #[Value.int .i64 v94.Number, Value.string v94.Val, Value.bool v94.Drop])] (by kernel_rfl) (by kernel_rfl) ?_
              refine reg_enter (op := (Go.Op.call (Go.Call.mk (Go.Callee.value (Go.Operand.func 10)) #[(Go.Operand.tmp 80), (Go.Operand.tmp 94)] #[22, 30]))) (ty := 27) (dst := some 95) 10 #[Value.slice z.ptr z.len z.cap, Value.agg #[Value.int .i64 v94.Number, Value.string v94.Val, Value.bool v94.Drop]] (by kernel_rfl) (fun ww => by kernel_rfl) (Calls.mono h ?_)
              rintro _ w10 ⟨y1, ok1, e1, rfl, h⟩
              refine ⟨_, rfl, ?_⟩
              refine reg_run [.plain, .plain, .plain, .plain, .plain, .plain, .plain] 23 [(1, [], Value.int .u8 turn), (5, [], Value.slice own.ptr own.len own.cap), (6, [], Value.slice x.ptr x.len x.cap), (12, [], Value.int .i64 i1), (13, [], Value.slice y1.ptr y1.len y1.cap), (14, [], Value.bool ok1), (15, [], Value.int .i64 e1)] (by kernel_rfl) (by kernel_rfl) ?_
              refine reg_end [(1, Value.int .u8 turn), (5, Value.slice own.ptr own.len own.cap), (6, Value.slice x.ptr x.len x.cap), (12, Value.int .i64 i1), (13, Value.slice y1.ptr y1.len y1.cap), (14, Value.bool ok1), (15, Value.int .i64 e1)] (by kernel_rfl) (by kernel_rfl) ?_
              change WpE _ _ c_towpathlaw08_ChainOrders_80 _ _ _
              refine wpE_seq (x := c_towpathlaw08_ChainOrders_81) (y := c_towpathlaw08_ChainOrders_90) (by kernel_rfl) ?_
              refine wpE_seq (x := c_towpathlaw08_ChainOrders_82) (y := c_towpathlaw08_ChainOrders_84) (by kernel_rfl) ?_
              refine wpE_region (id := 19) (ops := r_towpathlaw08_ChainOrders_82) (by kernel_rfl) ?_
              refine reg_run [.plain, .plain, .plain, .plain, .plain, .pick] 6 [(1, [], Value.int .u8 turn), (5, [], Value.slice own.ptr own.len own.cap), (6, [], Value.slice x.ptr x.len x.cap), (12, [], Value.int .i64 i1), (13, [], Value.slice y1.ptr y1.len y1.cap), (104, [], Value.bool ((e1 != 0) || (!ok1)))] (by kernel_rfl) (by kernel_rfl) ?_
              refine reg_end [(1, Value.int .u8 turn), (5, Value.slice own.ptr own.len own.cap), (6, Value.slice x.ptr x.len x.cap), (12, Value.int .i64 i1), (13, Value.slice y1.ptr y1.len y1.cap), (104, Value.bool ((e1 != 0) || (!ok1)))] (by kernel_rfl) (by kernel_rfl) ?_
              change WpE _ _ c_towpathlaw08_ChainOrders_84 _ _ _
              refine wpE_cond (o := (Operand.tmp 104)) (b := ((e1 != 0) || (!ok1))) (x := c_towpathlaw08_ChainOrders_85) (y := c_towpathlaw08_ChainOrders_89) (by kernel_rfl) (by kernel_rfl) (fun hb => ?_) (fun hb => ?_)
              · replace h := h.1 hb
                refine wpE_seq (x := c_towpathlaw08_ChainOrders_86) (y := c_towpathlaw08_ChainOrders_88) (by kernel_rfl) ?_
                refine wpE_region (id := 20) (ops := r_towpathlaw08_ChainOrders_86) (by kernel_rfl) ?_
                refine reg_run [.plain] 1 [(4, [], Value.bool false)] (by kernel_rfl) (by kernel_rfl) ?_
                refine reg_end [(4, Value.bool false)] (by kernel_rfl) (by kernel_rfl) ?_
                change WpE _ _ c_towpathlaw08_ChainOrders_88 _ _ _
                refine wpE_ret (by kernel_rfl) ?_
                repeat (first | refine seqQ_ret ?_ | refine blockQ_ret ?_ | refine loopQ_ret ?_ | refine cutQ_ret ?_)
                exact retS (rs := [(Go.ResultVar.tmp 4)]) (v := Value.bool false) (by kernel_rfl) (⟨by kernel_rfl, trivial⟩) ⟨false, rfl, h⟩
              · replace h := h.2 hb
                refine wpE_skip (by kernel_rfl) ?_
                change WpE _ _ c_towpathlaw08_ChainOrders_90 _ _ _
                refine wpE_region (id := 21) (ops := r_towpathlaw08_ChainOrders_90) (by kernel_rfl) ?_
                refine reg_run [.plain, .plain] 2 [(1, [], Value.int .u8 turn), (5, [], Value.slice own.ptr own.len own.cap), (6, [], Value.slice x.ptr x.len x.cap), (11, [], Value.slice y1.ptr y1.len y1.cap), (12, [], Value.int .i64 i1)] (by kernel_rfl) (by kernel_rfl) ?_
                refine reg_end [(1, Value.int .u8 turn), (5, Value.slice own.ptr own.len own.cap), (6, Value.slice x.ptr x.len x.cap), (11, Value.slice y1.ptr y1.len y1.cap), (12, Value.int .i64 i1)] (by kernel_rfl) (by kernel_rfl) ?_
                change WpE _ _ c_towpathlaw08_ChainOrders_92 _ _ _
                refine wpE_region (id := 17) (ops := r_towpathlaw08_ChainOrders_92) (by kernel_rfl) ?_
                refine reg_run [.plain, .plain, .plain] 3 [(1, [], Value.int .u8 turn), (5, [], Value.slice own.ptr own.len own.cap), (6, [], Value.slice x.ptr x.len x.cap), (11, [], Value.slice y1.ptr y1.len y1.cap), (12, [], Value.int .i64 (IntKind.i64.wrap (i1 + 1)))] (by kernel_rfl) (by kernel_rfl) ?_
                refine reg_end [(1, Value.int .u8 turn), (5, Value.slice own.ptr own.len own.cap), (6, Value.slice x.ptr x.len x.cap), (11, Value.slice y1.ptr y1.len y1.cap), (12, Value.int .i64 (IntKind.i64.wrap (i1 + 1)))] (by kernel_rfl) (by kernel_rfl) ?_
                have hb_ := again_1_h _ _ _ h
                exact ⟨_, hb_.2, [(1, Value.int .u8 turn), (5, Value.slice own.ptr own.len own.cap), (6, Value.slice x.ptr x.len x.cap), (11, Value.slice y1.ptr y1.len y1.cap), (12, Value.int .i64 (IntKind.i64.wrap (i1 + 1)))], Sub.mk (by kernel_rfl), y1, (IntKind.i64.wrap (i1 + 1)), rfl, hb_.1, rfl⟩
            · replace h := h.2 hb
              refine wpE_exit (id := 2) (by kernel_rfl) ?_
              change WpE _ _ c_towpathlaw08_ChainOrders_94 _ _ _
              refine wpE_seq (x := c_towpathlaw08_ChainOrders_95) (y := c_towpathlaw08_ChainOrders_104) (by kernel_rfl) ?_
              refine wpE_seq (x := c_towpathlaw08_ChainOrders_96) (y := c_towpathlaw08_ChainOrders_98) (by kernel_rfl) ?_
              refine wpE_region (id := 22) (ops := r_towpathlaw08_ChainOrders_96) (by kernel_rfl) ?_
              refine reg_run [.plain, .plain] 2 [(5, [], Value.slice own.ptr own.len own.cap), (6, [], Value.slice x.ptr x.len x.cap), (106, [], Value.slice x.ptr x.len x.cap), (107, [], Value.slice z.ptr z.len z.cap)] (by kernel_rfl) (by kernel_rfl) ?_
              refine reg_enter (op := (Go.Op.call (Go.Call.mk (Go.Callee.value (Go.Operand.func 12)) #[(Go.Operand.tmp 106), (Go.Operand.tmp 107)] #[22, 22]))) (ty := 4) (dst := some 108) 12 #[Value.slice x.ptr x.len x.cap, Value.slice z.ptr z.len z.cap] (by kernel_rfl) (fun ww => by kernel_rfl) (Calls.mono h ?_)
              rintro _ w11 ⟨v108, rfl, h⟩
              refine ⟨_, rfl, ?_⟩
              refine reg_run [.plain] 4 [(5, [], Value.slice own.ptr own.len own.cap), (6, [], Value.slice x.ptr x.len x.cap), (109, [], Value.bool (!v108))] (by kernel_rfl) (by kernel_rfl) ?_
              refine reg_end [(5, Value.slice own.ptr own.len own.cap), (6, Value.slice x.ptr x.len x.cap), (109, Value.bool (!v108))] (by kernel_rfl) (by kernel_rfl) ?_
              change WpE _ _ c_towpathlaw08_ChainOrders_98 _ _ _
              refine wpE_cond (o := (Operand.tmp 109)) (b := (!v108)) (x := c_towpathlaw08_ChainOrders_99) (y := c_towpathlaw08_ChainOrders_103) (by kernel_rfl) (by kernel_rfl) (fun hb => ?_) (fun hb => ?_)
              · replace h := h.1 hb
                refine wpE_seq (x := c_towpathlaw08_ChainOrders_100) (y := c_towpathlaw08_ChainOrders_102) (by kernel_rfl) ?_
                refine wpE_region (id := 23) (ops := r_towpathlaw08_ChainOrders_100) (by kernel_rfl) ?_
                refine reg_run [.plain] 1 [(4, [], Value.bool false)] (by kernel_rfl) (by kernel_rfl) ?_
                refine reg_end [(4, Value.bool false)] (by kernel_rfl) (by kernel_rfl) ?_
                change WpE _ _ c_towpathlaw08_ChainOrders_102 _ _ _
                refine wpE_ret (by kernel_rfl) ?_
                repeat (first | refine seqQ_ret ?_ | refine blockQ_ret ?_ | refine loopQ_ret ?_ | refine cutQ_ret ?_)
                exact retS (rs := [(Go.ResultVar.tmp 4)]) (v := Value.bool false) (by kernel_rfl) (⟨by kernel_rfl, trivial⟩) ⟨false, rfl, h⟩
              · replace h := h.2 hb
                refine wpE_skip (by kernel_rfl) ?_
                change WpE _ _ c_towpathlaw08_ChainOrders_104 _ _ _
                refine wpE_seq (x := c_towpathlaw08_ChainOrders_105) (y := c_towpathlaw08_ChainOrders_133) (by kernel_rfl) ?_
                refine wpE_seq (x := c_towpathlaw08_ChainOrders_106) (y := c_towpathlaw08_ChainOrders_108) (by kernel_rfl) ?_
                refine wpE_region (id := 24) (ops := r_towpathlaw08_ChainOrders_106) (by kernel_rfl) ?_
                refine reg_run [.plain] 1 [(5, [], Value.slice own.ptr own.len own.cap), (6, [], Value.slice x.ptr x.len x.cap), (16, [], Value.int .i64 0)] (by kernel_rfl) (by kernel_rfl) ?_
                refine reg_end [(5, Value.slice own.ptr own.len own.cap), (6, Value.slice x.ptr x.len x.cap), (16, Value.int .i64 0)] (by kernel_rfl) (by kernel_rfl) ?_
                change WpE _ _ c_towpathlaw08_ChainOrders_108 _ _ _
                refine wpE_block (id := 4) (x := c_towpathlaw08_ChainOrders_109) (by kernel_rfl) ?_
                obtain ⟨I, μ, h0, hr⟩ := h
                refine wpE_loop (x := c_towpathlaw08_ChainOrders_110) (by kernel_rfl) (fun m l w => ∃ (i2 : Int), l = [(5, Value.slice own.ptr own.len own.cap), (6, Value.slice x.ptr x.len x.cap), (16, Value.int .i64 i2)] ∧ I i2 w ∧ μ i2 w = m) (l' := [(5, Value.slice own.ptr own.len own.cap), (6, Value.slice x.ptr x.len x.cap), (16, Value.int .i64 0)]) (Sub.mk (by kernel_rfl)) ⟨0, rfl, h0, rfl⟩ ?_
                rintro _ _ w12 ⟨i2, rfl, hI, rfl⟩
                obtain ⟨again_2, again_2_h, h⟩ : ∃ again_2 : Int → World → Prop, (∀ i2' w', again_2 i2' w' → I i2' w' ∧ μ i2' w' < μ i2 w12) ∧ F_towpathlaw08_ChainOrders_L4 R own x again_2 i2 w12 := ⟨_, fun _ _ h => h, hr i2 w12 hI⟩
                clear h0 hI
                unfold F_towpathlaw08_ChainOrders_L4 at h
                refine wpE_seq (x := c_towpathlaw08_ChainOrders_111) (y := c_towpathlaw08_ChainOrders_117) (by kernel_rfl) ?_
                refine wpE_seq (x := c_towpathlaw08_ChainOrders_112) (y := c_towpathlaw08_ChainOrders_114) (by kernel_rfl) ?_
                refine wpE_region (id := 25) (ops := r_towpathlaw08_ChainOrders_112) (by kernel_rfl) ?_
                refine reg_run [.plain, .plain, .plain, .plain] 4 [(5, [], Value.slice own.ptr own.len own.cap), (6, [], Value.slice x.ptr x.len x.cap), (16, [], Value.int .i64 i2), (113, [], Value.bool (decide (i2 < ((own.len : Nat) : Int))))] (by kernel_rfl) (by kernel_rfl) ?_
                refine reg_end [(5, Value.slice own.ptr own.len own.cap), (6, Value.slice x.ptr x.len x.cap), (16, Value.int .i64 i2), (113, Value.bool (decide (i2 < ((own.len : Nat) : Int))))] (by kernel_rfl) (by kernel_rfl) ?_
                change WpE _ _ c_towpathlaw08_ChainOrders_114 _ _ _
                refine wpE_cond (o := (Operand.tmp 113)) (b := (decide (i2 < ((own.len : Nat) : Int)))) (x := c_towpathlaw08_ChainOrders_115) (y := c_towpathlaw08_ChainOrders_116) (by kernel_rfl) (by kernel_rfl) (fun hb => ?_) (fun hb => ?_)
                · replace h := h.1 hb
                  refine wpE_skip (by kernel_rfl) ?_
                  change WpE _ _ c_towpathlaw08_ChainOrders_117 _ _ _
                  refine wpE_seq (x := c_towpathlaw08_ChainOrders_118) (y := c_towpathlaw08_ChainOrders_131) (by kernel_rfl) ?_
                  refine wpE_block (id := 5) (x := c_towpathlaw08_ChainOrders_119) (by kernel_rfl) ?_
                  refine wpE_seq (x := c_towpathlaw08_ChainOrders_120) (y := c_towpathlaw08_ChainOrders_122) (by kernel_rfl) ?_
                  refine wpE_region (id := 27) (ops := r_towpathlaw08_ChainOrders_120) (by kernel_rfl) ?_
                  refine reg_run [.plain, .plain, .plain] 3 [(5, [], Value.slice own.ptr own.len own.cap), (6, [], Value.slice x.ptr x.len x.cap), (16, [], Value.int .i64 i2), (117, [], Value.slice x.ptr x.len x.cap), (118, [], Value.slice own.ptr own.len own.cap), (119, [], Value.int .i64 i2)] (by kernel_rfl) (by kernel_rfl) ?_
                  obtain ⟨hp_33, h⟩ := h
                  refine reg_conv [(5, [], Value.slice own.ptr own.len own.cap), (6, [], Value.slice x.ptr x.len x.cap), (16, [], Value.int .i64 i2), (117, [], Value.slice x.ptr x.len x.cap), (118, [], Value.slice (some ⟨(pblk own.ptr), (poff own.ptr), none⟩) own.len own.cap), (119, [], Value.int .i64 i2)] (congrArg (fun pp => ([(5, [], Value.slice own.ptr own.len own.cap), (6, [], Value.slice x.ptr x.len x.cap), (16, [], Value.int .i64 i2), (117, [], Value.slice x.ptr x.len x.cap), (118, [], Value.slice pp own.len own.cap), (119, [], Value.int .i64 i2)] : GEnv)) hp_33) ?_
                  obtain ⟨h0, h1, h⟩ := h
                  refine reg_indexS (t := 22) (e := 30) (x := (Go.Operand.tmp 118)) (ix := (Go.Operand.tmp 119)) (b := (pblk own.ptr)) (o := (poff own.ptr)) (l := own.len) (c := own.cap) (k := .i64) (j := i2) (ty := 0) (dst := some 120) (sz := 3) (by kernel_rfl) (by kernel_rfl) (by kernel_rfl) (by kernel_rfl) (by kernel_rfl) h0 h1 ?_
                  refine reg_run [.plain] 5 [(5, [], Value.slice own.ptr own.len own.cap), (6, [], Value.slice x.ptr x.len x.cap), (16, [], Value.int .i64 i2), (117, [], Value.slice x.ptr x.len x.cap), (121, [], Value.pointer (some ⟨(pblk own.ptr), (poff own.ptr) + i2.toNat * 3, none⟩))] (by kernel_rfl) (by kernel_rfl) ?_
                  obtain ⟨v122, hc, h⟩ := h
                  refine reg_load1 (t := 3) (a := (Go.Operand.tmp 121)) (b := (pblk own.ptr)) (o := ((poff own.ptr) + i2.toNat * 3)) (ty := 3) (dst := some 122) (by kernel_rfl) (by kernel_rfl) (by kernel_rfl) hc ?_
                  refine reg_run [] 6 [(5, [], Value.slice own.ptr own.len own.cap), (6, [], Value.slice x.ptr x.len x.cap), (16, [], Value.int .i64 i2), (117, [], Value.slice x.ptr x.len x.cap), (122, [], Value.int .i64 v122)] (by kernel_rfl) (by kernel_rfl) ?_
                  refine reg_enter (op := (Go.Op.call (Go.Call.mk (Go.Callee.value (Go.Operand.func 13)) #[(Go.Operand.tmp 117), (Go.Operand.tmp 122)] #[22, 3]))) (ty := 33) (dst := some 123) 13 #[Value.slice x.ptr x.len x.cap, Value.int .i64 v122] (by kernel_rfl) (fun ww => by kernel_rfl) (Calls.mono h ?_)
                  rintro _ w13 ⟨v123, ok2, e2, rfl, h⟩
                  refine ⟨_, rfl, ?_⟩
                  refine reg_run [.plain, .plain, .plain, .plain] 11 [(5, [], Value.slice own.ptr own.len own.cap), (6, [], Value.slice x.ptr x.len x.cap), (16, [], Value.int .i64 i2), (124, [], Value.agg #[Value.int .i64 v123.Number, Value.string v123.Val, Value.bool v123.Drop]), (125, [], Value.bool ok2), (126, [], Value.int .i64 e2)] (by kernel_rfl) (by kernel_rfl) ?_
                  refine reg_new (op := (Go.Op.alloc 30)) (ty := 0) (dst := some 17) (fun bb => Value.pointer (some ⟨bb, 0, none⟩)) (Obj.cells ([Value.int .i64 0, Value.string ByteArray.empty, Value.bool false]).toArray ty_api_Version (0, 0)) (by kernel_rfl) (by kernel_rfl) (fun b_1 w14 hb hw => ?_)
                  replace h := h b_1 w14 hb hw
                  clear hb hw
                  refine reg_run [] 12 [(5, [], Value.slice own.ptr own.len own.cap), (6, [], Value.slice x.ptr x.len x.cap), (16, [], Value.int .i64 i2), (17, [], Value.pointer (some ⟨b_1, 0, none⟩)), (124, [], Value.agg #[Value.int .i64 v123.Number, Value.string v123.Val, Value.bool v123.Drop]), (125, [], Value.bool ok2), (126, [], Value.int .i64 e2)] (by kernel_rfl) (by kernel_rfl) ?_
                  obtain ⟨hc, h⟩ := h
                  refine reg_store (t := 30) (a := (Go.Operand.tmp 17)) (x := (Go.Operand.tmp 124)) (b := b_1) (o := 0) (ty := 0) (dst := none) [Value.int .i64 v123.Number, Value.string v123.Val, Value.bool v123.Drop] (by kernel_rfl) (by kernel_rfl) (by kernel_rfl) (k := 3) (by kernel_rfl) (by kernel_rfl) (by kernel_rfl) hc (fun w15 hw => ?_)
                  replace h := h w15 hw
                  clear hw
                  refine reg_run [.plain, .plain] 15 [(5, [], Value.slice own.ptr own.len own.cap), (6, [], Value.slice x.ptr x.len x.cap), (16, [], Value.int .i64 i2), (17, [], Value.pointer (some ⟨b_1, 0, none⟩)), (18, [], Value.bool ok2), (19, [], Value.int .i64 e2)] (by kernel_rfl) (by kernel_rfl) ?_
                  refine reg_end [(5, Value.slice own.ptr own.len own.cap), (6, Value.slice x.ptr x.len x.cap), (16, Value.int .i64 i2), (17, Value.pointer (some ⟨b_1, 0, none⟩)), (18, Value.bool ok2), (19, Value.int .i64 e2)] (by kernel_rfl) (by kernel_rfl) ?_
                  change WpE _ _ c_towpathlaw08_ChainOrders_122 _ _ _
                  refine wpE_seq_cut (x := c_towpathlaw08_ChainOrders_123) (y := c_towpathlaw08_ChainOrders_125) (by kernel_rfl) (fun l w => ∃ (t140 : Bool), l = [(5, Value.slice own.ptr own.len own.cap), (6, Value.slice x.ptr x.len x.cap), (16, Value.int .i64 i2), (140, Value.bool t140)] ∧ F_towpathlaw08_ChainOrders_k5 R i2 again_2 t140 w) ?_ ?_
                  · refine wpE_drawregion (id := 28) (ops := r_towpathlaw08_ChainOrders_123) (by kernel_rfl) (by kernel_rfl) (by kernel_rfl) ?_
                    refine qreg_run [.plain, .plain, .plain, .plain, .plain, .pick, .plain] 7 [(5, [], Value.slice own.ptr own.len own.cap), (6, [], Value.slice x.ptr x.len x.cap), (16, [], Value.int .i64 i2), (17, [], Value.pointer (some ⟨b_1, 0, none⟩)), (133, [], Value.bool ((e2 != 0) || (!ok2)))] (by kernel_rfl) (by kernel_rfl) ?_
                    refine qreg_split 133 ((e2 != 0) || (!ok2)) (by kernel_rfl) (fun hb => ?_) (fun hb => ?_)
                    · replace h := h.1 hb
                      refine qreg_run [] 7 [(5, [], Value.slice own.ptr own.len own.cap), (6, [], Value.slice x.ptr x.len x.cap), (16, [], Value.int .i64 i2), (17, [], Value.pointer (some ⟨b_1, 0, none⟩)), (133, [], Value.bool true)] (by kernel_rfl) (by kernel_rfl) ?_
                      refine qreg_run [.skip, .skip, .skip, .skip, .skip, .skip, .plain] 14 [(5, [], Value.slice own.ptr own.len own.cap), (6, [], Value.slice x.ptr x.len x.cap), (16, [], Value.int .i64 i2), (140, [], Value.bool true)] (by kernel_rfl) (by kernel_rfl) ?_
                      refine qreg_end [(5, Value.slice own.ptr own.len own.cap), (6, Value.slice x.ptr x.len x.cap), (16, Value.int .i64 i2), (140, Value.bool true)] (by kernel_rfl) (by kernel_rfl) (fun w17 hw => ?_)
                      replace h := h w17 hw
                      clear hw
                      exact ⟨[(5, Value.slice own.ptr own.len own.cap), (6, Value.slice x.ptr x.len x.cap), (16, Value.int .i64 i2), (140, Value.bool true)], Sub.mk (by kernel_rfl), true, rfl, h⟩
                    · replace h := h.2 hb
                      refine qreg_run [] 7 [(5, [], Value.slice own.ptr own.len own.cap), (6, [], Value.slice x.ptr x.len x.cap), (16, [], Value.int .i64 i2), (17, [], Value.pointer (some ⟨b_1, 0, none⟩)), (133, [], Value.bool false)] (by kernel_rfl) (by kernel_rfl) ?_
                      refine qreg_run [] 7 [(5, [], Value.slice own.ptr own.len own.cap), (6, [], Value.slice x.ptr x.len x.cap), (16, [], Value.int .i64 i2), (17, [], Value.pointer (some ⟨b_1, 0, none⟩)), (133, [], Value.bool false)] (by kernel_rfl) (by kernel_rfl) ?_
                      obtain ⟨v134, hc, h⟩ := h
                      refine qreg_loadN (t := 30) (a := (Go.Operand.tmp 17)) (b := b_1) (o := 0) (ty := 30) (dst := some 134) [Value.int .i64 v134.Number, Value.string v134.Val, Value.bool v134.Drop] (by kernel_rfl) (by kernel_rfl) (by kernel_rfl) (k := 3) (by kernel_rfl) (by kernel_rfl) hc ?_
                      refine qreg_run [.sure, .sure] 10 [(5, [], Value.slice own.ptr own.len own.cap), (6, [], Value.slice x.ptr x.len x.cap), (16, [], Value.int .i64 i2), (133, [], Value.bool false), (134, [], Value.agg #[Value.int .i64 v134.Number, Value.string v134.Val, Value.bool v134.Drop]), (135, [], Value.slice own.ptr own.len own.cap), (136, [], Value.int .i64 i2)] (by kernel_rfl) (by kernel_rfl) ?_
                      obtain ⟨hp_35, h⟩ := h
                      refine qreg_conv [(5, [], Value.slice own.ptr own.len own.cap), (6, [], Value.slice x.ptr x.len x.cap), (16, [], Value.int .i64 i2), (133, [], Value.bool false), (134, [], Value.agg #[Value.int .i64 v134.Number, Value.string v134.Val, Value.bool v134.Drop]), (135, [], Value.slice (some ⟨(pblk own.ptr), (poff own.ptr), none⟩) own.len own.cap), (136, [], Value.int .i64 i2)] (congrArg (fun pp => ([(5, [], Value.slice own.ptr own.len own.cap), (6, [], Value.slice x.ptr x.len x.cap), (16, [], Value.int .i64 i2), (133, [], Value.bool false), (134, [], Value.agg #[Value.int .i64 v134.Number, Value.string v134.Val, Value.bool v134.Drop]), (135, [], Value.slice pp own.len own.cap), (136, [], Value.int .i64 i2)] : GEnv)) hp_35) ?_
                      obtain ⟨h0, h1, h⟩ := h
                      refine qreg_indexS (t := 22) (e := 30) (x := (Go.Operand.tmp 135)) (ix := (Go.Operand.tmp 136)) (b := (pblk own.ptr)) (o := (poff own.ptr)) (l := own.len) (c := own.cap) (k := .i64) (j := i2) (ty := 0) (dst := some 137) (sz := 3) (by kernel_rfl) (by kernel_rfl) (by kernel_rfl) (by kernel_rfl) (by kernel_rfl) h0 h1 ?_
                      refine qreg_run [] 11 [(5, [], Value.slice own.ptr own.len own.cap), (6, [], Value.slice x.ptr x.len x.cap), (16, [], Value.int .i64 i2), (133, [], Value.bool false), (134, [], Value.agg #[Value.int .i64 v134.Number, Value.string v134.Val, Value.bool v134.Drop]), (137, [], Value.pointer (some ⟨(pblk own.ptr), (poff own.ptr) + i2.toNat * 3, none⟩))] (by kernel_rfl) (by kernel_rfl) ?_
                      obtain ⟨v138, hc, h⟩ := h
                      refine qreg_loadN (t := 30) (a := (Go.Operand.tmp 137)) (b := (pblk own.ptr)) (o := ((poff own.ptr) + i2.toNat * 3)) (ty := 30) (dst := some 138) [Value.int .i64 v138.Number, Value.string v138.Val, Value.bool v138.Drop] (by kernel_rfl) (by kernel_rfl) (by kernel_rfl) (k := 3) (by kernel_rfl) (by kernel_rfl) hc ?_
                      refine qreg_run [] 12 [(5, [], Value.slice own.ptr own.len own.cap), (6, [], Value.slice x.ptr x.len x.cap), (16, [], Value.int .i64 i2), (133, [], Value.bool false), (134, [], Value.agg #[Value.int .i64 v134.Number, Value.string v134.Val, Value.bool v134.Drop]), (138, [], Value.agg #[Value.int .i64 v138.Number, Value.string v138.Val, Value.bool v138.Drop])] (by kernel_rfl) (by kernel_rfl) ?_
                      refine qreg_val (op := (Go.Op.binOp Go.BinOp.neq 30 (Go.Operand.tmp 134) (Go.Operand.tmp 138) 30)) (ty := 4) (dst := some 139) (Value.bool (!(((v134.Number == v138.Number) && (v134.Val == v138.Val)) && (v134.Drop == v138.Drop)))) (by kernel_rfl) (fun ww => run_struct_neq (xs := [Value.int .i64 v134.Number, Value.string v134.Val, Value.bool v134.Drop]) (ys := [Value.int .i64 v138.Number, Value.string v138.Val, Value.bool v138.Drop]) (by kernel_rfl) (by kernel_rfl) (by kernel_rfl) (by kernel_rfl) (by kernel_rfl) ww) ?_
                      refine qreg_run [.plain] 14 [(5, [], Value.slice own.ptr own.len own.cap), (6, [], Value.slice x.ptr x.len x.cap), (16, [], Value.int .i64 i2), (140, [], Value.bool (!(((v134.Number == v138.Number) && (v134.Val == v138.Val)) && (v134.Drop == v138.Drop))))] (by kernel_rfl) (by kernel_rfl) ?_
                      refine qreg_end [(5, Value.slice own.ptr own.len own.cap), (6, Value.slice x.ptr x.len x.cap), (16, Value.int .i64 i2), (140, Value.bool (!(((v134.Number == v138.Number) && (v134.Val == v138.Val)) && (v134.Drop == v138.Drop))))] (by kernel_rfl) (by kernel_rfl) (fun w18 hw => ?_)
                      replace h := h w18 hw
                      clear hw
                      exact ⟨[(5, Value.slice own.ptr own.len own.cap), (6, Value.slice x.ptr x.len x.cap), (16, Value.int .i64 i2), (140, Value.bool (!(((v134.Number == v138.Number) && (v134.Val == v138.Val)) && (v134.Drop == v138.Drop))))], Sub.mk (by kernel_rfl), (!(((v134.Number == v138.Number) && (v134.Val == v138.Val)) && (v134.Drop == v138.Drop))), rfl, h⟩
                  · rintro _ w16 ⟨t140, rfl, h⟩
                    unfold F_towpathlaw08_ChainOrders_k5 at h
                    refine wpE_cond (o := (Operand.tmp 140)) (b := t140) (x := c_towpathlaw08_ChainOrders_126) (y := c_towpathlaw08_ChainOrders_130) (by kernel_rfl) (by kernel_rfl) (fun hb => ?_) (fun hb => ?_)
                    · replace h := h.1 hb
                      refine wpE_seq (x := c_towpathlaw08_ChainOrders_127) (y := c_towpathlaw08_ChainOrders_129) (by kernel_rfl) ?_
                      refine wpE_region (id := 29) (ops := r_towpathlaw08_ChainOrders_127) (by kernel_rfl) ?_
                      refine reg_run [.plain] 1 [(4, [], Value.bool false)] (by kernel_rfl) (by kernel_rfl) ?_
                      refine reg_end [(4, Value.bool false)] (by kernel_rfl) (by kernel_rfl) ?_
                      change WpE _ _ c_towpathlaw08_ChainOrders_129 _ _ _
                      refine wpE_ret (by kernel_rfl) ?_
                      repeat (first | refine seqQ_ret ?_ | refine blockQ_ret ?_ | refine loopQ_ret ?_ | refine cutQ_ret ?_)
                      exact retS (rs := [(Go.ResultVar.tmp 4)]) (v := Value.bool false) (by kernel_rfl) (⟨by kernel_rfl, trivial⟩) ⟨false, rfl, h⟩
                    · replace h := h.2 hb
                      refine wpE_skip (by kernel_rfl) ?_
                      change WpE _ _ c_towpathlaw08_ChainOrders_131 _ _ _
                      refine wpE_region (id := 26) (ops := r_towpathlaw08_ChainOrders_131) (by kernel_rfl) ?_
                      refine reg_run [.plain, .plain, .plain] 3 [(5, [], Value.slice own.ptr own.len own.cap), (6, [], Value.slice x.ptr x.len x.cap), (16, [], Value.int .i64 (IntKind.i64.wrap (i2 + 1)))] (by kernel_rfl) (by kernel_rfl) ?_
                      refine reg_end [(5, Value.slice own.ptr own.len own.cap), (6, Value.slice x.ptr x.len x.cap), (16, Value.int .i64 (IntKind.i64.wrap (i2 + 1)))] (by kernel_rfl) (by kernel_rfl) ?_
                      have hb_ := again_2_h _ _ h
                      exact ⟨_, hb_.2, [(5, Value.slice own.ptr own.len own.cap), (6, Value.slice x.ptr x.len x.cap), (16, Value.int .i64 (IntKind.i64.wrap (i2 + 1)))], Sub.mk (by kernel_rfl), (IntKind.i64.wrap (i2 + 1)), rfl, hb_.1, rfl⟩
                · replace h := h.2 hb
                  refine wpE_exit (id := 4) (by kernel_rfl) ?_
                  change WpE _ _ c_towpathlaw08_ChainOrders_133 _ _ _
                  refine wpE_seq (x := c_towpathlaw08_ChainOrders_134) (y := c_towpathlaw08_ChainOrders_136) (by kernel_rfl) ?_
                  refine wpE_region (id := 30) (ops := r_towpathlaw08_ChainOrders_134) (by kernel_rfl) ?_
                  refine reg_run [.plain] 1 [(4, [], Value.bool true)] (by kernel_rfl) (by kernel_rfl) ?_
                  refine reg_end [(4, Value.bool true)] (by kernel_rfl) (by kernel_rfl) ?_
                  change WpE _ _ c_towpathlaw08_ChainOrders_136 _ _ _
                  refine wpE_ret (by kernel_rfl) ?_
                  repeat (first | refine seqQ_ret ?_ | refine blockQ_ret ?_ | refine loopQ_ret ?_ | refine cutQ_ret ?_)
                  exact retS (rs := [(Go.ResultVar.tmp 4)]) (v := Value.bool true) (by kernel_rfl) (⟨by kernel_rfl, trivial⟩) ⟨true, rfl, h⟩
  · rintro e w' ⟨v, rfl, r0, rfl, h⟩; exact ⟨r0, rfl, h⟩
end Go.Proofs.Ytcgfmkpddhhmgaa
