/- WRITTEN BY PROGRAM (dec.py): for each Go function the clean formula F, the call's contract C, and the proof S that F gives C. -/
import Derived.Test.YtfmkemmgakdddaaRows
import Derived.Test.YtfmkemmgakdddaaGF
namespace Go.Proofs.Ytfmkemmgakdddaa
open Go
set_option linter.unusedVariables false

/-! ### towpath/record.Decode (function 12) -/
noncomputable def c_record_Decode_0 : Code := (Try.f12.body).getD Code.skip
noncomputable def c_record_Decode_1 : Code := Code.l c_record_Decode_0
noncomputable def r_record_Decode_1 : Array Oper := Code.ops c_record_Decode_1
noncomputable def c_record_Decode_3 : Code := Code.r c_record_Decode_0
noncomputable def c_record_Decode_4 : Code := Code.l c_record_Decode_3
noncomputable def r_record_Decode_4 : Array Oper := Code.ops c_record_Decode_4
noncomputable def c_record_Decode_6 : Code := Code.r c_record_Decode_3
noncomputable def c_record_Decode_7 : Code := Code.l c_record_Decode_6
noncomputable def r_record_Decode_7 : Array Oper := Code.ops c_record_Decode_7
noncomputable def c_record_Decode_9 : Code := Code.r c_record_Decode_6
noncomputable def c_record_Decode_10 : Code := Code.l c_record_Decode_9
noncomputable def r_record_Decode_10 : Array Oper := Code.ops c_record_Decode_10
noncomputable def c_record_Decode_12 : Code := Code.r c_record_Decode_9
noncomputable def c_record_Decode_13 : Code := Code.l c_record_Decode_12
noncomputable def r_record_Decode_13 : Array Oper := Code.ops c_record_Decode_13
noncomputable def c_record_Decode_15 : Code := Code.r c_record_Decode_12
noncomputable def c_record_Decode_16 : Code := Code.l c_record_Decode_15
noncomputable def c_record_Decode_17 : Code := Code.l c_record_Decode_16
noncomputable def r_record_Decode_17 : Array Oper := Code.ops c_record_Decode_17
noncomputable def c_record_Decode_19 : Code := Code.r c_record_Decode_16
noncomputable def c_record_Decode_20 : Code := Code.l c_record_Decode_19
noncomputable def r_record_Decode_20 : Array Oper := Code.ops c_record_Decode_20
noncomputable def c_record_Decode_22 : Code := Code.r c_record_Decode_19
noncomputable def c_record_Decode_23 : Code := Code.l c_record_Decode_22
noncomputable def c_record_Decode_24 : Code := Code.l c_record_Decode_23
noncomputable def r_record_Decode_24 : Array Oper := Code.ops c_record_Decode_24
noncomputable def c_record_Decode_26 : Code := Code.r c_record_Decode_23
noncomputable def c_record_Decode_27 : Code := Code.r c_record_Decode_22
noncomputable def c_record_Decode_28 : Code := Code.r c_record_Decode_15
noncomputable def c_record_Decode_29 : Code := Code.l c_record_Decode_28
noncomputable def r_record_Decode_29 : Array Oper := Code.ops c_record_Decode_29
noncomputable def c_record_Decode_31 : Code := Code.r c_record_Decode_28
noncomputable def c_record_Decode_32 : Code := Code.l c_record_Decode_31
noncomputable def c_record_Decode_33 : Code := Code.l c_record_Decode_32
noncomputable def r_record_Decode_33 : Array Oper := Code.ops c_record_Decode_33
noncomputable def c_record_Decode_35 : Code := Code.r c_record_Decode_32
noncomputable def c_record_Decode_36 : Code := Code.l c_record_Decode_35
noncomputable def r_record_Decode_36 : Array Oper := Code.ops c_record_Decode_36
noncomputable def c_record_Decode_38 : Code := Code.r c_record_Decode_35
noncomputable def c_record_Decode_39 : Code := Code.l c_record_Decode_38
noncomputable def c_record_Decode_40 : Code := Code.l c_record_Decode_39
noncomputable def r_record_Decode_40 : Array Oper := Code.ops c_record_Decode_40
noncomputable def c_record_Decode_42 : Code := Code.r c_record_Decode_39
noncomputable def c_record_Decode_43 : Code := Code.r c_record_Decode_38
noncomputable def c_record_Decode_44 : Code := Code.r c_record_Decode_31
noncomputable def c_record_Decode_45 : Code := Code.l c_record_Decode_44
noncomputable def r_record_Decode_45 : Array Oper := Code.ops c_record_Decode_45
noncomputable def c_record_Decode_47 : Code := Code.r c_record_Decode_44
noncomputable def c_record_Decode_48 : Code := Code.l c_record_Decode_47
noncomputable def c_record_Decode_49 : Code := Code.l c_record_Decode_48
noncomputable def r_record_Decode_49 : Array Oper := Code.ops c_record_Decode_49
noncomputable def c_record_Decode_51 : Code := Code.r c_record_Decode_48
noncomputable def c_record_Decode_52 : Code := Code.l c_record_Decode_51
noncomputable def c_record_Decode_53 : Code := Code.l c_record_Decode_52
noncomputable def c_record_Decode_54 : Code := Code.l c_record_Decode_53
noncomputable def r_record_Decode_54 : Array Oper := Code.ops c_record_Decode_54
noncomputable def c_record_Decode_56 : Code := Code.r c_record_Decode_53
noncomputable def c_record_Decode_57 : Code := Code.l c_record_Decode_56
noncomputable def c_record_Decode_58 : Code := Code.l c_record_Decode_57
noncomputable def c_record_Decode_59 : Code := Code.r c_record_Decode_57
noncomputable def c_record_Decode_60 : Code := Code.r c_record_Decode_56
noncomputable def c_record_Decode_61 : Code := Code.l c_record_Decode_60
noncomputable def c_record_Decode_62 : Code := Code.l c_record_Decode_61
noncomputable def c_record_Decode_63 : Code := Code.l c_record_Decode_62
noncomputable def r_record_Decode_63 : Array Oper := Code.ops c_record_Decode_63
noncomputable def c_record_Decode_65 : Code := Code.r c_record_Decode_62
noncomputable def c_record_Decode_66 : Code := Code.l c_record_Decode_65
noncomputable def r_record_Decode_66 : Array Oper := Code.ops c_record_Decode_66
noncomputable def c_record_Decode_68 : Code := Code.r c_record_Decode_65
noncomputable def c_record_Decode_69 : Code := Code.l c_record_Decode_68
noncomputable def c_record_Decode_70 : Code := Code.l c_record_Decode_69
noncomputable def r_record_Decode_70 : Array Oper := Code.ops c_record_Decode_70
noncomputable def c_record_Decode_72 : Code := Code.r c_record_Decode_69
noncomputable def c_record_Decode_73 : Code := Code.l c_record_Decode_72
noncomputable def r_record_Decode_73 : Array Oper := Code.ops c_record_Decode_73
noncomputable def c_record_Decode_75 : Code := Code.r c_record_Decode_72
noncomputable def c_record_Decode_76 : Code := Code.l c_record_Decode_75
noncomputable def c_record_Decode_77 : Code := Code.l c_record_Decode_76
noncomputable def r_record_Decode_77 : Array Oper := Code.ops c_record_Decode_77
noncomputable def c_record_Decode_79 : Code := Code.r c_record_Decode_76
noncomputable def c_record_Decode_80 : Code := Code.r c_record_Decode_75
noncomputable def c_record_Decode_81 : Code := Code.r c_record_Decode_68
noncomputable def c_record_Decode_82 : Code := Code.l c_record_Decode_81
noncomputable def r_record_Decode_82 : Array Oper := Code.ops c_record_Decode_82
noncomputable def c_record_Decode_84 : Code := Code.r c_record_Decode_81
noncomputable def c_record_Decode_85 : Code := Code.l c_record_Decode_84
noncomputable def c_record_Decode_86 : Code := Code.l c_record_Decode_85
noncomputable def r_record_Decode_86 : Array Oper := Code.ops c_record_Decode_86
noncomputable def c_record_Decode_88 : Code := Code.r c_record_Decode_85
noncomputable def c_record_Decode_89 : Code := Code.l c_record_Decode_88
noncomputable def r_record_Decode_89 : Array Oper := Code.ops c_record_Decode_89
noncomputable def c_record_Decode_91 : Code := Code.r c_record_Decode_88
noncomputable def c_record_Decode_92 : Code := Code.l c_record_Decode_91
noncomputable def c_record_Decode_93 : Code := Code.l c_record_Decode_92
noncomputable def r_record_Decode_93 : Array Oper := Code.ops c_record_Decode_93
noncomputable def c_record_Decode_95 : Code := Code.r c_record_Decode_92
noncomputable def c_record_Decode_96 : Code := Code.r c_record_Decode_91
noncomputable def c_record_Decode_97 : Code := Code.r c_record_Decode_84
noncomputable def c_record_Decode_98 : Code := Code.l c_record_Decode_97
noncomputable def c_record_Decode_99 : Code := Code.l c_record_Decode_98
noncomputable def r_record_Decode_99 : Array Oper := Code.ops c_record_Decode_99
noncomputable def c_record_Decode_101 : Code := Code.r c_record_Decode_98
noncomputable def c_record_Decode_102 : Code := Code.l c_record_Decode_101
noncomputable def r_record_Decode_102 : Array Oper := Code.ops c_record_Decode_102
noncomputable def c_record_Decode_104 : Code := Code.r c_record_Decode_101
noncomputable def c_record_Decode_105 : Code := Code.l c_record_Decode_104
noncomputable def c_record_Decode_106 : Code := Code.l c_record_Decode_105
noncomputable def r_record_Decode_106 : Array Oper := Code.ops c_record_Decode_106
noncomputable def c_record_Decode_108 : Code := Code.r c_record_Decode_105
noncomputable def c_record_Decode_109 : Code := Code.l c_record_Decode_108
noncomputable def r_record_Decode_109 : Array Oper := Code.ops c_record_Decode_109
noncomputable def c_record_Decode_111 : Code := Code.r c_record_Decode_108
noncomputable def c_record_Decode_112 : Code := Code.l c_record_Decode_111
noncomputable def r_record_Decode_112 : Array Oper := Code.ops c_record_Decode_112
noncomputable def c_record_Decode_114 : Code := Code.r c_record_Decode_111
noncomputable def c_record_Decode_115 : Code := Code.l c_record_Decode_114
noncomputable def c_record_Decode_116 : Code := Code.l c_record_Decode_115
noncomputable def r_record_Decode_116 : Array Oper := Code.ops c_record_Decode_116
noncomputable def c_record_Decode_118 : Code := Code.r c_record_Decode_115
noncomputable def c_record_Decode_119 : Code := Code.r c_record_Decode_114
noncomputable def c_record_Decode_120 : Code := Code.r c_record_Decode_104
noncomputable def c_record_Decode_121 : Code := Code.r c_record_Decode_97
noncomputable def r_record_Decode_121 : Array Oper := Code.ops c_record_Decode_121
noncomputable def c_record_Decode_123 : Code := Code.r c_record_Decode_60
noncomputable def r_record_Decode_123 : Array Oper := Code.ops c_record_Decode_123
noncomputable def c_record_Decode_125 : Code := Code.r c_record_Decode_47
noncomputable def c_record_Decode_126 : Code := Code.l c_record_Decode_125
noncomputable def c_record_Decode_127 : Code := Code.l c_record_Decode_126
noncomputable def r_record_Decode_127 : Array Oper := Code.ops c_record_Decode_127
noncomputable def c_record_Decode_129 : Code := Code.r c_record_Decode_126
noncomputable def c_record_Decode_130 : Code := Code.l c_record_Decode_129
noncomputable def r_record_Decode_130 : Array Oper := Code.ops c_record_Decode_130
noncomputable def c_record_Decode_132 : Code := Code.r c_record_Decode_129
noncomputable def c_record_Decode_133 : Code := Code.l c_record_Decode_132
noncomputable def c_record_Decode_134 : Code := Code.l c_record_Decode_133
noncomputable def r_record_Decode_134 : Array Oper := Code.ops c_record_Decode_134
noncomputable def c_record_Decode_136 : Code := Code.r c_record_Decode_133
noncomputable def c_record_Decode_137 : Code := Code.r c_record_Decode_132
noncomputable def c_record_Decode_138 : Code := Code.r c_record_Decode_125
noncomputable def c_record_Decode_139 : Code := Code.l c_record_Decode_138
noncomputable def r_record_Decode_139 : Array Oper := Code.ops c_record_Decode_139
noncomputable def c_record_Decode_141 : Code := Code.r c_record_Decode_138

set_option maxRecDepth 100000 in
set_option maxHeartbeats 4000000 in
theorem S_record_Decode {b_ : Slc} {w : World} {R : T_api_Txn → Int → World → Prop} (h : F_record_Decode b_ R w) : C_record_Decode b_ w R := by
  unfold F_record_Decode at h
  unfold C_record_Decode
  refine Calls.mono (calls_of_wpE (args := [Value.slice b_.ptr b_.len b_.cap]) (R := fun v w' => ∃ (r0 : T_api_Txn) (r1 : Int), v = Value.tuple #[Value.agg #[Value.int .i64 r0.Number, Value.slice r0.Writes.ptr r0.Writes.len r0.Writes.cap], Value.int .i64 r1] ∧ R r0 r1 w') Try.func12 (c := c_record_Decode_0) (by kernel_rfl) 104 (by kernel_rfl) (by kernel_rfl) [(0, Value.slice b_.ptr b_.len b_.cap)] (by kernel_rfl) ?_) ?_
  · refine wpE_seq (x := c_record_Decode_1) (y := c_record_Decode_3) (by kernel_rfl) ?_
    refine wpE_region (id := 0) (ops := r_record_Decode_1) (by kernel_rfl) ?_
    refine reg_run [] 0 [(0, [], Value.slice b_.ptr b_.len b_.cap)] (by kernel_rfl) (by kernel_rfl) ?_
    refine reg_new (op := (Go.Op.alloc 27)) (ty := 0) (dst := some 2) (fun bb => Value.pointer (some ⟨bb, 0, none⟩)) (Obj.cells ([Value.int .i64 0, Value.slice none 0 0]).toArray ty_api_Txn (0, 0)) (by kernel_rfl) (by kernel_rfl) (fun b_1 w1 hb hw => ?_)
    replace h := h b_1 w1 hb hw
    clear hb hw
    refine reg_run [.plain] 2 [(0, [], Value.slice b_.ptr b_.len b_.cap), (2, [], Value.pointer (some ⟨b_1, 0, none⟩))] (by kernel_rfl) (by kernel_rfl) ?_
    refine reg_end [(0, Value.slice b_.ptr b_.len b_.cap), (2, Value.pointer (some ⟨b_1, 0, none⟩))] (by kernel_rfl) (by kernel_rfl) ?_
    change WpE _ _ c_record_Decode_3 _ _ _
    refine wpE_seq (x := c_record_Decode_4) (y := c_record_Decode_6) (by kernel_rfl) ?_
    refine wpE_region (id := 1) (ops := r_record_Decode_4) (by kernel_rfl) ?_
    refine reg_run [.plain] 1 [(0, [], Value.slice b_.ptr b_.len b_.cap), (2, [], Value.pointer (some ⟨b_1, 0, none⟩)), (18, [], Value.slice b_.ptr b_.len b_.cap)] (by kernel_rfl) (by kernel_rfl) ?_
    refine reg_enter (op := (Go.Op.call (Go.Call.mk (Go.Callee.value (Go.Operand.func 38)) #[(Go.Operand.tmp 18)] #[22]))) (ty := 81) (dst := some 19) 38 #[Value.slice b_.ptr b_.len b_.cap] (by kernel_rfl) (fun ww => by kernel_rfl) (Calls.mono h ?_)
    rintro _ w2 ⟨v19, rfl, h⟩
    refine ⟨_, rfl, ?_⟩
    refine reg_run [] 2 [(0, [], Value.slice b_.ptr b_.len b_.cap), (2, [], Value.pointer (some ⟨b_1, 0, none⟩)), (19, [], Value.pointer v19)] (by kernel_rfl) (by kernel_rfl) ?_
    refine reg_new (op := (Go.Op.alloc 81)) (ty := 0) (dst := some 4) (fun bb => Value.pointer (some ⟨bb, 0, none⟩)) (Obj.cells ([Value.pointer none]).toArray ty_ptr_codec_Reader (0, 0)) (by kernel_rfl) (by kernel_rfl) (fun b_2 w3 hb hw => ?_)
    replace h := h b_2 w3 hb hw
    clear hb hw
    refine reg_run [] 3 [(0, [], Value.slice b_.ptr b_.len b_.cap), (2, [], Value.pointer (some ⟨b_1, 0, none⟩)), (4, [], Value.pointer (some ⟨b_2, 0, none⟩)), (19, [], Value.pointer v19)] (by kernel_rfl) (by kernel_rfl) ?_
    obtain ⟨hc, h⟩ := h
    refine reg_store (t := 81) (a := (Go.Operand.tmp 4)) (x := (Go.Operand.tmp 19)) (b := b_2) (o := 0) (ty := 0) (dst := none) [Value.pointer v19] (by kernel_rfl) (by kernel_rfl) (by kernel_rfl) (k := 1) (by kernel_rfl) (by kernel_rfl) (by kernel_rfl) hc (fun w4 hw => ?_)
    replace h := h w4 hw
    clear hw
    refine reg_end [(0, Value.slice b_.ptr b_.len b_.cap), (2, Value.pointer (some ⟨b_1, 0, none⟩)), (4, Value.pointer (some ⟨b_2, 0, none⟩))] (by kernel_rfl) (by kernel_rfl) ?_
    change WpE _ _ c_record_Decode_6 _ _ _
    refine wpE_seq (x := c_record_Decode_7) (y := c_record_Decode_9) (by kernel_rfl) ?_
    refine wpE_region (id := 2) (ops := r_record_Decode_7) (by kernel_rfl) ?_
    refine reg_run [.plain, .plain] 2 [(2, [], Value.pointer (some ⟨b_1, 0, none⟩)), (4, [], Value.pointer (some ⟨b_2, 0, none⟩)), (21, [], Value.int .i64 ((b_.len : Nat) : Int))] (by kernel_rfl) (by kernel_rfl) ?_
    refine reg_new (op := (Go.Op.alloc 3)) (ty := 0) (dst := some 5) (fun bb => Value.pointer (some ⟨bb, 0, none⟩)) (Obj.cells ([Value.int .i64 0]).toArray ty_int (0, 0)) (by kernel_rfl) (by kernel_rfl) (fun b_3 w5 hb hw => ?_)
    replace h := h b_3 w5 hb hw
    clear hb hw
    refine reg_run [] 3 [(2, [], Value.pointer (some ⟨b_1, 0, none⟩)), (4, [], Value.pointer (some ⟨b_2, 0, none⟩)), (5, [], Value.pointer (some ⟨b_3, 0, none⟩)), (21, [], Value.int .i64 ((b_.len : Nat) : Int))] (by kernel_rfl) (by kernel_rfl) ?_
    obtain ⟨hc, h⟩ := h
    refine reg_store (t := 3) (a := (Go.Operand.tmp 5)) (x := (Go.Operand.tmp 21)) (b := b_3) (o := 0) (ty := 0) (dst := none) [Value.int .i64 ((b_.len : Nat) : Int)] (by kernel_rfl) (by kernel_rfl) (by kernel_rfl) (k := 1) (by kernel_rfl) (by kernel_rfl) (by kernel_rfl) hc (fun w6 hw => ?_)
    replace h := h w6 hw
    clear hw
    refine reg_end [(2, Value.pointer (some ⟨b_1, 0, none⟩)), (4, Value.pointer (some ⟨b_2, 0, none⟩)), (5, Value.pointer (some ⟨b_3, 0, none⟩))] (by kernel_rfl) (by kernel_rfl) ?_
    change WpE _ _ c_record_Decode_9 _ _ _
    refine wpE_seq (x := c_record_Decode_10) (y := c_record_Decode_12) (by kernel_rfl) ?_
    refine wpE_region (id := 3) (ops := r_record_Decode_10) (by kernel_rfl) ?_
    refine reg_run [.plain, .plain] 2 [(2, [], Value.pointer (some ⟨b_1, 0, none⟩)), (4, [], Value.pointer (some ⟨b_2, 0, none⟩)), (6, [], Value.func (.func 39) #[] #[Value.pointer (some ⟨b_2, 0, none⟩), Value.pointer (some ⟨b_3, 0, none⟩)])] (by kernel_rfl) (by kernel_rfl) ?_
    refine reg_end [(2, Value.pointer (some ⟨b_1, 0, none⟩)), (4, Value.pointer (some ⟨b_2, 0, none⟩)), (6, Value.func (.func 39) #[] #[Value.pointer (some ⟨b_2, 0, none⟩), Value.pointer (some ⟨b_3, 0, none⟩)])] (by kernel_rfl) (by kernel_rfl) ?_
    change WpE _ _ c_record_Decode_12 _ _ _
    refine wpE_seq (x := c_record_Decode_13) (y := c_record_Decode_15) (by kernel_rfl) ?_
    refine wpE_region (id := 4) (ops := r_record_Decode_13) (by kernel_rfl) ?_
    refine reg_run [] 0 [(2, [], Value.pointer (some ⟨b_1, 0, none⟩)), (4, [], Value.pointer (some ⟨b_2, 0, none⟩)), (6, [], Value.func (.func 39) #[] #[Value.pointer (some ⟨b_2, 0, none⟩), Value.pointer (some ⟨b_3, 0, none⟩)])] (by kernel_rfl) (by kernel_rfl) ?_
    obtain ⟨v23, hc, h⟩ := h
    refine reg_load1 (t := 81) (a := (Go.Operand.tmp 4)) (b := b_2) (o := 0) (ty := 81) (dst := some 23) (by kernel_rfl) (by kernel_rfl) (by kernel_rfl) hc ?_
    refine reg_run [] 1 [(2, [], Value.pointer (some ⟨b_1, 0, none⟩)), (4, [], Value.pointer (some ⟨b_2, 0, none⟩)), (6, [], Value.func (.func 39) #[] #[Value.pointer (some ⟨b_2, 0, none⟩), Value.pointer (some ⟨b_3, 0, none⟩)]), (23, [], Value.pointer v23)] (by kernel_rfl) (by kernel_rfl) ?_
    refine reg_enter (op := (Go.Op.call (Go.Call.mk (Go.Callee.value (Go.Operand.func 42)) #[(Go.Operand.tmp 23)] #[81]))) (ty := 84) (dst := some 24) 42 #[Value.pointer v23] (by kernel_rfl) (fun ww => by kernel_rfl) (Calls.mono h ?_)
    rintro _ w7 ⟨v24, rfl, h⟩
    refine ⟨_, rfl, ?_⟩
    refine reg_run [.plain] 3 [(2, [], Value.pointer (some ⟨b_1, 0, none⟩)), (4, [], Value.pointer (some ⟨b_2, 0, none⟩)), (6, [], Value.func (.func 39) #[] #[Value.pointer (some ⟨b_2, 0, none⟩), Value.pointer (some ⟨b_3, 0, none⟩)]), (7, [], Value.int .u64 v24)] (by kernel_rfl) (by kernel_rfl) ?_
    refine reg_end [(2, Value.pointer (some ⟨b_1, 0, none⟩)), (4, Value.pointer (some ⟨b_2, 0, none⟩)), (6, Value.func (.func 39) #[] #[Value.pointer (some ⟨b_2, 0, none⟩), Value.pointer (some ⟨b_3, 0, none⟩)]), (7, Value.int .u64 v24)] (by kernel_rfl) (by kernel_rfl) ?_
    change WpE _ _ c_record_Decode_15 _ _ _
    refine wpE_seq (x := c_record_Decode_16) (y := c_record_Decode_28) (by kernel_rfl) ?_
    refine wpE_seq (x := c_record_Decode_17) (y := c_record_Decode_19) (by kernel_rfl) ?_
    refine wpE_region (id := 5) (ops := r_record_Decode_17) (by kernel_rfl) ?_
    refine reg_run [.plain, .plain, .plain, .plain, .plain, .plain, .pick] 7 [(2, [], Value.pointer (some ⟨b_1, 0, none⟩)), (4, [], Value.pointer (some ⟨b_2, 0, none⟩)), (6, [], Value.func (.func 39) #[] #[Value.pointer (some ⟨b_2, 0, none⟩), Value.pointer (some ⟨b_3, 0, none⟩)]), (7, [], Value.int .u64 v24), (25, [], Value.func (.func 39) #[] #[Value.pointer (some ⟨b_2, 0, none⟩), Value.pointer (some ⟨b_3, 0, none⟩)]), (31, [], Value.bool ((decide (v24 < 1)) || (decide (v24 > 65536))))] (by kernel_rfl) (by kernel_rfl) ?_
    refine reg_enter (op := (Go.Op.call (Go.Call.mk (Go.Callee.value (Go.Operand.tmp 25)) #[(Go.Operand.tmp 31), (Go.Operand.const (Go.Value.int Go.IntKind.i64 1))] #[4, 28]))) (ty := 28) (dst := some 32) 39 #[Value.bool ((decide (v24 < 1)) || (decide (v24 > 65536))), Value.int .i64 1, Value.pointer (some ⟨b_2, 0, none⟩), Value.pointer (some ⟨b_3, 0, none⟩)] (by kernel_rfl) (fun ww => by kernel_rfl) (Calls.mono h ?_)
    rintro _ w8 ⟨v32, rfl, h⟩
    refine ⟨_, rfl, ?_⟩
    refine reg_run [.plain] 9 [(2, [], Value.pointer (some ⟨b_1, 0, none⟩)), (4, [], Value.pointer (some ⟨b_2, 0, none⟩)), (6, [], Value.func (.func 39) #[] #[Value.pointer (some ⟨b_2, 0, none⟩), Value.pointer (some ⟨b_3, 0, none⟩)]), (7, [], Value.int .u64 v24), (8, [], Value.int .i64 v32)] (by kernel_rfl) (by kernel_rfl) ?_
    refine reg_end [(2, Value.pointer (some ⟨b_1, 0, none⟩)), (4, Value.pointer (some ⟨b_2, 0, none⟩)), (6, Value.func (.func 39) #[] #[Value.pointer (some ⟨b_2, 0, none⟩), Value.pointer (some ⟨b_3, 0, none⟩)]), (7, Value.int .u64 v24), (8, Value.int .i64 v32)] (by kernel_rfl) (by kernel_rfl) ?_
    change WpE _ _ c_record_Decode_19 _ _ _
    refine wpE_seq (x := c_record_Decode_20) (y := c_record_Decode_22) (by kernel_rfl) ?_
    refine wpE_region (id := 6) (ops := r_record_Decode_20) (by kernel_rfl) ?_
    refine reg_run [.plain, .plain] 2 [(2, [], Value.pointer (some ⟨b_1, 0, none⟩)), (4, [], Value.pointer (some ⟨b_2, 0, none⟩)), (6, [], Value.func (.func 39) #[] #[Value.pointer (some ⟨b_2, 0, none⟩), Value.pointer (some ⟨b_3, 0, none⟩)]), (7, [], Value.int .u64 v24), (8, [], Value.int .i64 v32), (34, [], Value.bool (v32 != 0))] (by kernel_rfl) (by kernel_rfl) ?_
    refine reg_end [(2, Value.pointer (some ⟨b_1, 0, none⟩)), (4, Value.pointer (some ⟨b_2, 0, none⟩)), (6, Value.func (.func 39) #[] #[Value.pointer (some ⟨b_2, 0, none⟩), Value.pointer (some ⟨b_3, 0, none⟩)]), (7, Value.int .u64 v24), (8, Value.int .i64 v32), (34, Value.bool (v32 != 0))] (by kernel_rfl) (by kernel_rfl) ?_
    change WpE _ _ c_record_Decode_22 _ _ _
    refine wpE_cond (o := (Operand.tmp 34)) (b := (v32 != 0)) (x := c_record_Decode_23) (y := c_record_Decode_27) (by kernel_rfl) (by kernel_rfl) (fun hb => ?_) (fun hb => ?_)
    · replace h := h.1 hb
      refine wpE_seq (x := c_record_Decode_24) (y := c_record_Decode_26) (by kernel_rfl) ?_
      refine wpE_region (id := 7) (ops := r_record_Decode_24) (by kernel_rfl) ?_
      refine reg_run [.plain, .plain] 2 [(2, [], Value.pointer (some ⟨b_1, 0, none⟩)), (35, [], Value.agg #[Value.int .i64 0, Value.slice none 0 0]), (36, [], Value.int .i64 v32)] (by kernel_rfl) (by kernel_rfl) ?_
      obtain ⟨hc, h⟩ := h
      refine reg_store (t := 27) (a := (Go.Operand.tmp 2)) (x := (Go.Operand.tmp 35)) (b := b_1) (o := 0) (ty := 0) (dst := none) [Value.int .i64 0, Value.slice none 0 0] (by kernel_rfl) (by kernel_rfl) (by kernel_rfl) (k := 2) (by kernel_rfl) (by kernel_rfl) (by kernel_rfl) hc (fun w9 hw => ?_)
      replace h := h w9 hw
      clear hw
      refine reg_run [.plain] 4 [(2, [], Value.pointer (some ⟨b_1, 0, none⟩)), (3, [], Value.int .i64 v32)] (by kernel_rfl) (by kernel_rfl) ?_
      refine reg_end [(2, Value.pointer (some ⟨b_1, 0, none⟩)), (3, Value.int .i64 v32)] (by kernel_rfl) (by kernel_rfl) ?_
      change WpE _ _ c_record_Decode_26 _ _ _
      refine wpE_ret (by kernel_rfl) ?_
      obtain ⟨res, hc_res, h⟩ := h
      repeat (first | refine seqQ_ret ?_ | refine blockQ_ret ?_ | refine loopQ_ret ?_ | refine cutQ_ret ?_)
      exact retT (rs := [(Go.ResultVar.cell 2 27), (Go.ResultVar.tmp 3)]) (vs := [Value.agg #[Value.int .i64 res.Number, Value.slice res.Writes.ptr res.Writes.len res.Writes.cap], Value.int .i64 v32]) (by kernel_rfl) (⟨b_1, 0, [Value.int .i64 res.Number, Value.slice res.Writes.ptr res.Writes.len res.Writes.cap], by kernel_rfl, hc_res, (sizeP_of (k := 2) (by kernel_rfl) (by kernel_rfl)), .inl ⟨by kernel_rfl, rfl⟩, ⟨by kernel_rfl, trivial⟩⟩) (by kernel_rfl) ⟨res, v32, rfl, h⟩
    · replace h := h.2 hb
      refine wpE_skip (by kernel_rfl) ?_
      change WpE _ _ c_record_Decode_28 _ _ _
      refine wpE_seq (x := c_record_Decode_29) (y := c_record_Decode_31) (by kernel_rfl) ?_
      refine wpE_region (id := 8) (ops := r_record_Decode_29) (by kernel_rfl) ?_
      refine reg_run [] 0 [(2, [], Value.pointer (some ⟨b_1, 0, none⟩)), (4, [], Value.pointer (some ⟨b_2, 0, none⟩)), (6, [], Value.func (.func 39) #[] #[Value.pointer (some ⟨b_2, 0, none⟩), Value.pointer (some ⟨b_3, 0, none⟩)]), (7, [], Value.int .u64 v24)] (by kernel_rfl) (by kernel_rfl) ?_
      obtain ⟨v37, hc, h⟩ := h
      refine reg_load1 (t := 81) (a := (Go.Operand.tmp 4)) (b := b_2) (o := 0) (ty := 81) (dst := some 37) (by kernel_rfl) (by kernel_rfl) (by kernel_rfl) hc ?_
      refine reg_run [] 1 [(2, [], Value.pointer (some ⟨b_1, 0, none⟩)), (4, [], Value.pointer (some ⟨b_2, 0, none⟩)), (6, [], Value.func (.func 39) #[] #[Value.pointer (some ⟨b_2, 0, none⟩), Value.pointer (some ⟨b_3, 0, none⟩)]), (7, [], Value.int .u64 v24), (37, [], Value.pointer v37)] (by kernel_rfl) (by kernel_rfl) ?_
      refine reg_enter (op := (Go.Op.call (Go.Call.mk (Go.Callee.value (Go.Operand.func 42)) #[(Go.Operand.tmp 37)] #[81]))) (ty := 84) (dst := some 38) 42 #[Value.pointer v37] (by kernel_rfl) (fun ww => by kernel_rfl) (Calls.mono h ?_)
      rintro _ w10 ⟨v38, rfl, h⟩
      refine ⟨_, rfl, ?_⟩
      refine reg_run [.plain] 3 [(2, [], Value.pointer (some ⟨b_1, 0, none⟩)), (4, [], Value.pointer (some ⟨b_2, 0, none⟩)), (6, [], Value.func (.func 39) #[] #[Value.pointer (some ⟨b_2, 0, none⟩), Value.pointer (some ⟨b_3, 0, none⟩)]), (7, [], Value.int .u64 v24), (9, [], Value.int .u64 v38)] (by kernel_rfl) (by kernel_rfl) ?_
      refine reg_end [(2, Value.pointer (some ⟨b_1, 0, none⟩)), (4, Value.pointer (some ⟨b_2, 0, none⟩)), (6, Value.func (.func 39) #[] #[Value.pointer (some ⟨b_2, 0, none⟩), Value.pointer (some ⟨b_3, 0, none⟩)]), (7, Value.int .u64 v24), (9, Value.int .u64 v38)] (by kernel_rfl) (by kernel_rfl) ?_
      change WpE _ _ c_record_Decode_31 _ _ _
      refine wpE_seq (x := c_record_Decode_32) (y := c_record_Decode_44) (by kernel_rfl) ?_
      refine wpE_seq (x := c_record_Decode_33) (y := c_record_Decode_35) (by kernel_rfl) ?_
      refine wpE_region (id := 9) (ops := r_record_Decode_33) (by kernel_rfl) ?_
      refine reg_run [.plain, .plain, .plain] 3 [(2, [], Value.pointer (some ⟨b_1, 0, none⟩)), (4, [], Value.pointer (some ⟨b_2, 0, none⟩)), (6, [], Value.func (.func 39) #[] #[Value.pointer (some ⟨b_2, 0, none⟩), Value.pointer (some ⟨b_3, 0, none⟩)]), (7, [], Value.int .u64 v24), (9, [], Value.int .u64 v38), (39, [], Value.func (.func 39) #[] #[Value.pointer (some ⟨b_2, 0, none⟩), Value.pointer (some ⟨b_3, 0, none⟩)]), (41, [], Value.bool (decide (v38 > 32)))] (by kernel_rfl) (by kernel_rfl) ?_
      refine reg_enter (op := (Go.Op.call (Go.Call.mk (Go.Callee.value (Go.Operand.tmp 39)) #[(Go.Operand.tmp 41), (Go.Operand.const (Go.Value.int Go.IntKind.i64 3))] #[4, 28]))) (ty := 28) (dst := some 42) 39 #[Value.bool (decide (v38 > 32)), Value.int .i64 3, Value.pointer (some ⟨b_2, 0, none⟩), Value.pointer (some ⟨b_3, 0, none⟩)] (by kernel_rfl) (fun ww => by kernel_rfl) (Calls.mono h ?_)
      rintro _ w11 ⟨v42, rfl, h⟩
      refine ⟨_, rfl, ?_⟩
      refine reg_run [.plain] 5 [(2, [], Value.pointer (some ⟨b_1, 0, none⟩)), (4, [], Value.pointer (some ⟨b_2, 0, none⟩)), (6, [], Value.func (.func 39) #[] #[Value.pointer (some ⟨b_2, 0, none⟩), Value.pointer (some ⟨b_3, 0, none⟩)]), (7, [], Value.int .u64 v24), (9, [], Value.int .u64 v38), (10, [], Value.int .i64 v42)] (by kernel_rfl) (by kernel_rfl) ?_
      refine reg_end [(2, Value.pointer (some ⟨b_1, 0, none⟩)), (4, Value.pointer (some ⟨b_2, 0, none⟩)), (6, Value.func (.func 39) #[] #[Value.pointer (some ⟨b_2, 0, none⟩), Value.pointer (some ⟨b_3, 0, none⟩)]), (7, Value.int .u64 v24), (9, Value.int .u64 v38), (10, Value.int .i64 v42)] (by kernel_rfl) (by kernel_rfl) ?_
      change WpE _ _ c_record_Decode_35 _ _ _
      refine wpE_seq (x := c_record_Decode_36) (y := c_record_Decode_38) (by kernel_rfl) ?_
      refine wpE_region (id := 10) (ops := r_record_Decode_36) (by kernel_rfl) ?_
      refine reg_run [.plain, .plain] 2 [(2, [], Value.pointer (some ⟨b_1, 0, none⟩)), (4, [], Value.pointer (some ⟨b_2, 0, none⟩)), (6, [], Value.func (.func 39) #[] #[Value.pointer (some ⟨b_2, 0, none⟩), Value.pointer (some ⟨b_3, 0, none⟩)]), (7, [], Value.int .u64 v24), (9, [], Value.int .u64 v38), (10, [], Value.int .i64 v42), (44, [], Value.bool (v42 != 0))] (by kernel_rfl) (by kernel_rfl) ?_
      refine reg_end [(2, Value.pointer (some ⟨b_1, 0, none⟩)), (4, Value.pointer (some ⟨b_2, 0, none⟩)), (6, Value.func (.func 39) #[] #[Value.pointer (some ⟨b_2, 0, none⟩), Value.pointer (some ⟨b_3, 0, none⟩)]), (7, Value.int .u64 v24), (9, Value.int .u64 v38), (10, Value.int .i64 v42), (44, Value.bool (v42 != 0))] (by kernel_rfl) (by kernel_rfl) ?_
      change WpE _ _ c_record_Decode_38 _ _ _
      refine wpE_cond (o := (Operand.tmp 44)) (b := (v42 != 0)) (x := c_record_Decode_39) (y := c_record_Decode_43) (by kernel_rfl) (by kernel_rfl) (fun hb => ?_) (fun hb => ?_)
      · replace h := h.1 hb
        refine wpE_seq (x := c_record_Decode_40) (y := c_record_Decode_42) (by kernel_rfl) ?_
        refine wpE_region (id := 11) (ops := r_record_Decode_40) (by kernel_rfl) ?_
        refine reg_run [.plain, .plain] 2 [(2, [], Value.pointer (some ⟨b_1, 0, none⟩)), (45, [], Value.agg #[Value.int .i64 0, Value.slice none 0 0]), (46, [], Value.int .i64 v42)] (by kernel_rfl) (by kernel_rfl) ?_
        obtain ⟨hc, h⟩ := h
        refine reg_store (t := 27) (a := (Go.Operand.tmp 2)) (x := (Go.Operand.tmp 45)) (b := b_1) (o := 0) (ty := 0) (dst := none) [Value.int .i64 0, Value.slice none 0 0] (by kernel_rfl) (by kernel_rfl) (by kernel_rfl) (k := 2) (by kernel_rfl) (by kernel_rfl) (by kernel_rfl) hc (fun w12 hw => ?_)
        replace h := h w12 hw
        clear hw
        refine reg_run [.plain] 4 [(2, [], Value.pointer (some ⟨b_1, 0, none⟩)), (3, [], Value.int .i64 v42)] (by kernel_rfl) (by kernel_rfl) ?_
        refine reg_end [(2, Value.pointer (some ⟨b_1, 0, none⟩)), (3, Value.int .i64 v42)] (by kernel_rfl) (by kernel_rfl) ?_
        change WpE _ _ c_record_Decode_42 _ _ _
        refine wpE_ret (by kernel_rfl) ?_
        obtain ⟨res1, hc_res1, h⟩ := h
        repeat (first | refine seqQ_ret ?_ | refine blockQ_ret ?_ | refine loopQ_ret ?_ | refine cutQ_ret ?_)
        exact retT (rs := [(Go.ResultVar.cell 2 27), (Go.ResultVar.tmp 3)]) (vs := [Value.agg #[Value.int .i64 res1.Number, Value.slice res1.Writes.ptr res1.Writes.len res1.Writes.cap], Value.int .i64 v42]) (by kernel_rfl) (⟨b_1, 0, [Value.int .i64 res1.Number, Value.slice res1.Writes.ptr res1.Writes.len res1.Writes.cap], by kernel_rfl, hc_res1, (sizeP_of (k := 2) (by kernel_rfl) (by kernel_rfl)), .inl ⟨by kernel_rfl, rfl⟩, ⟨by kernel_rfl, trivial⟩⟩) (by kernel_rfl) ⟨res1, v42, rfl, h⟩
      · replace h := h.2 hb
        refine wpE_skip (by kernel_rfl) ?_
        change WpE _ _ c_record_Decode_44 _ _ _
        refine wpE_seq (x := c_record_Decode_45) (y := c_record_Decode_47) (by kernel_rfl) ?_
        refine wpE_region (id := 12) (ops := r_record_Decode_45) (by kernel_rfl) ?_
        refine reg_run [.plain, .plain, .plain] 3 [(2, [], Value.pointer (some ⟨b_1, 0, none⟩)), (4, [], Value.pointer (some ⟨b_2, 0, none⟩)), (6, [], Value.func (.func 39) #[] #[Value.pointer (some ⟨b_2, 0, none⟩), Value.pointer (some ⟨b_3, 0, none⟩)]), (9, [], Value.int .u64 v38), (49, [], Value.agg #[Value.int .i64 (IntKind.i64.wrap v24), Value.slice none 0 0])] (by kernel_rfl) (by kernel_rfl) ?_
        refine reg_new (op := (Go.Op.alloc 27)) (ty := 0) (dst := some 11) (fun bb => Value.pointer (some ⟨bb, 0, none⟩)) (Obj.cells ([Value.int .i64 0, Value.slice none 0 0]).toArray ty_api_Txn (0, 0)) (by kernel_rfl) (by kernel_rfl) (fun b_4 w13 hb hw => ?_)
        replace h := h b_4 w13 hb hw
        clear hb hw
        refine reg_run [] 4 [(2, [], Value.pointer (some ⟨b_1, 0, none⟩)), (4, [], Value.pointer (some ⟨b_2, 0, none⟩)), (6, [], Value.func (.func 39) #[] #[Value.pointer (some ⟨b_2, 0, none⟩), Value.pointer (some ⟨b_3, 0, none⟩)]), (9, [], Value.int .u64 v38), (11, [], Value.pointer (some ⟨b_4, 0, none⟩)), (49, [], Value.agg #[Value.int .i64 (IntKind.i64.wrap v24), Value.slice none 0 0])] (by kernel_rfl) (by kernel_rfl) ?_
        obtain ⟨hc, h⟩ := h
        refine reg_store (t := 27) (a := (Go.Operand.tmp 11)) (x := (Go.Operand.tmp 49)) (b := b_4) (o := 0) (ty := 0) (dst := none) [Value.int .i64 (IntKind.i64.wrap v24), Value.slice none 0 0] (by kernel_rfl) (by kernel_rfl) (by kernel_rfl) (k := 2) (by kernel_rfl) (by kernel_rfl) (by kernel_rfl) hc (fun w14 hw => ?_)
        replace h := h w14 hw
        clear hw
        refine reg_end [(2, Value.pointer (some ⟨b_1, 0, none⟩)), (4, Value.pointer (some ⟨b_2, 0, none⟩)), (6, Value.func (.func 39) #[] #[Value.pointer (some ⟨b_2, 0, none⟩), Value.pointer (some ⟨b_3, 0, none⟩)]), (9, Value.int .u64 v38), (11, Value.pointer (some ⟨b_4, 0, none⟩))] (by kernel_rfl) (by kernel_rfl) ?_
        change WpE _ _ c_record_Decode_47 _ _ _
        refine wpE_seq (x := c_record_Decode_48) (y := c_record_Decode_125) (by kernel_rfl) ?_
        refine wpE_seq (x := c_record_Decode_49) (y := c_record_Decode_51) (by kernel_rfl) ?_
        refine wpE_region (id := 13) (ops := r_record_Decode_49) (by kernel_rfl) ?_
        refine reg_run [.plain, .plain] 2 [(2, [], Value.pointer (some ⟨b_1, 0, none⟩)), (4, [], Value.pointer (some ⟨b_2, 0, none⟩)), (6, [], Value.func (.func 39) #[] #[Value.pointer (some ⟨b_2, 0, none⟩), Value.pointer (some ⟨b_3, 0, none⟩)]), (11, [], Value.pointer (some ⟨b_4, 0, none⟩)), (50, [], Value.int .u64 v38), (51, [], Value.int .u64 0)] (by kernel_rfl) (by kernel_rfl) ?_
        refine reg_end [(2, Value.pointer (some ⟨b_1, 0, none⟩)), (4, Value.pointer (some ⟨b_2, 0, none⟩)), (6, Value.func (.func 39) #[] #[Value.pointer (some ⟨b_2, 0, none⟩), Value.pointer (some ⟨b_3, 0, none⟩)]), (11, Value.pointer (some ⟨b_4, 0, none⟩)), (50, Value.int .u64 v38), (51, Value.int .u64 0)] (by kernel_rfl) (by kernel_rfl) ?_
        change WpE _ _ c_record_Decode_51 _ _ _
        refine wpE_block (id := 0) (x := c_record_Decode_52) (by kernel_rfl) ?_
        obtain ⟨I, μ, h0, hr⟩ := h
        refine wpE_loop (x := c_record_Decode_53) (by kernel_rfl) (fun m l w => ∃ (t51 : Int), l = [(2, Value.pointer (some ⟨b_1, 0, none⟩)), (4, Value.pointer (some ⟨b_2, 0, none⟩)), (6, Value.func (.func 39) #[] #[Value.pointer (some ⟨b_2, 0, none⟩), Value.pointer (some ⟨b_3, 0, none⟩)]), (11, Value.pointer (some ⟨b_4, 0, none⟩)), (50, Value.int .u64 v38), (51, Value.int .u64 t51)] ∧ I t51 w ∧ μ t51 w = m) (l' := [(2, Value.pointer (some ⟨b_1, 0, none⟩)), (4, Value.pointer (some ⟨b_2, 0, none⟩)), (6, Value.func (.func 39) #[] #[Value.pointer (some ⟨b_2, 0, none⟩), Value.pointer (some ⟨b_3, 0, none⟩)]), (11, Value.pointer (some ⟨b_4, 0, none⟩)), (50, Value.int .u64 v38), (51, Value.int .u64 0)]) (Sub.mk (by kernel_rfl)) ⟨0, rfl, h0, rfl⟩ ?_
        rintro _ _ w15 ⟨t51, rfl, hI, rfl⟩
        obtain ⟨again_, again__h, h⟩ : ∃ again_ : Int → World → Prop, (∀ t51' w', again_ t51' w' → I t51' w' ∧ μ t51' w' < μ t51 w15) ∧ F_record_Decode_L0 R b_1 b_2 b_3 v38 b_4 again_ t51 w15 := ⟨_, fun _ _ h => h, hr t51 w15 hI⟩
        clear h0 hI
        unfold F_record_Decode_L0 at h
        refine wpE_seq (x := c_record_Decode_54) (y := c_record_Decode_56) (by kernel_rfl) ?_
        refine wpE_region (id := 14) (ops := r_record_Decode_54) (by kernel_rfl) ?_
        refine reg_run [.plain] 1 [(2, [], Value.pointer (some ⟨b_1, 0, none⟩)), (4, [], Value.pointer (some ⟨b_2, 0, none⟩)), (6, [], Value.func (.func 39) #[] #[Value.pointer (some ⟨b_2, 0, none⟩), Value.pointer (some ⟨b_3, 0, none⟩)]), (11, [], Value.pointer (some ⟨b_4, 0, none⟩)), (50, [], Value.int .u64 v38), (51, [], Value.int .u64 t51), (52, [], Value.bool (decide (t51 < v38)))] (by kernel_rfl) (by kernel_rfl) ?_
        refine reg_end [(2, Value.pointer (some ⟨b_1, 0, none⟩)), (4, Value.pointer (some ⟨b_2, 0, none⟩)), (6, Value.func (.func 39) #[] #[Value.pointer (some ⟨b_2, 0, none⟩), Value.pointer (some ⟨b_3, 0, none⟩)]), (11, Value.pointer (some ⟨b_4, 0, none⟩)), (50, Value.int .u64 v38), (51, Value.int .u64 t51), (52, Value.bool (decide (t51 < v38)))] (by kernel_rfl) (by kernel_rfl) ?_
        change WpE _ _ c_record_Decode_56 _ _ _
        refine wpE_seq (x := c_record_Decode_57) (y := c_record_Decode_60) (by kernel_rfl) ?_
        refine wpE_cond (o := (Operand.tmp 52)) (b := (decide (t51 < v38))) (x := c_record_Decode_58) (y := c_record_Decode_59) (by kernel_rfl) (by kernel_rfl) (fun hb => ?_) (fun hb => ?_)
        · replace h := h.1 hb
          refine wpE_skip (by kernel_rfl) ?_
          change WpE _ _ c_record_Decode_60 _ _ _
          refine wpE_seq (x := c_record_Decode_61) (y := c_record_Decode_123) (by kernel_rfl) ?_
          refine wpE_block (id := 1) (x := c_record_Decode_62) (by kernel_rfl) ?_
          refine wpE_seq (x := c_record_Decode_63) (y := c_record_Decode_65) (by kernel_rfl) ?_
          refine wpE_region (id := 15) (ops := r_record_Decode_63) (by kernel_rfl) ?_
          refine reg_run [] 0 [(2, [], Value.pointer (some ⟨b_1, 0, none⟩)), (4, [], Value.pointer (some ⟨b_2, 0, none⟩)), (6, [], Value.func (.func 39) #[] #[Value.pointer (some ⟨b_2, 0, none⟩), Value.pointer (some ⟨b_3, 0, none⟩)]), (11, [], Value.pointer (some ⟨b_4, 0, none⟩)), (50, [], Value.int .u64 v38), (51, [], Value.int .u64 t51)] (by kernel_rfl) (by kernel_rfl) ?_
          refine reg_new (op := (Go.Op.alloc 61)) (ty := 0) (dst := some 12) (fun bb => Value.pointer (some ⟨bb, 0, none⟩)) (Obj.cells ([Value.string ByteArray.empty, Value.string ByteArray.empty, Value.bool false]).toArray ty_api_Write (0, 0)) (by kernel_rfl) (by kernel_rfl) (fun b_5 w16 hb hw => ?_)
          replace h := h b_5 w16 hb hw
          clear hb hw
          refine reg_end [(2, Value.pointer (some ⟨b_1, 0, none⟩)), (4, Value.pointer (some ⟨b_2, 0, none⟩)), (6, Value.func (.func 39) #[] #[Value.pointer (some ⟨b_2, 0, none⟩), Value.pointer (some ⟨b_3, 0, none⟩)]), (11, Value.pointer (some ⟨b_4, 0, none⟩)), (12, Value.pointer (some ⟨b_5, 0, none⟩)), (50, Value.int .u64 v38), (51, Value.int .u64 t51)] (by kernel_rfl) (by kernel_rfl) ?_
          change WpE _ _ c_record_Decode_65 _ _ _
          refine wpE_seq (x := c_record_Decode_66) (y := c_record_Decode_68) (by kernel_rfl) ?_
          refine wpE_region (id := 16) (ops := r_record_Decode_66) (by kernel_rfl) ?_
          refine reg_run [] 0 [(2, [], Value.pointer (some ⟨b_1, 0, none⟩)), (4, [], Value.pointer (some ⟨b_2, 0, none⟩)), (6, [], Value.func (.func 39) #[] #[Value.pointer (some ⟨b_2, 0, none⟩), Value.pointer (some ⟨b_3, 0, none⟩)]), (11, [], Value.pointer (some ⟨b_4, 0, none⟩)), (12, [], Value.pointer (some ⟨b_5, 0, none⟩)), (50, [], Value.int .u64 v38), (51, [], Value.int .u64 t51)] (by kernel_rfl) (by kernel_rfl) ?_
          obtain ⟨v53, hc, h⟩ := h
          refine reg_load1 (t := 81) (a := (Go.Operand.tmp 4)) (b := b_2) (o := 0) (ty := 81) (dst := some 53) (by kernel_rfl) (by kernel_rfl) (by kernel_rfl) hc ?_
          refine reg_run [] 1 [(2, [], Value.pointer (some ⟨b_1, 0, none⟩)), (4, [], Value.pointer (some ⟨b_2, 0, none⟩)), (6, [], Value.func (.func 39) #[] #[Value.pointer (some ⟨b_2, 0, none⟩), Value.pointer (some ⟨b_3, 0, none⟩)]), (11, [], Value.pointer (some ⟨b_4, 0, none⟩)), (12, [], Value.pointer (some ⟨b_5, 0, none⟩)), (50, [], Value.int .u64 v38), (51, [], Value.int .u64 t51), (53, [], Value.pointer v53)] (by kernel_rfl) (by kernel_rfl) ?_
          refine reg_enter (op := (Go.Op.call (Go.Call.mk (Go.Callee.value (Go.Operand.func 43)) #[(Go.Operand.tmp 53), (Go.Operand.const (Go.Value.int Go.IntKind.i64 64))] #[81, 3]))) (ty := 9) (dst := some 54) 43 #[Value.pointer v53, Value.int .i64 64] (by kernel_rfl) (fun ww => by kernel_rfl) (Calls.mono h ?_)
          rintro _ w17 ⟨v54, rfl, h⟩
          refine ⟨_, rfl, ?_⟩
          refine reg_run [.plain] 3 [(2, [], Value.pointer (some ⟨b_1, 0, none⟩)), (4, [], Value.pointer (some ⟨b_2, 0, none⟩)), (6, [], Value.func (.func 39) #[] #[Value.pointer (some ⟨b_2, 0, none⟩), Value.pointer (some ⟨b_3, 0, none⟩)]), (11, [], Value.pointer (some ⟨b_4, 0, none⟩)), (12, [], Value.pointer (some ⟨b_5, 0, none⟩)), (50, [], Value.int .u64 v38), (51, [], Value.int .u64 t51), (54, [], Value.string v54), (55, [], Value.pointer (some ⟨b_5, 0, none⟩))] (by kernel_rfl) (by kernel_rfl) ?_
          obtain ⟨hc, h⟩ := h
          refine reg_store (t := 9) (a := (Go.Operand.tmp 55)) (x := (Go.Operand.tmp 54)) (b := b_5) (o := 0) (ty := 0) (dst := none) [Value.string v54] (by kernel_rfl) (by kernel_rfl) (by kernel_rfl) (k := 1) (by kernel_rfl) (by kernel_rfl) (by kernel_rfl) hc (fun w18 hw => ?_)
          replace h := h w18 hw
          clear hw
          refine reg_end [(2, Value.pointer (some ⟨b_1, 0, none⟩)), (4, Value.pointer (some ⟨b_2, 0, none⟩)), (6, Value.func (.func 39) #[] #[Value.pointer (some ⟨b_2, 0, none⟩), Value.pointer (some ⟨b_3, 0, none⟩)]), (11, Value.pointer (some ⟨b_4, 0, none⟩)), (12, Value.pointer (some ⟨b_5, 0, none⟩)), (50, Value.int .u64 v38), (51, Value.int .u64 t51)] (by kernel_rfl) (by kernel_rfl) ?_
          change WpE _ _ c_record_Decode_68 _ _ _
          refine wpE_seq (x := c_record_Decode_69) (y := c_record_Decode_81) (by kernel_rfl) ?_
          refine wpE_seq (x := c_record_Decode_70) (y := c_record_Decode_72) (by kernel_rfl) ?_
          refine wpE_region (id := 17) (ops := r_record_Decode_70) (by kernel_rfl) ?_
          refine reg_run [.plain, .plain] 2 [(2, [], Value.pointer (some ⟨b_1, 0, none⟩)), (4, [], Value.pointer (some ⟨b_2, 0, none⟩)), (6, [], Value.func (.func 39) #[] #[Value.pointer (some ⟨b_2, 0, none⟩), Value.pointer (some ⟨b_3, 0, none⟩)]), (11, [], Value.pointer (some ⟨b_4, 0, none⟩)), (12, [], Value.pointer (some ⟨b_5, 0, none⟩)), (50, [], Value.int .u64 v38), (51, [], Value.int .u64 t51), (56, [], Value.func (.func 39) #[] #[Value.pointer (some ⟨b_2, 0, none⟩), Value.pointer (some ⟨b_3, 0, none⟩)]), (57, [], Value.pointer (some ⟨b_5, 0, none⟩))] (by kernel_rfl) (by kernel_rfl) ?_
          obtain ⟨v58, hc, h⟩ := h
          refine reg_load1 (t := 9) (a := (Go.Operand.tmp 57)) (b := b_5) (o := 0) (ty := 9) (dst := some 58) (by kernel_rfl) (by kernel_rfl) (by kernel_rfl) hc ?_
          refine reg_run [.plain] 4 [(2, [], Value.pointer (some ⟨b_1, 0, none⟩)), (4, [], Value.pointer (some ⟨b_2, 0, none⟩)), (6, [], Value.func (.func 39) #[] #[Value.pointer (some ⟨b_2, 0, none⟩), Value.pointer (some ⟨b_3, 0, none⟩)]), (11, [], Value.pointer (some ⟨b_4, 0, none⟩)), (12, [], Value.pointer (some ⟨b_5, 0, none⟩)), (50, [], Value.int .u64 v38), (51, [], Value.int .u64 t51), (56, [], Value.func (.func 39) #[] #[Value.pointer (some ⟨b_2, 0, none⟩), Value.pointer (some ⟨b_3, 0, none⟩)]), (59, [], Value.bool (v58.toList == ByteArray.empty.toList))] (by kernel_rfl) (by kernel_rfl) ?_
          refine reg_enter (op := (Go.Op.call (Go.Call.mk (Go.Callee.value (Go.Operand.tmp 56)) #[(Go.Operand.tmp 59), (Go.Operand.const (Go.Value.int Go.IntKind.i64 1))] #[4, 28]))) (ty := 28) (dst := some 60) 39 #[Value.bool (v58.toList == ByteArray.empty.toList), Value.int .i64 1, Value.pointer (some ⟨b_2, 0, none⟩), Value.pointer (some ⟨b_3, 0, none⟩)] (by kernel_rfl) (fun ww => by kernel_rfl) (Calls.mono h ?_)
          rintro _ w19 ⟨v60, rfl, h⟩
          refine ⟨_, rfl, ?_⟩
          refine reg_run [.plain] 6 [(2, [], Value.pointer (some ⟨b_1, 0, none⟩)), (4, [], Value.pointer (some ⟨b_2, 0, none⟩)), (6, [], Value.func (.func 39) #[] #[Value.pointer (some ⟨b_2, 0, none⟩), Value.pointer (some ⟨b_3, 0, none⟩)]), (11, [], Value.pointer (some ⟨b_4, 0, none⟩)), (12, [], Value.pointer (some ⟨b_5, 0, none⟩)), (13, [], Value.int .i64 v60), (50, [], Value.int .u64 v38), (51, [], Value.int .u64 t51)] (by kernel_rfl) (by kernel_rfl) ?_
          refine reg_end [(2, Value.pointer (some ⟨b_1, 0, none⟩)), (4, Value.pointer (some ⟨b_2, 0, none⟩)), (6, Value.func (.func 39) #[] #[Value.pointer (some ⟨b_2, 0, none⟩), Value.pointer (some ⟨b_3, 0, none⟩)]), (11, Value.pointer (some ⟨b_4, 0, none⟩)), (12, Value.pointer (some ⟨b_5, 0, none⟩)), (13, Value.int .i64 v60), (50, Value.int .u64 v38), (51, Value.int .u64 t51)] (by kernel_rfl) (by kernel_rfl) ?_
          change WpE _ _ c_record_Decode_72 _ _ _
          refine wpE_seq (x := c_record_Decode_73) (y := c_record_Decode_75) (by kernel_rfl) ?_
          refine wpE_region (id := 18) (ops := r_record_Decode_73) (by kernel_rfl) ?_
          refine reg_run [.plain, .plain] 2 [(2, [], Value.pointer (some ⟨b_1, 0, none⟩)), (4, [], Value.pointer (some ⟨b_2, 0, none⟩)), (6, [], Value.func (.func 39) #[] #[Value.pointer (some ⟨b_2, 0, none⟩), Value.pointer (some ⟨b_3, 0, none⟩)]), (11, [], Value.pointer (some ⟨b_4, 0, none⟩)), (12, [], Value.pointer (some ⟨b_5, 0, none⟩)), (13, [], Value.int .i64 v60), (50, [], Value.int .u64 v38), (51, [], Value.int .u64 t51), (62, [], Value.bool (v60 != 0))] (by kernel_rfl) (by kernel_rfl) ?_
          refine reg_end [(2, Value.pointer (some ⟨b_1, 0, none⟩)), (4, Value.pointer (some ⟨b_2, 0, none⟩)), (6, Value.func (.func 39) #[] #[Value.pointer (some ⟨b_2, 0, none⟩), Value.pointer (some ⟨b_3, 0, none⟩)]), (11, Value.pointer (some ⟨b_4, 0, none⟩)), (12, Value.pointer (some ⟨b_5, 0, none⟩)), (13, Value.int .i64 v60), (50, Value.int .u64 v38), (51, Value.int .u64 t51), (62, Value.bool (v60 != 0))] (by kernel_rfl) (by kernel_rfl) ?_
          change WpE _ _ c_record_Decode_75 _ _ _
          refine wpE_cond (o := (Operand.tmp 62)) (b := (v60 != 0)) (x := c_record_Decode_76) (y := c_record_Decode_80) (by kernel_rfl) (by kernel_rfl) (fun hb => ?_) (fun hb => ?_)
          · replace h := h.1 hb
            refine wpE_seq (x := c_record_Decode_77) (y := c_record_Decode_79) (by kernel_rfl) ?_
            refine wpE_region (id := 19) (ops := r_record_Decode_77) (by kernel_rfl) ?_
            refine reg_run [.plain, .plain] 2 [(2, [], Value.pointer (some ⟨b_1, 0, none⟩)), (63, [], Value.agg #[Value.int .i64 0, Value.slice none 0 0]), (64, [], Value.int .i64 v60)] (by kernel_rfl) (by kernel_rfl) ?_
            obtain ⟨hc, h⟩ := h
            refine reg_store (t := 27) (a := (Go.Operand.tmp 2)) (x := (Go.Operand.tmp 63)) (b := b_1) (o := 0) (ty := 0) (dst := none) [Value.int .i64 0, Value.slice none 0 0] (by kernel_rfl) (by kernel_rfl) (by kernel_rfl) (k := 2) (by kernel_rfl) (by kernel_rfl) (by kernel_rfl) hc (fun w20 hw => ?_)
            replace h := h w20 hw
            clear hw
            refine reg_run [.plain] 4 [(2, [], Value.pointer (some ⟨b_1, 0, none⟩)), (3, [], Value.int .i64 v60)] (by kernel_rfl) (by kernel_rfl) ?_
            refine reg_end [(2, Value.pointer (some ⟨b_1, 0, none⟩)), (3, Value.int .i64 v60)] (by kernel_rfl) (by kernel_rfl) ?_
            change WpE _ _ c_record_Decode_79 _ _ _
            refine wpE_ret (by kernel_rfl) ?_
            obtain ⟨res2, hc_res2, h⟩ := h
            repeat (first | refine seqQ_ret ?_ | refine blockQ_ret ?_ | refine loopQ_ret ?_ | refine cutQ_ret ?_)
            exact retT (rs := [(Go.ResultVar.cell 2 27), (Go.ResultVar.tmp 3)]) (vs := [Value.agg #[Value.int .i64 res2.Number, Value.slice res2.Writes.ptr res2.Writes.len res2.Writes.cap], Value.int .i64 v60]) (by kernel_rfl) (⟨b_1, 0, [Value.int .i64 res2.Number, Value.slice res2.Writes.ptr res2.Writes.len res2.Writes.cap], by kernel_rfl, hc_res2, (sizeP_of (k := 2) (by kernel_rfl) (by kernel_rfl)), .inl ⟨by kernel_rfl, rfl⟩, ⟨by kernel_rfl, trivial⟩⟩) (by kernel_rfl) ⟨res2, v60, rfl, h⟩
          · replace h := h.2 hb
            refine wpE_skip (by kernel_rfl) ?_
            change WpE _ _ c_record_Decode_81 _ _ _
            refine wpE_seq (x := c_record_Decode_82) (y := c_record_Decode_84) (by kernel_rfl) ?_
            refine wpE_region (id := 20) (ops := r_record_Decode_82) (by kernel_rfl) ?_
            refine reg_run [] 0 [(2, [], Value.pointer (some ⟨b_1, 0, none⟩)), (4, [], Value.pointer (some ⟨b_2, 0, none⟩)), (6, [], Value.func (.func 39) #[] #[Value.pointer (some ⟨b_2, 0, none⟩), Value.pointer (some ⟨b_3, 0, none⟩)]), (11, [], Value.pointer (some ⟨b_4, 0, none⟩)), (12, [], Value.pointer (some ⟨b_5, 0, none⟩)), (50, [], Value.int .u64 v38), (51, [], Value.int .u64 t51)] (by kernel_rfl) (by kernel_rfl) ?_
            obtain ⟨v65, hc, h⟩ := h
            refine reg_load1 (t := 81) (a := (Go.Operand.tmp 4)) (b := b_2) (o := 0) (ty := 81) (dst := some 65) (by kernel_rfl) (by kernel_rfl) (by kernel_rfl) hc ?_
            refine reg_run [] 1 [(2, [], Value.pointer (some ⟨b_1, 0, none⟩)), (4, [], Value.pointer (some ⟨b_2, 0, none⟩)), (6, [], Value.func (.func 39) #[] #[Value.pointer (some ⟨b_2, 0, none⟩), Value.pointer (some ⟨b_3, 0, none⟩)]), (11, [], Value.pointer (some ⟨b_4, 0, none⟩)), (12, [], Value.pointer (some ⟨b_5, 0, none⟩)), (50, [], Value.int .u64 v38), (51, [], Value.int .u64 t51), (65, [], Value.pointer v65)] (by kernel_rfl) (by kernel_rfl) ?_
            refine reg_enter (op := (Go.Op.call (Go.Call.mk (Go.Callee.value (Go.Operand.func 44)) #[(Go.Operand.tmp 65), (Go.Operand.const (Go.Value.int Go.IntKind.i64 1))] #[81, 3]))) (ty := 84) (dst := some 66) 44 #[Value.pointer v65, Value.int .i64 1] (by kernel_rfl) (fun ww => by kernel_rfl) (Calls.mono h ?_)
            rintro _ w21 ⟨v66, rfl, h⟩
            refine ⟨_, rfl, ?_⟩
            refine reg_run [.plain] 3 [(2, [], Value.pointer (some ⟨b_1, 0, none⟩)), (4, [], Value.pointer (some ⟨b_2, 0, none⟩)), (6, [], Value.func (.func 39) #[] #[Value.pointer (some ⟨b_2, 0, none⟩), Value.pointer (some ⟨b_3, 0, none⟩)]), (11, [], Value.pointer (some ⟨b_4, 0, none⟩)), (12, [], Value.pointer (some ⟨b_5, 0, none⟩)), (14, [], Value.int .u64 v66), (50, [], Value.int .u64 v38), (51, [], Value.int .u64 t51)] (by kernel_rfl) (by kernel_rfl) ?_
            refine reg_end [(2, Value.pointer (some ⟨b_1, 0, none⟩)), (4, Value.pointer (some ⟨b_2, 0, none⟩)), (6, Value.func (.func 39) #[] #[Value.pointer (some ⟨b_2, 0, none⟩), Value.pointer (some ⟨b_3, 0, none⟩)]), (11, Value.pointer (some ⟨b_4, 0, none⟩)), (12, Value.pointer (some ⟨b_5, 0, none⟩)), (14, Value.int .u64 v66), (50, Value.int .u64 v38), (51, Value.int .u64 t51)] (by kernel_rfl) (by kernel_rfl) ?_
            change WpE _ _ c_record_Decode_84 _ _ _
            refine wpE_seq (x := c_record_Decode_85) (y := c_record_Decode_97) (by kernel_rfl) ?_
            refine wpE_seq (x := c_record_Decode_86) (y := c_record_Decode_88) (by kernel_rfl) ?_
            refine wpE_region (id := 21) (ops := r_record_Decode_86) (by kernel_rfl) ?_
            refine reg_run [.plain, .plain, .plain] 3 [(2, [], Value.pointer (some ⟨b_1, 0, none⟩)), (4, [], Value.pointer (some ⟨b_2, 0, none⟩)), (6, [], Value.func (.func 39) #[] #[Value.pointer (some ⟨b_2, 0, none⟩), Value.pointer (some ⟨b_3, 0, none⟩)]), (11, [], Value.pointer (some ⟨b_4, 0, none⟩)), (12, [], Value.pointer (some ⟨b_5, 0, none⟩)), (14, [], Value.int .u64 v66), (50, [], Value.int .u64 v38), (51, [], Value.int .u64 t51), (67, [], Value.func (.func 39) #[] #[Value.pointer (some ⟨b_2, 0, none⟩), Value.pointer (some ⟨b_3, 0, none⟩)]), (69, [], Value.bool (decide (v66 > 1)))] (by kernel_rfl) (by kernel_rfl) ?_
            refine reg_enter (op := (Go.Op.call (Go.Call.mk (Go.Callee.value (Go.Operand.tmp 67)) #[(Go.Operand.tmp 69), (Go.Operand.const (Go.Value.int Go.IntKind.i64 4))] #[4, 28]))) (ty := 28) (dst := some 70) 39 #[Value.bool (decide (v66 > 1)), Value.int .i64 4, Value.pointer (some ⟨b_2, 0, none⟩), Value.pointer (some ⟨b_3, 0, none⟩)] (by kernel_rfl) (fun ww => by kernel_rfl) (Calls.mono h ?_)
            rintro _ w22 ⟨v70, rfl, h⟩
            refine ⟨_, rfl, ?_⟩
            refine reg_run [.plain] 5 [(2, [], Value.pointer (some ⟨b_1, 0, none⟩)), (4, [], Value.pointer (some ⟨b_2, 0, none⟩)), (6, [], Value.func (.func 39) #[] #[Value.pointer (some ⟨b_2, 0, none⟩), Value.pointer (some ⟨b_3, 0, none⟩)]), (11, [], Value.pointer (some ⟨b_4, 0, none⟩)), (12, [], Value.pointer (some ⟨b_5, 0, none⟩)), (14, [], Value.int .u64 v66), (15, [], Value.int .i64 v70), (50, [], Value.int .u64 v38), (51, [], Value.int .u64 t51)] (by kernel_rfl) (by kernel_rfl) ?_
            refine reg_end [(2, Value.pointer (some ⟨b_1, 0, none⟩)), (4, Value.pointer (some ⟨b_2, 0, none⟩)), (6, Value.func (.func 39) #[] #[Value.pointer (some ⟨b_2, 0, none⟩), Value.pointer (some ⟨b_3, 0, none⟩)]), (11, Value.pointer (some ⟨b_4, 0, none⟩)), (12, Value.pointer (some ⟨b_5, 0, none⟩)), (14, Value.int .u64 v66), (15, Value.int .i64 v70), (50, Value.int .u64 v38), (51, Value.int .u64 t51)] (by kernel_rfl) (by kernel_rfl) ?_
            change WpE _ _ c_record_Decode_88 _ _ _
            refine wpE_seq (x := c_record_Decode_89) (y := c_record_Decode_91) (by kernel_rfl) ?_
            refine wpE_region (id := 22) (ops := r_record_Decode_89) (by kernel_rfl) ?_
            refine reg_run [.plain, .plain] 2 [(2, [], Value.pointer (some ⟨b_1, 0, none⟩)), (4, [], Value.pointer (some ⟨b_2, 0, none⟩)), (6, [], Value.func (.func 39) #[] #[Value.pointer (some ⟨b_2, 0, none⟩), Value.pointer (some ⟨b_3, 0, none⟩)]), (11, [], Value.pointer (some ⟨b_4, 0, none⟩)), (12, [], Value.pointer (some ⟨b_5, 0, none⟩)), (14, [], Value.int .u64 v66), (15, [], Value.int .i64 v70), (50, [], Value.int .u64 v38), (51, [], Value.int .u64 t51), (72, [], Value.bool (v70 != 0))] (by kernel_rfl) (by kernel_rfl) ?_
            refine reg_end [(2, Value.pointer (some ⟨b_1, 0, none⟩)), (4, Value.pointer (some ⟨b_2, 0, none⟩)), (6, Value.func (.func 39) #[] #[Value.pointer (some ⟨b_2, 0, none⟩), Value.pointer (some ⟨b_3, 0, none⟩)]), (11, Value.pointer (some ⟨b_4, 0, none⟩)), (12, Value.pointer (some ⟨b_5, 0, none⟩)), (14, Value.int .u64 v66), (15, Value.int .i64 v70), (50, Value.int .u64 v38), (51, Value.int .u64 t51), (72, Value.bool (v70 != 0))] (by kernel_rfl) (by kernel_rfl) ?_
            change WpE _ _ c_record_Decode_91 _ _ _
            refine wpE_cond (o := (Operand.tmp 72)) (b := (v70 != 0)) (x := c_record_Decode_92) (y := c_record_Decode_96) (by kernel_rfl) (by kernel_rfl) (fun hb => ?_) (fun hb => ?_)
            · replace h := h.1 hb
              refine wpE_seq (x := c_record_Decode_93) (y := c_record_Decode_95) (by kernel_rfl) ?_
              refine wpE_region (id := 23) (ops := r_record_Decode_93) (by kernel_rfl) ?_
              refine reg_run [.plain, .plain] 2 [(2, [], Value.pointer (some ⟨b_1, 0, none⟩)), (73, [], Value.agg #[Value.int .i64 0, Value.slice none 0 0]), (74, [], Value.int .i64 v70)] (by kernel_rfl) (by kernel_rfl) ?_
              obtain ⟨hc, h⟩ := h
              refine reg_store (t := 27) (a := (Go.Operand.tmp 2)) (x := (Go.Operand.tmp 73)) (b := b_1) (o := 0) (ty := 0) (dst := none) [Value.int .i64 0, Value.slice none 0 0] (by kernel_rfl) (by kernel_rfl) (by kernel_rfl) (k := 2) (by kernel_rfl) (by kernel_rfl) (by kernel_rfl) hc (fun w23 hw => ?_)
              replace h := h w23 hw
              clear hw
              refine reg_run [.plain] 4 [(2, [], Value.pointer (some ⟨b_1, 0, none⟩)), (3, [], Value.int .i64 v70)] (by kernel_rfl) (by kernel_rfl) ?_
              refine reg_end [(2, Value.pointer (some ⟨b_1, 0, none⟩)), (3, Value.int .i64 v70)] (by kernel_rfl) (by kernel_rfl) ?_
              change WpE _ _ c_record_Decode_95 _ _ _
              refine wpE_ret (by kernel_rfl) ?_
              obtain ⟨res3, hc_res3, h⟩ := h
              repeat (first | refine seqQ_ret ?_ | refine blockQ_ret ?_ | refine loopQ_ret ?_ | refine cutQ_ret ?_)
              exact retT (rs := [(Go.ResultVar.cell 2 27), (Go.ResultVar.tmp 3)]) (vs := [Value.agg #[Value.int .i64 res3.Number, Value.slice res3.Writes.ptr res3.Writes.len res3.Writes.cap], Value.int .i64 v70]) (by kernel_rfl) (⟨b_1, 0, [Value.int .i64 res3.Number, Value.slice res3.Writes.ptr res3.Writes.len res3.Writes.cap], by kernel_rfl, hc_res3, (sizeP_of (k := 2) (by kernel_rfl) (by kernel_rfl)), .inl ⟨by kernel_rfl, rfl⟩, ⟨by kernel_rfl, trivial⟩⟩) (by kernel_rfl) ⟨res3, v70, rfl, h⟩
            · replace h := h.2 hb
              refine wpE_skip (by kernel_rfl) ?_
              change WpE _ _ c_record_Decode_97 _ _ _
              refine wpE_seq_cut (x := c_record_Decode_98) (y := c_record_Decode_121) (by kernel_rfl) (fun l w => l = [(2, Value.pointer (some ⟨b_1, 0, none⟩)), (4, Value.pointer (some ⟨b_2, 0, none⟩)), (6, Value.func (.func 39) #[] #[Value.pointer (some ⟨b_2, 0, none⟩), Value.pointer (some ⟨b_3, 0, none⟩)]), (11, Value.pointer (some ⟨b_4, 0, none⟩)), (12, Value.pointer (some ⟨b_5, 0, none⟩)), (50, Value.int .u64 v38), (51, Value.int .u64 t51)] ∧ F_record_Decode_k1 b_4 t51 again_ b_5 w) ?_ ?_
              · refine wpE_seq (x := c_record_Decode_99) (y := c_record_Decode_101) (by kernel_rfl) ?_
                refine wpE_region (id := 24) (ops := r_record_Decode_99) (by kernel_rfl) ?_
                refine reg_run [.plain, .plain, .plain] 3 [(2, [], Value.pointer (some ⟨b_1, 0, none⟩)), (4, [], Value.pointer (some ⟨b_2, 0, none⟩)), (6, [], Value.func (.func 39) #[] #[Value.pointer (some ⟨b_2, 0, none⟩), Value.pointer (some ⟨b_3, 0, none⟩)]), (11, [], Value.pointer (some ⟨b_4, 0, none⟩)), (12, [], Value.pointer (some ⟨b_5, 0, none⟩)), (50, [], Value.int .u64 v38), (51, [], Value.int .u64 t51), (76, [], Value.bool (v66 == 1)), (77, [], Value.pointer (some ⟨b_5, 2, none⟩))] (by kernel_rfl) (by kernel_rfl) ?_
                obtain ⟨hc, h⟩ := h
                refine reg_store (t := 4) (a := (Go.Operand.tmp 77)) (x := (Go.Operand.tmp 76)) (b := b_5) (o := 2) (ty := 0) (dst := none) [Value.bool (v66 == 1)] (by kernel_rfl) (by kernel_rfl) (by kernel_rfl) (k := 1) (by kernel_rfl) (by kernel_rfl) (by kernel_rfl) hc (fun w28 hw => ?_)
                replace h := h w28 hw
                clear hw
                refine reg_end [(2, Value.pointer (some ⟨b_1, 0, none⟩)), (4, Value.pointer (some ⟨b_2, 0, none⟩)), (6, Value.func (.func 39) #[] #[Value.pointer (some ⟨b_2, 0, none⟩), Value.pointer (some ⟨b_3, 0, none⟩)]), (11, Value.pointer (some ⟨b_4, 0, none⟩)), (12, Value.pointer (some ⟨b_5, 0, none⟩)), (50, Value.int .u64 v38), (51, Value.int .u64 t51)] (by kernel_rfl) (by kernel_rfl) ?_
                change WpE _ _ c_record_Decode_101 _ _ _
                refine wpE_seq (x := c_record_Decode_102) (y := c_record_Decode_104) (by kernel_rfl) ?_
                refine wpE_region (id := 25) (ops := r_record_Decode_102) (by kernel_rfl) ?_
                refine reg_run [.plain] 1 [(2, [], Value.pointer (some ⟨b_1, 0, none⟩)), (4, [], Value.pointer (some ⟨b_2, 0, none⟩)), (6, [], Value.func (.func 39) #[] #[Value.pointer (some ⟨b_2, 0, none⟩), Value.pointer (some ⟨b_3, 0, none⟩)]), (11, [], Value.pointer (some ⟨b_4, 0, none⟩)), (12, [], Value.pointer (some ⟨b_5, 0, none⟩)), (50, [], Value.int .u64 v38), (51, [], Value.int .u64 t51), (78, [], Value.pointer (some ⟨b_5, 2, none⟩))] (by kernel_rfl) (by kernel_rfl) ?_
                obtain ⟨v79, hc, h⟩ := h
                refine reg_load1 (t := 4) (a := (Go.Operand.tmp 78)) (b := b_5) (o := 2) (ty := 4) (dst := some 79) (by kernel_rfl) (by kernel_rfl) (by kernel_rfl) hc ?_
                refine reg_run [.plain] 3 [(2, [], Value.pointer (some ⟨b_1, 0, none⟩)), (4, [], Value.pointer (some ⟨b_2, 0, none⟩)), (6, [], Value.func (.func 39) #[] #[Value.pointer (some ⟨b_2, 0, none⟩), Value.pointer (some ⟨b_3, 0, none⟩)]), (11, [], Value.pointer (some ⟨b_4, 0, none⟩)), (12, [], Value.pointer (some ⟨b_5, 0, none⟩)), (50, [], Value.int .u64 v38), (51, [], Value.int .u64 t51), (80, [], Value.bool (!v79))] (by kernel_rfl) (by kernel_rfl) ?_
                refine reg_end [(2, Value.pointer (some ⟨b_1, 0, none⟩)), (4, Value.pointer (some ⟨b_2, 0, none⟩)), (6, Value.func (.func 39) #[] #[Value.pointer (some ⟨b_2, 0, none⟩), Value.pointer (some ⟨b_3, 0, none⟩)]), (11, Value.pointer (some ⟨b_4, 0, none⟩)), (12, Value.pointer (some ⟨b_5, 0, none⟩)), (50, Value.int .u64 v38), (51, Value.int .u64 t51), (80, Value.bool (!v79))] (by kernel_rfl) (by kernel_rfl) ?_
                change WpE _ _ c_record_Decode_104 _ _ _
                refine wpE_cond (o := (Operand.tmp 80)) (b := (!v79)) (x := c_record_Decode_105) (y := c_record_Decode_120) (by kernel_rfl) (by kernel_rfl) (fun hb => ?_) (fun hb => ?_)
                · replace h := h.1 hb
                  refine wpE_seq (x := c_record_Decode_106) (y := c_record_Decode_108) (by kernel_rfl) ?_
                  refine wpE_region (id := 26) (ops := r_record_Decode_106) (by kernel_rfl) ?_
                  refine reg_run [] 0 [(2, [], Value.pointer (some ⟨b_1, 0, none⟩)), (4, [], Value.pointer (some ⟨b_2, 0, none⟩)), (6, [], Value.func (.func 39) #[] #[Value.pointer (some ⟨b_2, 0, none⟩), Value.pointer (some ⟨b_3, 0, none⟩)]), (11, [], Value.pointer (some ⟨b_4, 0, none⟩)), (12, [], Value.pointer (some ⟨b_5, 0, none⟩)), (50, [], Value.int .u64 v38), (51, [], Value.int .u64 t51)] (by kernel_rfl) (by kernel_rfl) ?_
                  obtain ⟨v81, hc, h⟩ := h
                  refine reg_load1 (t := 81) (a := (Go.Operand.tmp 4)) (b := b_2) (o := 0) (ty := 81) (dst := some 81) (by kernel_rfl) (by kernel_rfl) (by kernel_rfl) hc ?_
                  refine reg_run [] 1 [(2, [], Value.pointer (some ⟨b_1, 0, none⟩)), (4, [], Value.pointer (some ⟨b_2, 0, none⟩)), (6, [], Value.func (.func 39) #[] #[Value.pointer (some ⟨b_2, 0, none⟩), Value.pointer (some ⟨b_3, 0, none⟩)]), (11, [], Value.pointer (some ⟨b_4, 0, none⟩)), (12, [], Value.pointer (some ⟨b_5, 0, none⟩)), (50, [], Value.int .u64 v38), (51, [], Value.int .u64 t51), (81, [], Value.pointer v81)] (by kernel_rfl) (by kernel_rfl) ?_
                  refine reg_enter (op := (Go.Op.call (Go.Call.mk (Go.Callee.value (Go.Operand.func 43)) #[(Go.Operand.tmp 81), (Go.Operand.const (Go.Value.int Go.IntKind.i64 1024))] #[81, 3]))) (ty := 9) (dst := some 82) 43 #[Value.pointer v81, Value.int .i64 1024] (by kernel_rfl) (fun ww => by kernel_rfl) (Calls.mono h ?_)
                  rintro _ w29 ⟨v82, rfl, h⟩
                  refine ⟨_, rfl, ?_⟩
                  refine reg_run [.plain] 3 [(2, [], Value.pointer (some ⟨b_1, 0, none⟩)), (4, [], Value.pointer (some ⟨b_2, 0, none⟩)), (6, [], Value.func (.func 39) #[] #[Value.pointer (some ⟨b_2, 0, none⟩), Value.pointer (some ⟨b_3, 0, none⟩)]), (11, [], Value.pointer (some ⟨b_4, 0, none⟩)), (12, [], Value.pointer (some ⟨b_5, 0, none⟩)), (50, [], Value.int .u64 v38), (51, [], Value.int .u64 t51), (82, [], Value.string v82), (83, [], Value.pointer (some ⟨b_5, 1, none⟩))] (by kernel_rfl) (by kernel_rfl) ?_
                  obtain ⟨hc, h⟩ := h
                  refine reg_store (t := 9) (a := (Go.Operand.tmp 83)) (x := (Go.Operand.tmp 82)) (b := b_5) (o := 1) (ty := 0) (dst := none) [Value.string v82] (by kernel_rfl) (by kernel_rfl) (by kernel_rfl) (k := 1) (by kernel_rfl) (by kernel_rfl) (by kernel_rfl) hc (fun w30 hw => ?_)
                  replace h := h w30 hw
                  clear hw
                  refine reg_end [(2, Value.pointer (some ⟨b_1, 0, none⟩)), (4, Value.pointer (some ⟨b_2, 0, none⟩)), (6, Value.func (.func 39) #[] #[Value.pointer (some ⟨b_2, 0, none⟩), Value.pointer (some ⟨b_3, 0, none⟩)]), (11, Value.pointer (some ⟨b_4, 0, none⟩)), (12, Value.pointer (some ⟨b_5, 0, none⟩)), (50, Value.int .u64 v38), (51, Value.int .u64 t51)] (by kernel_rfl) (by kernel_rfl) ?_
                  change WpE _ _ c_record_Decode_108 _ _ _
                  refine wpE_seq (x := c_record_Decode_109) (y := c_record_Decode_111) (by kernel_rfl) ?_
                  refine wpE_region (id := 27) (ops := r_record_Decode_109) (by kernel_rfl) ?_
                  refine reg_run [.plain] 1 [(2, [], Value.pointer (some ⟨b_1, 0, none⟩)), (4, [], Value.pointer (some ⟨b_2, 0, none⟩)), (6, [], Value.func (.func 39) #[] #[Value.pointer (some ⟨b_2, 0, none⟩), Value.pointer (some ⟨b_3, 0, none⟩)]), (11, [], Value.pointer (some ⟨b_4, 0, none⟩)), (12, [], Value.pointer (some ⟨b_5, 0, none⟩)), (50, [], Value.int .u64 v38), (51, [], Value.int .u64 t51), (84, [], Value.func (.func 39) #[] #[Value.pointer (some ⟨b_2, 0, none⟩), Value.pointer (some ⟨b_3, 0, none⟩)])] (by kernel_rfl) (by kernel_rfl) ?_
                  refine reg_enter (op := (Go.Op.call (Go.Call.mk (Go.Callee.value (Go.Operand.tmp 84)) #[(Go.Operand.const (Go.Value.bool false)), (Go.Operand.const (Go.Value.int Go.IntKind.i64 0))] #[4, 28]))) (ty := 28) (dst := some 85) 39 #[Value.bool false, Value.int .i64 0, Value.pointer (some ⟨b_2, 0, none⟩), Value.pointer (some ⟨b_3, 0, none⟩)] (by kernel_rfl) (fun ww => by kernel_rfl) (Calls.mono h ?_)
                  rintro _ w31 ⟨v85, rfl, h⟩
                  refine ⟨_, rfl, ?_⟩
                  refine reg_run [.plain] 3 [(2, [], Value.pointer (some ⟨b_1, 0, none⟩)), (4, [], Value.pointer (some ⟨b_2, 0, none⟩)), (6, [], Value.func (.func 39) #[] #[Value.pointer (some ⟨b_2, 0, none⟩), Value.pointer (some ⟨b_3, 0, none⟩)]), (11, [], Value.pointer (some ⟨b_4, 0, none⟩)), (12, [], Value.pointer (some ⟨b_5, 0, none⟩)), (16, [], Value.int .i64 v85), (50, [], Value.int .u64 v38), (51, [], Value.int .u64 t51)] (by kernel_rfl) (by kernel_rfl) ?_
                  refine reg_end [(2, Value.pointer (some ⟨b_1, 0, none⟩)), (4, Value.pointer (some ⟨b_2, 0, none⟩)), (6, Value.func (.func 39) #[] #[Value.pointer (some ⟨b_2, 0, none⟩), Value.pointer (some ⟨b_3, 0, none⟩)]), (11, Value.pointer (some ⟨b_4, 0, none⟩)), (12, Value.pointer (some ⟨b_5, 0, none⟩)), (16, Value.int .i64 v85), (50, Value.int .u64 v38), (51, Value.int .u64 t51)] (by kernel_rfl) (by kernel_rfl) ?_
                  change WpE _ _ c_record_Decode_111 _ _ _
                  refine wpE_seq (x := c_record_Decode_112) (y := c_record_Decode_114) (by kernel_rfl) ?_
                  refine wpE_region (id := 28) (ops := r_record_Decode_112) (by kernel_rfl) ?_
                  refine reg_run [.plain, .plain] 2 [(2, [], Value.pointer (some ⟨b_1, 0, none⟩)), (4, [], Value.pointer (some ⟨b_2, 0, none⟩)), (6, [], Value.func (.func 39) #[] #[Value.pointer (some ⟨b_2, 0, none⟩), Value.pointer (some ⟨b_3, 0, none⟩)]), (11, [], Value.pointer (some ⟨b_4, 0, none⟩)), (12, [], Value.pointer (some ⟨b_5, 0, none⟩)), (16, [], Value.int .i64 v85), (50, [], Value.int .u64 v38), (51, [], Value.int .u64 t51), (87, [], Value.bool (v85 != 0))] (by kernel_rfl) (by kernel_rfl) ?_
                  refine reg_end [(2, Value.pointer (some ⟨b_1, 0, none⟩)), (4, Value.pointer (some ⟨b_2, 0, none⟩)), (6, Value.func (.func 39) #[] #[Value.pointer (some ⟨b_2, 0, none⟩), Value.pointer (some ⟨b_3, 0, none⟩)]), (11, Value.pointer (some ⟨b_4, 0, none⟩)), (12, Value.pointer (some ⟨b_5, 0, none⟩)), (16, Value.int .i64 v85), (50, Value.int .u64 v38), (51, Value.int .u64 t51), (87, Value.bool (v85 != 0))] (by kernel_rfl) (by kernel_rfl) ?_
                  change WpE _ _ c_record_Decode_114 _ _ _
                  refine wpE_cond (o := (Operand.tmp 87)) (b := (v85 != 0)) (x := c_record_Decode_115) (y := c_record_Decode_119) (by kernel_rfl) (by kernel_rfl) (fun hb => ?_) (fun hb => ?_)
                  · replace h := h.1 hb
                    refine wpE_seq (x := c_record_Decode_116) (y := c_record_Decode_118) (by kernel_rfl) ?_
                    refine wpE_region (id := 29) (ops := r_record_Decode_116) (by kernel_rfl) ?_
                    refine reg_run [.plain, .plain] 2 [(2, [], Value.pointer (some ⟨b_1, 0, none⟩)), (88, [], Value.agg #[Value.int .i64 0, Value.slice none 0 0]), (89, [], Value.int .i64 v85)] (by kernel_rfl) (by kernel_rfl) ?_
                    obtain ⟨hc, h⟩ := h
                    refine reg_store (t := 27) (a := (Go.Operand.tmp 2)) (x := (Go.Operand.tmp 88)) (b := b_1) (o := 0) (ty := 0) (dst := none) [Value.int .i64 0, Value.slice none 0 0] (by kernel_rfl) (by kernel_rfl) (by kernel_rfl) (k := 2) (by kernel_rfl) (by kernel_rfl) (by kernel_rfl) hc (fun w32 hw => ?_)
                    replace h := h w32 hw
                    clear hw
                    refine reg_run [.plain] 4 [(2, [], Value.pointer (some ⟨b_1, 0, none⟩)), (3, [], Value.int .i64 v85)] (by kernel_rfl) (by kernel_rfl) ?_
                    refine reg_end [(2, Value.pointer (some ⟨b_1, 0, none⟩)), (3, Value.int .i64 v85)] (by kernel_rfl) (by kernel_rfl) ?_
                    change WpE _ _ c_record_Decode_118 _ _ _
                    refine wpE_ret (by kernel_rfl) ?_
                    obtain ⟨res4, hc_res4, h⟩ := h
                    repeat (first | refine seqQ_ret ?_ | refine blockQ_ret ?_ | refine loopQ_ret ?_ | refine cutQ_ret ?_)
                    exact retT (rs := [(Go.ResultVar.cell 2 27), (Go.ResultVar.tmp 3)]) (vs := [Value.agg #[Value.int .i64 res4.Number, Value.slice res4.Writes.ptr res4.Writes.len res4.Writes.cap], Value.int .i64 v85]) (by kernel_rfl) (⟨b_1, 0, [Value.int .i64 res4.Number, Value.slice res4.Writes.ptr res4.Writes.len res4.Writes.cap], by kernel_rfl, hc_res4, (sizeP_of (k := 2) (by kernel_rfl) (by kernel_rfl)), .inl ⟨by kernel_rfl, rfl⟩, ⟨by kernel_rfl, trivial⟩⟩) (by kernel_rfl) ⟨res4, v85, rfl, h⟩
                  · replace h := h.2 hb
                    refine wpE_skip (by kernel_rfl) ?_
                    exact ⟨[(2, Value.pointer (some ⟨b_1, 0, none⟩)), (4, Value.pointer (some ⟨b_2, 0, none⟩)), (6, Value.func (.func 39) #[] #[Value.pointer (some ⟨b_2, 0, none⟩), Value.pointer (some ⟨b_3, 0, none⟩)]), (11, Value.pointer (some ⟨b_4, 0, none⟩)), (12, Value.pointer (some ⟨b_5, 0, none⟩)), (50, Value.int .u64 v38), (51, Value.int .u64 t51)], Sub.mk (by kernel_rfl), rfl, h⟩
                · replace h := h.2 hb
                  refine wpE_skip (by kernel_rfl) ?_
                  exact ⟨[(2, Value.pointer (some ⟨b_1, 0, none⟩)), (4, Value.pointer (some ⟨b_2, 0, none⟩)), (6, Value.func (.func 39) #[] #[Value.pointer (some ⟨b_2, 0, none⟩), Value.pointer (some ⟨b_3, 0, none⟩)]), (11, Value.pointer (some ⟨b_4, 0, none⟩)), (12, Value.pointer (some ⟨b_5, 0, none⟩)), (50, Value.int .u64 v38), (51, Value.int .u64 t51)], Sub.mk (by kernel_rfl), rfl, h⟩
              · rintro _ w24 ⟨rfl, h⟩
                unfold F_record_Decode_k1 at h
                refine wpE_region (id := 30) (ops := r_record_Decode_121) (by kernel_rfl) ?_
                refine reg_run [.plain] 1 [(2, [], Value.pointer (some ⟨b_1, 0, none⟩)), (4, [], Value.pointer (some ⟨b_2, 0, none⟩)), (6, [], Value.func (.func 39) #[] #[Value.pointer (some ⟨b_2, 0, none⟩), Value.pointer (some ⟨b_3, 0, none⟩)]), (11, [], Value.pointer (some ⟨b_4, 0, none⟩)), (12, [], Value.pointer (some ⟨b_5, 0, none⟩)), (50, [], Value.int .u64 v38), (51, [], Value.int .u64 t51), (90, [], Value.pointer (some ⟨b_4, 1, none⟩))] (by kernel_rfl) (by kernel_rfl) ?_
                obtain ⟨v91, hc, h⟩ := h
                refine reg_load1 (t := 25) (a := (Go.Operand.tmp 90)) (b := b_4) (o := 1) (ty := 25) (dst := some 91) (by kernel_rfl) (by kernel_rfl) (by kernel_rfl) hc ?_
                refine reg_run [] 2 [(2, [], Value.pointer (some ⟨b_1, 0, none⟩)), (4, [], Value.pointer (some ⟨b_2, 0, none⟩)), (6, [], Value.func (.func 39) #[] #[Value.pointer (some ⟨b_2, 0, none⟩), Value.pointer (some ⟨b_3, 0, none⟩)]), (11, [], Value.pointer (some ⟨b_4, 0, none⟩)), (12, [], Value.pointer (some ⟨b_5, 0, none⟩)), (50, [], Value.int .u64 v38), (51, [], Value.int .u64 t51), (91, [], Value.slice v91.ptr v91.len v91.cap)] (by kernel_rfl) (by kernel_rfl) ?_
                obtain ⟨v92, hc, h⟩ := h
                refine reg_loadN (t := 61) (a := (Go.Operand.tmp 12)) (b := b_5) (o := 0) (ty := 61) (dst := some 92) [Value.string v92.Key, Value.string v92.Val, Value.bool v92.Drop] (by kernel_rfl) (by kernel_rfl) (by kernel_rfl) (k := 3) (by kernel_rfl) (by kernel_rfl) hc ?_
                refine reg_run [] 3 [(2, [], Value.pointer (some ⟨b_1, 0, none⟩)), (4, [], Value.pointer (some ⟨b_2, 0, none⟩)), (6, [], Value.func (.func 39) #[] #[Value.pointer (some ⟨b_2, 0, none⟩), Value.pointer (some ⟨b_3, 0, none⟩)]), (11, [], Value.pointer (some ⟨b_4, 0, none⟩)), (50, [], Value.int .u64 v38), (51, [], Value.int .u64 t51), (91, [], Value.slice v91.ptr v91.len v91.cap), (92, [], Value.agg #[Value.string v92.Key, Value.string v92.Val, Value.bool v92.Drop])] (by kernel_rfl) (by kernel_rfl) ?_
                refine reg_new (op := (Go.Op.buildSlice 25 1 #[(0, (Go.Operand.tmp 92))])) (ty := 25) (dst := some 93) (fun bb => Value.slice (some ⟨bb, 0, none⟩) 1 1) (Obj.cells ([Value.string v92.Key, Value.string v92.Val, Value.bool v92.Drop]).toArray ty_api_Write (0, 0)) (by kernel_rfl) (by kernel_rfl) (fun b_6 w25 hb hw => ?_)
                replace h := h b_6 w25 hb hw
                clear hb hw
                refine reg_run [] 4 [(2, [], Value.pointer (some ⟨b_1, 0, none⟩)), (4, [], Value.pointer (some ⟨b_2, 0, none⟩)), (6, [], Value.func (.func 39) #[] #[Value.pointer (some ⟨b_2, 0, none⟩), Value.pointer (some ⟨b_3, 0, none⟩)]), (11, [], Value.pointer (some ⟨b_4, 0, none⟩)), (50, [], Value.int .u64 v38), (51, [], Value.int .u64 t51), (91, [], Value.slice v91.ptr v91.len v91.cap), (93, [], Value.slice (some ⟨b_6, 0, none⟩) 1 1)] (by kernel_rfl) (by kernel_rfl) ?_
                obtain ⟨src, hs, h⟩ := h
                refine reg_append (t := 25) (tx := 25) (e := 61) (a := (Go.Operand.tmp 91)) (xo := (Go.Operand.tmp 93)) (s := v91) (x := (Slc.mk (some ⟨b_6, 0, none⟩) 1 1)) (sz := 3) (by_ := 40) (zs := [Value.string ByteArray.empty, Value.string ByteArray.empty, Value.bool false]) (ty := 25) (dst := some 94)  src (by kernel_rfl) (by kernel_rfl) (by kernel_rfl) (by kernel_rfl) (by kernel_rfl) (by kernel_rfl) (by kernel_rfl) (by kernel_rfl) (by kernel_rfl) hs (AppendW.mono h (fun v94 w26 h => ?_))
                refine reg_run [.plain] 6 [(2, [], Value.pointer (some ⟨b_1, 0, none⟩)), (4, [], Value.pointer (some ⟨b_2, 0, none⟩)), (6, [], Value.func (.func 39) #[] #[Value.pointer (some ⟨b_2, 0, none⟩), Value.pointer (some ⟨b_3, 0, none⟩)]), (11, [], Value.pointer (some ⟨b_4, 0, none⟩)), (50, [], Value.int .u64 v38), (51, [], Value.int .u64 t51), (94, [], Value.slice v94.ptr v94.len v94.cap), (95, [], Value.pointer (some ⟨b_4, 1, none⟩))] (by kernel_rfl) (by kernel_rfl) ?_
                obtain ⟨hc, h⟩ := h
                refine reg_store (t := 25) (a := (Go.Operand.tmp 95)) (x := (Go.Operand.tmp 94)) (b := b_4) (o := 1) (ty := 0) (dst := none) [Value.slice v94.ptr v94.len v94.cap] (by kernel_rfl) (by kernel_rfl) (by kernel_rfl) (k := 1) (by kernel_rfl) (by kernel_rfl) (by kernel_rfl) hc (fun w27 hw => ?_)
                replace h := h w27 hw
                clear hw
                refine reg_end [(2, Value.pointer (some ⟨b_1, 0, none⟩)), (4, Value.pointer (some ⟨b_2, 0, none⟩)), (6, Value.func (.func 39) #[] #[Value.pointer (some ⟨b_2, 0, none⟩), Value.pointer (some ⟨b_3, 0, none⟩)]), (11, Value.pointer (some ⟨b_4, 0, none⟩)), (50, Value.int .u64 v38), (51, Value.int .u64 t51)] (by kernel_rfl) (by kernel_rfl) ?_
                change WpE _ _ c_record_Decode_123 _ _ _
                refine wpE_region (id := 31) (ops := r_record_Decode_123) (by kernel_rfl) ?_
                refine reg_run [.plain, .plain] 2 [(2, [], Value.pointer (some ⟨b_1, 0, none⟩)), (4, [], Value.pointer (some ⟨b_2, 0, none⟩)), (6, [], Value.func (.func 39) #[] #[Value.pointer (some ⟨b_2, 0, none⟩), Value.pointer (some ⟨b_3, 0, none⟩)]), (11, [], Value.pointer (some ⟨b_4, 0, none⟩)), (50, [], Value.int .u64 v38), (51, [], Value.int .u64 (IntKind.u64.wrap (t51 + 1)))] (by kernel_rfl) (by kernel_rfl) ?_
                refine reg_end [(2, Value.pointer (some ⟨b_1, 0, none⟩)), (4, Value.pointer (some ⟨b_2, 0, none⟩)), (6, Value.func (.func 39) #[] #[Value.pointer (some ⟨b_2, 0, none⟩), Value.pointer (some ⟨b_3, 0, none⟩)]), (11, Value.pointer (some ⟨b_4, 0, none⟩)), (50, Value.int .u64 v38), (51, Value.int .u64 (IntKind.u64.wrap (t51 + 1)))] (by kernel_rfl) (by kernel_rfl) ?_
                have hb_ := again__h _ _ h
                exact ⟨_, hb_.2, [(2, Value.pointer (some ⟨b_1, 0, none⟩)), (4, Value.pointer (some ⟨b_2, 0, none⟩)), (6, Value.func (.func 39) #[] #[Value.pointer (some ⟨b_2, 0, none⟩), Value.pointer (some ⟨b_3, 0, none⟩)]), (11, Value.pointer (some ⟨b_4, 0, none⟩)), (50, Value.int .u64 v38), (51, Value.int .u64 (IntKind.u64.wrap (t51 + 1)))], Sub.mk (by kernel_rfl), (IntKind.u64.wrap (t51 + 1)), rfl, hb_.1, rfl⟩
        · replace h := h.2 hb
          refine wpE_exit (id := 0) (by kernel_rfl) ?_
          change WpE _ _ c_record_Decode_125 _ _ _
          refine wpE_seq (x := c_record_Decode_126) (y := c_record_Decode_138) (by kernel_rfl) ?_
          refine wpE_seq (x := c_record_Decode_127) (y := c_record_Decode_129) (by kernel_rfl) ?_
          refine wpE_region (id := 32) (ops := r_record_Decode_127) (by kernel_rfl) ?_
          refine reg_run [] 0 [(2, [], Value.pointer (some ⟨b_1, 0, none⟩)), (4, [], Value.pointer (some ⟨b_2, 0, none⟩)), (11, [], Value.pointer (some ⟨b_4, 0, none⟩))] (by kernel_rfl) (by kernel_rfl) ?_
          obtain ⟨v97, hc, h⟩ := h
          refine reg_load1 (t := 81) (a := (Go.Operand.tmp 4)) (b := b_2) (o := 0) (ty := 81) (dst := some 97) (by kernel_rfl) (by kernel_rfl) (by kernel_rfl) hc ?_
          refine reg_run [] 1 [(2, [], Value.pointer (some ⟨b_1, 0, none⟩)), (11, [], Value.pointer (some ⟨b_4, 0, none⟩)), (97, [], Value.pointer v97)] (by kernel_rfl) (by kernel_rfl) ?_
          refine reg_enter (op := (Go.Op.call (Go.Call.mk (Go.Callee.value (Go.Operand.func 41)) #[(Go.Operand.tmp 97)] #[81]))) (ty := 28) (dst := some 98) 41 #[Value.pointer v97] (by kernel_rfl) (fun ww => by kernel_rfl) (Calls.mono h ?_)
          rintro _ w33 ⟨v98, rfl, h⟩
          refine ⟨_, rfl, ?_⟩
          refine reg_run [.plain] 3 [(2, [], Value.pointer (some ⟨b_1, 0, none⟩)), (11, [], Value.pointer (some ⟨b_4, 0, none⟩)), (17, [], Value.int .i64 v98)] (by kernel_rfl) (by kernel_rfl) ?_
          refine reg_end [(2, Value.pointer (some ⟨b_1, 0, none⟩)), (11, Value.pointer (some ⟨b_4, 0, none⟩)), (17, Value.int .i64 v98)] (by kernel_rfl) (by kernel_rfl) ?_
          change WpE _ _ c_record_Decode_129 _ _ _
          refine wpE_seq (x := c_record_Decode_130) (y := c_record_Decode_132) (by kernel_rfl) ?_
          refine wpE_region (id := 33) (ops := r_record_Decode_130) (by kernel_rfl) ?_
          refine reg_run [.plain, .plain] 2 [(2, [], Value.pointer (some ⟨b_1, 0, none⟩)), (11, [], Value.pointer (some ⟨b_4, 0, none⟩)), (17, [], Value.int .i64 v98), (100, [], Value.bool (v98 != 0))] (by kernel_rfl) (by kernel_rfl) ?_
          refine reg_end [(2, Value.pointer (some ⟨b_1, 0, none⟩)), (11, Value.pointer (some ⟨b_4, 0, none⟩)), (17, Value.int .i64 v98), (100, Value.bool (v98 != 0))] (by kernel_rfl) (by kernel_rfl) ?_
          change WpE _ _ c_record_Decode_132 _ _ _
          refine wpE_cond (o := (Operand.tmp 100)) (b := (v98 != 0)) (x := c_record_Decode_133) (y := c_record_Decode_137) (by kernel_rfl) (by kernel_rfl) (fun hb => ?_) (fun hb => ?_)
          · replace h := h.1 hb
            refine wpE_seq (x := c_record_Decode_134) (y := c_record_Decode_136) (by kernel_rfl) ?_
            refine wpE_region (id := 34) (ops := r_record_Decode_134) (by kernel_rfl) ?_
            refine reg_run [.plain, .plain] 2 [(2, [], Value.pointer (some ⟨b_1, 0, none⟩)), (101, [], Value.agg #[Value.int .i64 0, Value.slice none 0 0]), (102, [], Value.int .i64 v98)] (by kernel_rfl) (by kernel_rfl) ?_
            obtain ⟨hc, h⟩ := h
            refine reg_store (t := 27) (a := (Go.Operand.tmp 2)) (x := (Go.Operand.tmp 101)) (b := b_1) (o := 0) (ty := 0) (dst := none) [Value.int .i64 0, Value.slice none 0 0] (by kernel_rfl) (by kernel_rfl) (by kernel_rfl) (k := 2) (by kernel_rfl) (by kernel_rfl) (by kernel_rfl) hc (fun w34 hw => ?_)
            replace h := h w34 hw
            clear hw
            refine reg_run [.plain] 4 [(2, [], Value.pointer (some ⟨b_1, 0, none⟩)), (3, [], Value.int .i64 v98)] (by kernel_rfl) (by kernel_rfl) ?_
            refine reg_end [(2, Value.pointer (some ⟨b_1, 0, none⟩)), (3, Value.int .i64 v98)] (by kernel_rfl) (by kernel_rfl) ?_
            change WpE _ _ c_record_Decode_136 _ _ _
            refine wpE_ret (by kernel_rfl) ?_
            obtain ⟨res5, hc_res5, h⟩ := h
            repeat (first | refine seqQ_ret ?_ | refine blockQ_ret ?_ | refine loopQ_ret ?_ | refine cutQ_ret ?_)
            exact retT (rs := [(Go.ResultVar.cell 2 27), (Go.ResultVar.tmp 3)]) (vs := [Value.agg #[Value.int .i64 res5.Number, Value.slice res5.Writes.ptr res5.Writes.len res5.Writes.cap], Value.int .i64 v98]) (by kernel_rfl) (⟨b_1, 0, [Value.int .i64 res5.Number, Value.slice res5.Writes.ptr res5.Writes.len res5.Writes.cap], by kernel_rfl, hc_res5, (sizeP_of (k := 2) (by kernel_rfl) (by kernel_rfl)), .inl ⟨by kernel_rfl, rfl⟩, ⟨by kernel_rfl, trivial⟩⟩) (by kernel_rfl) ⟨res5, v98, rfl, h⟩
          · replace h := h.2 hb
            refine wpE_skip (by kernel_rfl) ?_
            change WpE _ _ c_record_Decode_138 _ _ _
            refine wpE_seq (x := c_record_Decode_139) (y := c_record_Decode_141) (by kernel_rfl) ?_
            refine wpE_region (id := 35) (ops := r_record_Decode_139) (by kernel_rfl) ?_
            refine reg_run [] 0 [(2, [], Value.pointer (some ⟨b_1, 0, none⟩)), (11, [], Value.pointer (some ⟨b_4, 0, none⟩))] (by kernel_rfl) (by kernel_rfl) ?_
            obtain ⟨v103, hc, h⟩ := h
            refine reg_loadN (t := 27) (a := (Go.Operand.tmp 11)) (b := b_4) (o := 0) (ty := 27) (dst := some 103) [Value.int .i64 v103.Number, Value.slice v103.Writes.ptr v103.Writes.len v103.Writes.cap] (by kernel_rfl) (by kernel_rfl) (by kernel_rfl) (k := 2) (by kernel_rfl) (by kernel_rfl) hc ?_
            refine reg_run [] 1 [(2, [], Value.pointer (some ⟨b_1, 0, none⟩)), (103, [], Value.agg #[Value.int .i64 v103.Number, Value.slice v103.Writes.ptr v103.Writes.len v103.Writes.cap])] (by kernel_rfl) (by kernel_rfl) ?_
            obtain ⟨hc, h⟩ := h
            refine reg_store (t := 27) (a := (Go.Operand.tmp 2)) (x := (Go.Operand.tmp 103)) (b := b_1) (o := 0) (ty := 0) (dst := none) [Value.int .i64 v103.Number, Value.slice v103.Writes.ptr v103.Writes.len v103.Writes.cap] (by kernel_rfl) (by kernel_rfl) (by kernel_rfl) (k := 2) (by kernel_rfl) (by kernel_rfl) (by kernel_rfl) hc (fun w35 hw => ?_)
            replace h := h w35 hw
            clear hw
            refine reg_run [.plain] 3 [(2, [], Value.pointer (some ⟨b_1, 0, none⟩)), (3, [], Value.int .i64 0)] (by kernel_rfl) (by kernel_rfl) ?_
            refine reg_end [(2, Value.pointer (some ⟨b_1, 0, none⟩)), (3, Value.int .i64 0)] (by kernel_rfl) (by kernel_rfl) ?_
            change WpE _ _ c_record_Decode_141 _ _ _
            refine wpE_ret (by kernel_rfl) ?_
            obtain ⟨res6, hc_res6, h⟩ := h
            repeat (first | refine seqQ_ret ?_ | refine blockQ_ret ?_ | refine loopQ_ret ?_ | refine cutQ_ret ?_)
            exact retT (rs := [(Go.ResultVar.cell 2 27), (Go.ResultVar.tmp 3)]) (vs := [Value.agg #[Value.int .i64 res6.Number, Value.slice res6.Writes.ptr res6.Writes.len res6.Writes.cap], Value.int .i64 0]) (by kernel_rfl) (⟨b_1, 0, [Value.int .i64 res6.Number, Value.slice res6.Writes.ptr res6.Writes.len res6.Writes.cap], by kernel_rfl, hc_res6, (sizeP_of (k := 2) (by kernel_rfl) (by kernel_rfl)), .inl ⟨by kernel_rfl, rfl⟩, ⟨by kernel_rfl, trivial⟩⟩) (by kernel_rfl) ⟨res6, 0, rfl, h⟩
  · rintro e w' ⟨v, rfl, r0, r1, rfl, h⟩; exact ⟨r0, r1, rfl, h⟩

/-! ### towpath/record.Check (function 24) -/
noncomputable def c_record_Check_0 : Code := (Try.f24.body).getD Code.skip
noncomputable def c_record_Check_1 : Code := Code.l c_record_Check_0
noncomputable def r_record_Check_1 : Array Oper := Code.ops c_record_Check_1
noncomputable def c_record_Check_3 : Code := Code.r c_record_Check_0
noncomputable def c_record_Check_4 : Code := Code.l c_record_Check_3
noncomputable def r_record_Check_4 : Array Oper := Code.ops c_record_Check_4
noncomputable def c_record_Check_6 : Code := Code.r c_record_Check_3
noncomputable def c_record_Check_7 : Code := Code.l c_record_Check_6
noncomputable def c_record_Check_8 : Code := Code.l c_record_Check_7
noncomputable def r_record_Check_8 : Array Oper := Code.ops c_record_Check_8
noncomputable def c_record_Check_10 : Code := Code.r c_record_Check_7
noncomputable def c_record_Check_11 : Code := Code.l c_record_Check_10
noncomputable def c_record_Check_12 : Code := Code.l c_record_Check_11
noncomputable def r_record_Check_12 : Array Oper := Code.ops c_record_Check_12
noncomputable def c_record_Check_14 : Code := Code.r c_record_Check_11
noncomputable def c_record_Check_15 : Code := Code.r c_record_Check_10
noncomputable def c_record_Check_16 : Code := Code.r c_record_Check_6
noncomputable def c_record_Check_17 : Code := Code.l c_record_Check_16
noncomputable def r_record_Check_17 : Array Oper := Code.ops c_record_Check_17
noncomputable def c_record_Check_19 : Code := Code.r c_record_Check_16

set_option maxRecDepth 100000 in
set_option maxHeartbeats 4000000 in
theorem S_record_Check {t_ : T_api_Txn} {w : World} {R : Int → World → Prop} (h : F_record_Check t_ R w) : C_record_Check t_ w R := by
  unfold F_record_Check at h
  unfold C_record_Check
  refine Calls.mono (calls_of_wpE (args := [Value.agg #[Value.int .i64 t_.Number, Value.slice t_.Writes.ptr t_.Writes.len t_.Writes.cap]]) (R := fun v w' => ∃ (r0 : Int), v = Value.int .i64 r0 ∧ R r0 w') Try.func24 (c := c_record_Check_0) (by kernel_rfl) 24 (by kernel_rfl) (by kernel_rfl) [(0, Value.agg #[Value.int .i64 t_.Number, Value.slice t_.Writes.ptr t_.Writes.len t_.Writes.cap])] (by kernel_rfl) ?_) ?_
  · refine wpE_seq (x := c_record_Check_1) (y := c_record_Check_3) (by kernel_rfl) ?_
    refine wpE_region (id := 0) (ops := r_record_Check_1) (by kernel_rfl) ?_
    refine reg_run [] 0 [(0, [], Value.agg #[Value.int .i64 t_.Number, Value.slice t_.Writes.ptr t_.Writes.len t_.Writes.cap])] (by kernel_rfl) (by kernel_rfl) ?_
    refine reg_new (op := (Go.Op.box 27 (Go.Operand.tmp 0))) (ty := 0) (dst := some 1) (fun bb => Value.pointer (some ⟨bb, 0, none⟩)) (Obj.cells ([Value.int .i64 t_.Number, Value.slice t_.Writes.ptr t_.Writes.len t_.Writes.cap]).toArray ty_api_Txn (0, 0)) (by kernel_rfl) (by kernel_rfl) (fun b_ w1 hb hw => ?_)
    replace h := h b_ w1 hb hw
    clear hb hw
    refine reg_run [.plain] 2 [(1, [], Value.pointer (some ⟨b_, 0, none⟩))] (by kernel_rfl) (by kernel_rfl) ?_
    refine reg_end [(1, Value.pointer (some ⟨b_, 0, none⟩))] (by kernel_rfl) (by kernel_rfl) ?_
    change WpE _ _ c_record_Check_3 _ _ _
    refine wpE_seq (x := c_record_Check_4) (y := c_record_Check_6) (by kernel_rfl) ?_
    refine wpE_region (id := 1) (ops := r_record_Check_4) (by kernel_rfl) ?_
    refine reg_run [.plain] 1 [(1, [], Value.pointer (some ⟨b_, 0, none⟩)), (3, [], Value.func (.func 62) #[] #[])] (by kernel_rfl) (by kernel_rfl) ?_
    refine reg_end [(1, Value.pointer (some ⟨b_, 0, none⟩)), (3, Value.func (.func 62) #[] #[])] (by kernel_rfl) (by kernel_rfl) ?_
    change WpE _ _ c_record_Check_6 _ _ _
    refine wpE_seq (x := c_record_Check_7) (y := c_record_Check_16) (by kernel_rfl) ?_
    refine wpE_seq_cut (x := c_record_Check_8) (y := c_record_Check_10) (by kernel_rfl) (fun l w => ∃ (t23 : Bool), l = [(23, Value.bool t23)] ∧ F_record_Check_k0 R t23 w) ?_ ?_
    · refine wpE_region (id := 2) (ops := r_record_Check_8) (by kernel_rfl) ?_
      refine reg_run [.plain] 1 [(1, [], Value.pointer (some ⟨b_, 0, none⟩)), (3, [], Value.func (.func 62) #[] #[]), (4, [], Value.pointer (some ⟨b_, 0, none⟩))] (by kernel_rfl) (by kernel_rfl) ?_
      obtain ⟨v5, hc, h⟩ := h
      refine reg_load1 (t := 3) (a := (Go.Operand.tmp 4)) (b := b_) (o := 0) (ty := 3) (dst := some 5) (by kernel_rfl) (by kernel_rfl) (by kernel_rfl) hc ?_
      refine reg_run [.plain, .plain, .plain] 5 [(1, [], Value.pointer (some ⟨b_, 0, none⟩)), (3, [], Value.func (.func 62) #[] #[]), (7, [], Value.bool (decide (v5 < 1))), (8, [(7, false)], Value.pointer (some ⟨b_, 0, none⟩))] (by kernel_rfl) (by kernel_rfl) ?_
      refine reg_split 7 (decide (v5 < 1)) (by kernel_rfl) (fun hb => ?_) (fun hb => ?_)
      · replace h := h.1 hb
        refine reg_run [] 5 [(1, [], Value.pointer (some ⟨b_, 0, none⟩)), (3, [], Value.func (.func 62) #[] #[]), (7, [], Value.bool true), (8, [], undef)] (by kernel_rfl) (by kernel_rfl) ?_
        refine reg_run [.skip, .skip, .plain, .plain, .skip, .skip, .skip, .skip, .plain, .plain, .skip, .skip, .skip, .skip, .plain] 20 [(23, [], Value.bool true)] (by kernel_rfl) (by kernel_rfl) ?_
        refine reg_end [(23, Value.bool true)] (by kernel_rfl) (by kernel_rfl) ?_
        exact ⟨[(23, Value.bool true)], Sub.mk (by kernel_rfl), true, rfl, h⟩
      · replace h := h.2 hb
        refine reg_run [] 5 [(1, [], Value.pointer (some ⟨b_, 0, none⟩)), (3, [], Value.func (.func 62) #[] #[]), (7, [], Value.bool false), (8, [], Value.pointer (some ⟨b_, 0, none⟩))] (by kernel_rfl) (by kernel_rfl) ?_
        refine reg_run [] 5 [(1, [], Value.pointer (some ⟨b_, 0, none⟩)), (3, [], Value.func (.func 62) #[] #[]), (7, [], Value.bool false), (8, [], Value.pointer (some ⟨b_, 0, none⟩))] (by kernel_rfl) (by kernel_rfl) ?_
        obtain ⟨v9, hc, h⟩ := h
        refine reg_load1 (t := 3) (a := (Go.Operand.tmp 8)) (b := b_) (o := 0) (ty := 3) (dst := some 9) (by kernel_rfl) (by kernel_rfl) (by kernel_rfl) hc ?_
        refine reg_run [.sure, .plain, .plain, .plain] 10 [(1, [], Value.pointer (some ⟨b_, 0, none⟩)), (3, [], Value.func (.func 62) #[] #[]), (12, [], Value.bool (decide (v9 > 65536))), (13, [(12, false)], Value.pointer (some ⟨b_, 1, none⟩))] (by kernel_rfl) (by kernel_rfl) ?_
        refine reg_split 12 (decide (v9 > 65536)) (by kernel_rfl) (fun hb => ?_) (fun hb => ?_)
        · replace h := h.1 hb
          refine reg_run [] 10 [(1, [], Value.pointer (some ⟨b_, 0, none⟩)), (3, [], Value.func (.func 62) #[] #[]), (12, [], Value.bool true), (13, [], undef)] (by kernel_rfl) (by kernel_rfl) ?_
          refine reg_run [.skip, .skip, .skip, .plain, .plain, .skip, .skip, .skip, .skip, .plain] 20 [(23, [], Value.bool true)] (by kernel_rfl) (by kernel_rfl) ?_
          refine reg_end [(23, Value.bool true)] (by kernel_rfl) (by kernel_rfl) ?_
          exact ⟨[(23, Value.bool true)], Sub.mk (by kernel_rfl), true, rfl, h⟩
        · replace h := h.2 hb
          refine reg_run [] 10 [(1, [], Value.pointer (some ⟨b_, 0, none⟩)), (3, [], Value.func (.func 62) #[] #[]), (12, [], Value.bool false), (13, [], Value.pointer (some ⟨b_, 1, none⟩))] (by kernel_rfl) (by kernel_rfl) ?_
          refine reg_run [] 10 [(1, [], Value.pointer (some ⟨b_, 0, none⟩)), (3, [], Value.func (.func 62) #[] #[]), (12, [], Value.bool false), (13, [], Value.pointer (some ⟨b_, 1, none⟩))] (by kernel_rfl) (by kernel_rfl) ?_
          obtain ⟨v14, hc, h⟩ := h
          refine reg_load1 (t := 25) (a := (Go.Operand.tmp 13)) (b := b_) (o := 1) (ty := 25) (dst := some 14) (by kernel_rfl) (by kernel_rfl) (by kernel_rfl) hc ?_
          refine reg_run [.sure, .sure, .plain, .plain, .plain] 16 [(3, [], Value.func (.func 62) #[] #[]), (18, [], Value.bool (decide (((v14.len : Nat) : Int) > 32))), (19, [(18, false)], Value.pointer (some ⟨b_, 1, none⟩))] (by kernel_rfl) (by kernel_rfl) ?_
          refine reg_split 18 (decide (((v14.len : Nat) : Int) > 32)) (by kernel_rfl) (fun hb => ?_) (fun hb => ?_)
          · replace h := h.1 hb
            refine reg_run [] 16 [(3, [], Value.func (.func 62) #[] #[]), (18, [], Value.bool true), (19, [], undef)] (by kernel_rfl) (by kernel_rfl) ?_
            refine reg_run [.skip, .skip, .skip, .plain] 20 [(23, [], Value.bool true)] (by kernel_rfl) (by kernel_rfl) ?_
            refine reg_end [(23, Value.bool true)] (by kernel_rfl) (by kernel_rfl) ?_
            exact ⟨[(23, Value.bool true)], Sub.mk (by kernel_rfl), true, rfl, h⟩
          · replace h := h.2 hb
            refine reg_run [] 16 [(3, [], Value.func (.func 62) #[] #[]), (18, [], Value.bool false), (19, [], Value.pointer (some ⟨b_, 1, none⟩))] (by kernel_rfl) (by kernel_rfl) ?_
            refine reg_run [] 16 [(3, [], Value.func (.func 62) #[] #[]), (18, [], Value.bool false), (19, [], Value.pointer (some ⟨b_, 1, none⟩))] (by kernel_rfl) (by kernel_rfl) ?_
            obtain ⟨v20, hc, h⟩ := h
            refine reg_load1 (t := 25) (a := (Go.Operand.tmp 19)) (b := b_) (o := 1) (ty := 25) (dst := some 20) (by kernel_rfl) (by kernel_rfl) (by kernel_rfl) hc ?_
            refine reg_run [.sure] 18 [(18, [], Value.bool false), (20, [], Value.slice v20.ptr v20.len v20.cap), (21, [], Value.func (.func 62) #[] #[])] (by kernel_rfl) (by kernel_rfl) ?_
            refine reg_enter (op := (Go.Op.call (Go.Call.mk (Go.Callee.value (Go.Operand.func 63)) #[(Go.Operand.tmp 20), (Go.Operand.tmp 21)] #[25, 108]))) (ty := 4) (dst := some 22) 63 #[Value.slice v20.ptr v20.len v20.cap, Value.func (.func 62) #[] #[]] (by kernel_rfl) (fun ww => by kernel_rfl) (Calls.mono h ?_)
            rintro _ w3 ⟨v22, rfl, h⟩
            refine ⟨_, rfl, ?_⟩
            refine reg_run [.plain] 20 [(23, [], Value.bool v22)] (by kernel_rfl) (by kernel_rfl) ?_
            refine reg_end [(23, Value.bool v22)] (by kernel_rfl) (by kernel_rfl) ?_
            exact ⟨[(23, Value.bool v22)], Sub.mk (by kernel_rfl), v22, rfl, h⟩
    · rintro _ w2 ⟨t23, rfl, h⟩
      unfold F_record_Check_k0 at h
      refine wpE_cond (o := (Operand.tmp 23)) (b := t23) (x := c_record_Check_11) (y := c_record_Check_15) (by kernel_rfl) (by kernel_rfl) (fun hb => ?_) (fun hb => ?_)
      · replace h := h.1 hb
        refine wpE_seq (x := c_record_Check_12) (y := c_record_Check_14) (by kernel_rfl) ?_
        refine wpE_region (id := 3) (ops := r_record_Check_12) (by kernel_rfl) ?_
        refine reg_run [.plain] 1 [(2, [], Value.int .i64 1)] (by kernel_rfl) (by kernel_rfl) ?_
        refine reg_end [(2, Value.int .i64 1)] (by kernel_rfl) (by kernel_rfl) ?_
        change WpE _ _ c_record_Check_14 _ _ _
        refine wpE_ret (by kernel_rfl) ?_
        repeat (first | refine seqQ_ret ?_ | refine blockQ_ret ?_ | refine loopQ_ret ?_ | refine cutQ_ret ?_)
        exact retS (rs := [(Go.ResultVar.tmp 2)]) (v := Value.int .i64 1) (by kernel_rfl) (⟨by kernel_rfl, trivial⟩) ⟨1, rfl, h⟩
      · replace h := h.2 hb
        refine wpE_skip (by kernel_rfl) ?_
        change WpE _ _ c_record_Check_16 _ _ _
        refine wpE_seq (x := c_record_Check_17) (y := c_record_Check_19) (by kernel_rfl) ?_
        refine wpE_region (id := 4) (ops := r_record_Check_17) (by kernel_rfl) ?_
        refine reg_run [.plain] 1 [(2, [], Value.int .i64 0)] (by kernel_rfl) (by kernel_rfl) ?_
        refine reg_end [(2, Value.int .i64 0)] (by kernel_rfl) (by kernel_rfl) ?_
        change WpE _ _ c_record_Check_19 _ _ _
        refine wpE_ret (by kernel_rfl) ?_
        repeat (first | refine seqQ_ret ?_ | refine blockQ_ret ?_ | refine loopQ_ret ?_ | refine cutQ_ret ?_)
        exact retS (rs := [(Go.ResultVar.tmp 2)]) (v := Value.int .i64 0) (by kernel_rfl) (⟨by kernel_rfl, trivial⟩) ⟨0, rfl, h⟩
  · rintro e w' ⟨v, rfl, r0, rfl, h⟩; exact ⟨r0, rfl, h⟩

/-! ### towpath/record.Encode (function 35) -/
noncomputable def c_record_Encode_0 : Code := (Try.f35.body).getD Code.skip
noncomputable def c_record_Encode_1 : Code := Code.l c_record_Encode_0
noncomputable def r_record_Encode_1 : Array Oper := Code.ops c_record_Encode_1
noncomputable def c_record_Encode_3 : Code := Code.r c_record_Encode_0
noncomputable def c_record_Encode_4 : Code := Code.l c_record_Encode_3
noncomputable def c_record_Encode_5 : Code := Code.l c_record_Encode_4
noncomputable def r_record_Encode_5 : Array Oper := Code.ops c_record_Encode_5
noncomputable def c_record_Encode_7 : Code := Code.r c_record_Encode_4
noncomputable def c_record_Encode_8 : Code := Code.l c_record_Encode_7
noncomputable def r_record_Encode_8 : Array Oper := Code.ops c_record_Encode_8
noncomputable def c_record_Encode_10 : Code := Code.r c_record_Encode_7
noncomputable def c_record_Encode_11 : Code := Code.l c_record_Encode_10
noncomputable def c_record_Encode_12 : Code := Code.l c_record_Encode_11
noncomputable def r_record_Encode_12 : Array Oper := Code.ops c_record_Encode_12
noncomputable def c_record_Encode_14 : Code := Code.r c_record_Encode_11
noncomputable def c_record_Encode_15 : Code := Code.r c_record_Encode_10
noncomputable def c_record_Encode_16 : Code := Code.r c_record_Encode_3
noncomputable def c_record_Encode_17 : Code := Code.l c_record_Encode_16
noncomputable def r_record_Encode_17 : Array Oper := Code.ops c_record_Encode_17
noncomputable def c_record_Encode_19 : Code := Code.r c_record_Encode_16
noncomputable def c_record_Encode_20 : Code := Code.l c_record_Encode_19
noncomputable def r_record_Encode_20 : Array Oper := Code.ops c_record_Encode_20
noncomputable def c_record_Encode_22 : Code := Code.r c_record_Encode_19
noncomputable def c_record_Encode_23 : Code := Code.l c_record_Encode_22
noncomputable def r_record_Encode_23 : Array Oper := Code.ops c_record_Encode_23
noncomputable def c_record_Encode_25 : Code := Code.r c_record_Encode_22
noncomputable def c_record_Encode_26 : Code := Code.l c_record_Encode_25
noncomputable def c_record_Encode_27 : Code := Code.l c_record_Encode_26
noncomputable def r_record_Encode_27 : Array Oper := Code.ops c_record_Encode_27
noncomputable def c_record_Encode_29 : Code := Code.r c_record_Encode_26
noncomputable def c_record_Encode_30 : Code := Code.l c_record_Encode_29
noncomputable def c_record_Encode_31 : Code := Code.l c_record_Encode_30
noncomputable def c_record_Encode_32 : Code := Code.l c_record_Encode_31
noncomputable def r_record_Encode_32 : Array Oper := Code.ops c_record_Encode_32
noncomputable def c_record_Encode_34 : Code := Code.r c_record_Encode_31
noncomputable def c_record_Encode_35 : Code := Code.l c_record_Encode_34
noncomputable def c_record_Encode_36 : Code := Code.l c_record_Encode_35
noncomputable def c_record_Encode_37 : Code := Code.r c_record_Encode_35
noncomputable def c_record_Encode_38 : Code := Code.r c_record_Encode_34
noncomputable def c_record_Encode_39 : Code := Code.l c_record_Encode_38
noncomputable def c_record_Encode_40 : Code := Code.l c_record_Encode_39
noncomputable def c_record_Encode_41 : Code := Code.l c_record_Encode_40
noncomputable def r_record_Encode_41 : Array Oper := Code.ops c_record_Encode_41
noncomputable def c_record_Encode_43 : Code := Code.r c_record_Encode_40
noncomputable def c_record_Encode_44 : Code := Code.l c_record_Encode_43
noncomputable def r_record_Encode_44 : Array Oper := Code.ops c_record_Encode_44
noncomputable def c_record_Encode_46 : Code := Code.r c_record_Encode_43
noncomputable def c_record_Encode_47 : Code := Code.l c_record_Encode_46
noncomputable def r_record_Encode_47 : Array Oper := Code.ops c_record_Encode_47
noncomputable def c_record_Encode_49 : Code := Code.r c_record_Encode_46
noncomputable def c_record_Encode_50 : Code := Code.l c_record_Encode_49
noncomputable def c_record_Encode_51 : Code := Code.l c_record_Encode_50
noncomputable def r_record_Encode_51 : Array Oper := Code.ops c_record_Encode_51
noncomputable def c_record_Encode_53 : Code := Code.r c_record_Encode_50
noncomputable def c_record_Encode_54 : Code := Code.l c_record_Encode_53
noncomputable def c_record_Encode_55 : Code := Code.l c_record_Encode_54
noncomputable def r_record_Encode_55 : Array Oper := Code.ops c_record_Encode_55
noncomputable def c_record_Encode_57 : Code := Code.r c_record_Encode_54
noncomputable def c_record_Encode_58 : Code := Code.r c_record_Encode_53
noncomputable def c_record_Encode_59 : Code := Code.r c_record_Encode_49
noncomputable def c_record_Encode_60 : Code := Code.l c_record_Encode_59
noncomputable def r_record_Encode_60 : Array Oper := Code.ops c_record_Encode_60
noncomputable def c_record_Encode_62 : Code := Code.r c_record_Encode_59
noncomputable def r_record_Encode_62 : Array Oper := Code.ops c_record_Encode_62
noncomputable def c_record_Encode_64 : Code := Code.r c_record_Encode_38
noncomputable def r_record_Encode_64 : Array Oper := Code.ops c_record_Encode_64
noncomputable def c_record_Encode_66 : Code := Code.r c_record_Encode_25
noncomputable def c_record_Encode_67 : Code := Code.l c_record_Encode_66
noncomputable def r_record_Encode_67 : Array Oper := Code.ops c_record_Encode_67
noncomputable def c_record_Encode_69 : Code := Code.r c_record_Encode_66

set_option maxRecDepth 100000 in
set_option maxHeartbeats 4000000 in
theorem S_record_Encode {t_ : T_api_Txn} {w : World} {R : Slc → Int → World → Prop} (h : F_record_Encode t_ R w) : C_record_Encode t_ w R := by
  unfold F_record_Encode at h
  unfold C_record_Encode
  refine Calls.mono (calls_of_wpE (args := [Value.agg #[Value.int .i64 t_.Number, Value.slice t_.Writes.ptr t_.Writes.len t_.Writes.cap]]) (R := fun v w' => ∃ (r0 : Slc) (r1 : Int), v = Value.tuple #[Value.slice r0.ptr r0.len r0.cap, Value.int .i64 r1] ∧ R r0 r1 w') Try.func35 (c := c_record_Encode_0) (by kernel_rfl) 53 (by kernel_rfl) (by kernel_rfl) [(0, Value.agg #[Value.int .i64 t_.Number, Value.slice t_.Writes.ptr t_.Writes.len t_.Writes.cap])] (by kernel_rfl) ?_) ?_
  · refine wpE_seq (x := c_record_Encode_1) (y := c_record_Encode_3) (by kernel_rfl) ?_
    refine wpE_region (id := 0) (ops := r_record_Encode_1) (by kernel_rfl) ?_
    refine reg_run [] 0 [(0, [], Value.agg #[Value.int .i64 t_.Number, Value.slice t_.Writes.ptr t_.Writes.len t_.Writes.cap])] (by kernel_rfl) (by kernel_rfl) ?_
    refine reg_new (op := (Go.Op.box 27 (Go.Operand.tmp 0))) (ty := 0) (dst := some 1) (fun bb => Value.pointer (some ⟨bb, 0, none⟩)) (Obj.cells ([Value.int .i64 t_.Number, Value.slice t_.Writes.ptr t_.Writes.len t_.Writes.cap]).toArray ty_api_Txn (0, 0)) (by kernel_rfl) (by kernel_rfl) (fun b_ w1 hb hw => ?_)
    replace h := h b_ w1 hb hw
    clear hb hw
    refine reg_run [.plain, .plain] 3 [(1, [], Value.pointer (some ⟨b_, 0, none⟩))] (by kernel_rfl) (by kernel_rfl) ?_
    refine reg_end [(1, Value.pointer (some ⟨b_, 0, none⟩))] (by kernel_rfl) (by kernel_rfl) ?_
    change WpE _ _ c_record_Encode_3 _ _ _
    refine wpE_seq (x := c_record_Encode_4) (y := c_record_Encode_16) (by kernel_rfl) ?_
    refine wpE_seq (x := c_record_Encode_5) (y := c_record_Encode_7) (by kernel_rfl) ?_
    refine wpE_region (id := 1) (ops := r_record_Encode_5) (by kernel_rfl) ?_
    refine reg_run [] 0 [(1, [], Value.pointer (some ⟨b_, 0, none⟩))] (by kernel_rfl) (by kernel_rfl) ?_
    obtain ⟨v8, hc, h⟩ := h
    refine reg_loadN (t := 27) (a := (Go.Operand.tmp 1)) (b := b_) (o := 0) (ty := 27) (dst := some 8) [Value.int .i64 v8.Number, Value.slice v8.Writes.ptr v8.Writes.len v8.Writes.cap] (by kernel_rfl) (by kernel_rfl) (by kernel_rfl) (k := 2) (by kernel_rfl) (by kernel_rfl) hc ?_
    refine reg_run [] 1 [(1, [], Value.pointer (some ⟨b_, 0, none⟩)), (8, [], Value.agg #[Value.int .i64 v8.Number, Value.slice v8.Writes.ptr v8.Writes.len v8.Writes.cap])] (by kernel_rfl) (by kernel_rfl) ?_
    refine reg_enter (op := (Go.Op.call (Go.Call.mk (Go.Callee.value (Go.Operand.func 24)) #[(Go.Operand.tmp 8)] #[27]))) (ty := 28) (dst := some 9) 24 #[Value.agg #[Value.int .i64 v8.Number, Value.slice v8.Writes.ptr v8.Writes.len v8.Writes.cap]] (by kernel_rfl) (fun ww => by kernel_rfl) (Calls.mono h ?_)
    rintro _ w2 ⟨v9, rfl, h⟩
    refine ⟨_, rfl, ?_⟩
    refine reg_run [.plain] 3 [(1, [], Value.pointer (some ⟨b_, 0, none⟩)), (4, [], Value.int .i64 v9)] (by kernel_rfl) (by kernel_rfl) ?_
    refine reg_end [(1, Value.pointer (some ⟨b_, 0, none⟩)), (4, Value.int .i64 v9)] (by kernel_rfl) (by kernel_rfl) ?_
    change WpE _ _ c_record_Encode_7 _ _ _
    refine wpE_seq (x := c_record_Encode_8) (y := c_record_Encode_10) (by kernel_rfl) ?_
    refine wpE_region (id := 2) (ops := r_record_Encode_8) (by kernel_rfl) ?_
    refine reg_run [.plain, .plain] 2 [(1, [], Value.pointer (some ⟨b_, 0, none⟩)), (4, [], Value.int .i64 v9), (11, [], Value.bool (v9 != 0))] (by kernel_rfl) (by kernel_rfl) ?_
    refine reg_end [(1, Value.pointer (some ⟨b_, 0, none⟩)), (4, Value.int .i64 v9), (11, Value.bool (v9 != 0))] (by kernel_rfl) (by kernel_rfl) ?_
    change WpE _ _ c_record_Encode_10 _ _ _
    refine wpE_cond (o := (Operand.tmp 11)) (b := (v9 != 0)) (x := c_record_Encode_11) (y := c_record_Encode_15) (by kernel_rfl) (by kernel_rfl) (fun hb => ?_) (fun hb => ?_)
    · replace h := h.1 hb
      refine wpE_seq (x := c_record_Encode_12) (y := c_record_Encode_14) (by kernel_rfl) ?_
      refine wpE_region (id := 3) (ops := r_record_Encode_12) (by kernel_rfl) ?_
      refine reg_run [.plain, .plain, .plain] 3 [(2, [], Value.slice none 0 0), (3, [], Value.int .i64 v9)] (by kernel_rfl) (by kernel_rfl) ?_
      refine reg_end [(2, Value.slice none 0 0), (3, Value.int .i64 v9)] (by kernel_rfl) (by kernel_rfl) ?_
      change WpE _ _ c_record_Encode_14 _ _ _
      refine wpE_ret (by kernel_rfl) ?_
      repeat (first | refine seqQ_ret ?_ | refine blockQ_ret ?_ | refine loopQ_ret ?_ | refine cutQ_ret ?_)
      exact retT (rs := [(Go.ResultVar.tmp 2), (Go.ResultVar.tmp 3)]) (vs := [Value.slice none 0 0, Value.int .i64 v9]) (by kernel_rfl) (⟨by kernel_rfl, ⟨by kernel_rfl, trivial⟩⟩) (by kernel_rfl) ⟨(Slc.mk none 0 0), v9, rfl, h⟩
    · replace h := h.2 hb
      refine wpE_skip (by kernel_rfl) ?_
      change WpE _ _ c_record_Encode_16 _ _ _
      refine wpE_seq (x := c_record_Encode_17) (y := c_record_Encode_19) (by kernel_rfl) ?_
      refine wpE_region (id := 4) (ops := r_record_Encode_17) (by kernel_rfl) ?_
      refine reg_run [] 0 [(1, [], Value.pointer (some ⟨b_, 0, none⟩))] (by kernel_rfl) (by kernel_rfl) ?_
      refine reg_enter (op := (Go.Op.call (Go.Call.mk (Go.Callee.value (Go.Operand.func 67)) #[] #[]))) (ty := 116) (dst := some 13) 67 #[] (by kernel_rfl) (fun ww => by kernel_rfl) (Calls.mono h ?_)
      rintro _ w3 ⟨v13, rfl, h⟩
      refine ⟨_, rfl, ?_⟩
      refine reg_run [.plain] 2 [(1, [], Value.pointer (some ⟨b_, 0, none⟩)), (5, [], Value.pointer v13)] (by kernel_rfl) (by kernel_rfl) ?_
      refine reg_end [(1, Value.pointer (some ⟨b_, 0, none⟩)), (5, Value.pointer v13)] (by kernel_rfl) (by kernel_rfl) ?_
      change WpE _ _ c_record_Encode_19 _ _ _
      refine wpE_seq (x := c_record_Encode_20) (y := c_record_Encode_22) (by kernel_rfl) ?_
      refine wpE_region (id := 5) (ops := r_record_Encode_20) (by kernel_rfl) ?_
      refine reg_run [.plain, .plain] 2 [(1, [], Value.pointer (some ⟨b_, 0, none⟩)), (5, [], Value.pointer v13), (14, [], Value.pointer v13), (15, [], Value.pointer (some ⟨b_, 0, none⟩))] (by kernel_rfl) (by kernel_rfl) ?_
      obtain ⟨v16, hc, h⟩ := h
      refine reg_load1 (t := 3) (a := (Go.Operand.tmp 15)) (b := b_) (o := 0) (ty := 3) (dst := some 16) (by kernel_rfl) (by kernel_rfl) (by kernel_rfl) hc ?_
      refine reg_run [.plain] 4 [(1, [], Value.pointer (some ⟨b_, 0, none⟩)), (5, [], Value.pointer v13), (14, [], Value.pointer v13), (17, [], Value.int .u64 (IntKind.u64.wrap v16))] (by kernel_rfl) (by kernel_rfl) ?_
      refine reg_enter (op := (Go.Op.call (Go.Call.mk (Go.Callee.value (Go.Operand.func 68)) #[(Go.Operand.tmp 14), (Go.Operand.tmp 17)] #[116, 84]))) (ty := 0) (dst := some 18) 68 #[Value.pointer v13, Value.int .u64 (IntKind.u64.wrap v16)] (by kernel_rfl) (fun ww => by kernel_rfl) (Calls.mono h ?_)
      rintro _ w4 ⟨rfl, h⟩
      refine ⟨_, rfl, ?_⟩
      refine reg_end [(1, Value.pointer (some ⟨b_, 0, none⟩)), (5, Value.pointer v13)] (by kernel_rfl) (by kernel_rfl) ?_
      change WpE _ _ c_record_Encode_22 _ _ _
      refine wpE_seq (x := c_record_Encode_23) (y := c_record_Encode_25) (by kernel_rfl) ?_
      refine wpE_region (id := 6) (ops := r_record_Encode_23) (by kernel_rfl) ?_
      refine reg_run [.plain, .plain] 2 [(1, [], Value.pointer (some ⟨b_, 0, none⟩)), (5, [], Value.pointer v13), (19, [], Value.pointer v13), (20, [], Value.pointer (some ⟨b_, 1, none⟩))] (by kernel_rfl) (by kernel_rfl) ?_
      obtain ⟨v21, hc, h⟩ := h
      refine reg_load1 (t := 25) (a := (Go.Operand.tmp 20)) (b := b_) (o := 1) (ty := 25) (dst := some 21) (by kernel_rfl) (by kernel_rfl) (by kernel_rfl) hc ?_
      refine reg_run [.plain, .plain] 5 [(1, [], Value.pointer (some ⟨b_, 0, none⟩)), (5, [], Value.pointer v13), (19, [], Value.pointer v13), (23, [], Value.int .u64 (IntKind.u64.wrap ((v21.len : Nat) : Int)))] (by kernel_rfl) (by kernel_rfl) ?_
      refine reg_enter (op := (Go.Op.call (Go.Call.mk (Go.Callee.value (Go.Operand.func 68)) #[(Go.Operand.tmp 19), (Go.Operand.tmp 23)] #[116, 84]))) (ty := 0) (dst := some 24) 68 #[Value.pointer v13, Value.int .u64 (IntKind.u64.wrap ((v21.len : Nat) : Int))] (by kernel_rfl) (fun ww => by kernel_rfl) (Calls.mono h ?_)
      rintro _ w5 ⟨rfl, h⟩
      refine ⟨_, rfl, ?_⟩
      refine reg_end [(1, Value.pointer (some ⟨b_, 0, none⟩)), (5, Value.pointer v13)] (by kernel_rfl) (by kernel_rfl) ?_
      change WpE _ _ c_record_Encode_25 _ _ _
      refine wpE_seq (x := c_record_Encode_26) (y := c_record_Encode_66) (by kernel_rfl) ?_
      refine wpE_seq (x := c_record_Encode_27) (y := c_record_Encode_29) (by kernel_rfl) ?_
      refine wpE_region (id := 7) (ops := r_record_Encode_27) (by kernel_rfl) ?_
      refine reg_run [.plain] 1 [(1, [], Value.pointer (some ⟨b_, 0, none⟩)), (5, [], Value.pointer v13), (25, [], Value.pointer (some ⟨b_, 1, none⟩))] (by kernel_rfl) (by kernel_rfl) ?_
      obtain ⟨v26, hc, h⟩ := h
      refine reg_load1 (t := 25) (a := (Go.Operand.tmp 25)) (b := b_) (o := 1) (ty := 25) (dst := some 26) (by kernel_rfl) (by kernel_rfl) (by kernel_rfl) hc ?_
      refine reg_run [.plain, .plain] 4 [(1, [], Value.pointer (some ⟨b_, 0, none⟩)), (5, [], Value.pointer v13), (27, [], Value.int .i64 ((v26.len : Nat) : Int)), (28, [], Value.int .i64 0)] (by kernel_rfl) (by kernel_rfl) ?_
      refine reg_end [(1, Value.pointer (some ⟨b_, 0, none⟩)), (5, Value.pointer v13), (27, Value.int .i64 ((v26.len : Nat) : Int)), (28, Value.int .i64 0)] (by kernel_rfl) (by kernel_rfl) ?_
      change WpE _ _ c_record_Encode_29 _ _ _
      refine wpE_block (id := 0) (x := c_record_Encode_30) (by kernel_rfl) ?_
      obtain ⟨I, μ, h0, hr⟩ := h
      refine wpE_loop (x := c_record_Encode_31) (by kernel_rfl) (fun m l w => ∃ (t28 : Int), l = [(1, Value.pointer (some ⟨b_, 0, none⟩)), (5, Value.pointer v13), (27, Value.int .i64 ((v26.len : Nat) : Int)), (28, Value.int .i64 t28)] ∧ I t28 w ∧ μ t28 w = m) (l' := [(1, Value.pointer (some ⟨b_, 0, none⟩)), (5, Value.pointer v13), (27, Value.int .i64 ((v26.len : Nat) : Int)), (28, Value.int .i64 0)]) (Sub.mk (by kernel_rfl)) ⟨0, rfl, h0, rfl⟩ ?_
      rintro _ _ w6 ⟨t28, rfl, hI, rfl⟩
      obtain ⟨again_, again__h, h⟩ : ∃ again_ : Int → World → Prop, (∀ t28' w', again_ t28' w' → I t28' w' ∧ μ t28' w' < μ t28 w6) ∧ F_record_Encode_L0 R b_ v13 v26 again_ t28 w6 := ⟨_, fun _ _ h => h, hr t28 w6 hI⟩
      clear h0 hI
      unfold F_record_Encode_L0 at h
      refine wpE_seq (x := c_record_Encode_32) (y := c_record_Encode_34) (by kernel_rfl) ?_
      refine wpE_region (id := 8) (ops := r_record_Encode_32) (by kernel_rfl) ?_
      refine reg_run [.plain] 1 [(1, [], Value.pointer (some ⟨b_, 0, none⟩)), (5, [], Value.pointer v13), (27, [], Value.int .i64 ((v26.len : Nat) : Int)), (28, [], Value.int .i64 t28), (29, [], Value.bool (decide (t28 < ((v26.len : Nat) : Int))))] (by kernel_rfl) (by kernel_rfl) ?_
      refine reg_end [(1, Value.pointer (some ⟨b_, 0, none⟩)), (5, Value.pointer v13), (27, Value.int .i64 ((v26.len : Nat) : Int)), (28, Value.int .i64 t28), (29, Value.bool (decide (t28 < ((v26.len : Nat) : Int))))] (by kernel_rfl) (by kernel_rfl) ?_
      change WpE _ _ c_record_Encode_34 _ _ _
      refine wpE_seq (x := c_record_Encode_35) (y := c_record_Encode_38) (by kernel_rfl) ?_
      refine wpE_cond (o := (Operand.tmp 29)) (b := (decide (t28 < ((v26.len : Nat) : Int)))) (x := c_record_Encode_36) (y := c_record_Encode_37) (by kernel_rfl) (by kernel_rfl) (fun hb => ?_) (fun hb => ?_)
      · replace h := h.1 hb
        refine wpE_skip (by kernel_rfl) ?_
        change WpE _ _ c_record_Encode_38 _ _ _
        refine wpE_seq_cut (x := c_record_Encode_39) (y := c_record_Encode_64) (by kernel_rfl) (fun l w => l = [(1, Value.pointer (some ⟨b_, 0, none⟩)), (5, Value.pointer v13), (27, Value.int .i64 ((v26.len : Nat) : Int)), (28, Value.int .i64 t28)] ∧ F_record_Encode_k1 t28 again_ w) ?_ ?_
        · refine wpE_block (id := 1) (x := c_record_Encode_40) (by kernel_rfl) ?_
          refine wpE_seq (x := c_record_Encode_41) (y := c_record_Encode_43) (by kernel_rfl) ?_
          refine wpE_region (id := 9) (ops := r_record_Encode_41) (by kernel_rfl) ?_
          refine reg_run [.plain, .plain] 2 [(1, [], Value.pointer (some ⟨b_, 0, none⟩)), (5, [], Value.pointer v13), (6, [], Value.int .i64 t28), (27, [], Value.int .i64 ((v26.len : Nat) : Int)), (28, [], Value.int .i64 t28)] (by kernel_rfl) (by kernel_rfl) ?_
          refine reg_end [(1, Value.pointer (some ⟨b_, 0, none⟩)), (5, Value.pointer v13), (6, Value.int .i64 t28), (27, Value.int .i64 ((v26.len : Nat) : Int)), (28, Value.int .i64 t28)] (by kernel_rfl) (by kernel_rfl) ?_
          change WpE _ _ c_record_Encode_43 _ _ _
          refine wpE_seq (x := c_record_Encode_44) (y := c_record_Encode_46) (by kernel_rfl) ?_
          refine wpE_region (id := 10) (ops := r_record_Encode_44) (by kernel_rfl) ?_
          refine reg_run [.plain] 1 [(1, [], Value.pointer (some ⟨b_, 0, none⟩)), (5, [], Value.pointer v13), (6, [], Value.int .i64 t28), (27, [], Value.int .i64 ((v26.len : Nat) : Int)), (28, [], Value.int .i64 t28), (31, [], Value.pointer (some ⟨b_, 1, none⟩))] (by kernel_rfl) (by kernel_rfl) ?_
          obtain ⟨v32, hc, h⟩ := h
          refine reg_load1 (t := 25) (a := (Go.Operand.tmp 31)) (b := b_) (o := 1) (ty := 25) (dst := some 32) (by kernel_rfl) (by kernel_rfl) (by kernel_rfl) hc ?_
          refine reg_run [.plain] 3 [(1, [], Value.pointer (some ⟨b_, 0, none⟩)), (5, [], Value.pointer v13), (27, [], Value.int .i64 ((v26.len : Nat) : Int)), (28, [], Value.int .i64 t28), (32, [], Value.slice v32.ptr v32.len v32.cap), (33, [], Value.int .i64 t28)] (by kernel_rfl) (by kernel_rfl) ?_
          obtain ⟨hp_7, h⟩ := h
          refine reg_conv [(1, [], Value.pointer (some ⟨b_, 0, none⟩)), (5, [], Value.pointer v13), (27, [], Value.int .i64 ((v26.len : Nat) : Int)), (28, [], Value.int .i64 t28), (32, [], Value.slice (some ⟨(pblk v32.ptr), (poff v32.ptr), none⟩) v32.len v32.cap), (33, [], Value.int .i64 t28)] (congrArg (fun pp => ([(1, [], Value.pointer (some ⟨b_, 0, none⟩)), (5, [], Value.pointer v13), (27, [], Value.int .i64 ((v26.len : Nat) : Int)), (28, [], Value.int .i64 t28), (32, [], Value.slice pp v32.len v32.cap), (33, [], Value.int .i64 t28)] : GEnv)) hp_7) ?_
          obtain ⟨h0, h1, h⟩ := h
          refine reg_indexS (t := 25) (e := 61) (x := (Go.Operand.tmp 32)) (ix := (Go.Operand.tmp 33)) (b := (pblk v32.ptr)) (o := (poff v32.ptr)) (l := v32.len) (c := v32.cap) (k := .i64) (j := t28) (ty := 0) (dst := some 34) (sz := 3) (by kernel_rfl) (by kernel_rfl) (by kernel_rfl) (by kernel_rfl) (by kernel_rfl) h0 h1 ?_
          refine reg_run [] 4 [(1, [], Value.pointer (some ⟨b_, 0, none⟩)), (5, [], Value.pointer v13), (27, [], Value.int .i64 ((v26.len : Nat) : Int)), (28, [], Value.int .i64 t28), (34, [], Value.pointer (some ⟨(pblk v32.ptr), (poff v32.ptr) + t28.toNat * 3, none⟩))] (by kernel_rfl) (by kernel_rfl) ?_
          obtain ⟨v35, hc, h⟩ := h
          refine reg_loadN (t := 61) (a := (Go.Operand.tmp 34)) (b := (pblk v32.ptr)) (o := ((poff v32.ptr) + t28.toNat * 3)) (ty := 61) (dst := some 35) [Value.string v35.Key, Value.string v35.Val, Value.bool v35.Drop] (by kernel_rfl) (by kernel_rfl) (by kernel_rfl) (k := 3) (by kernel_rfl) (by kernel_rfl) hc ?_
          refine reg_run [] 5 [(1, [], Value.pointer (some ⟨b_, 0, none⟩)), (5, [], Value.pointer v13), (27, [], Value.int .i64 ((v26.len : Nat) : Int)), (28, [], Value.int .i64 t28), (35, [], Value.agg #[Value.string v35.Key, Value.string v35.Val, Value.bool v35.Drop])] (by kernel_rfl) (by kernel_rfl) ?_
          refine reg_new (op := (Go.Op.alloc 61)) (ty := 0) (dst := some 7) (fun bb => Value.pointer (some ⟨bb, 0, none⟩)) (Obj.cells ([Value.string ByteArray.empty, Value.string ByteArray.empty, Value.bool false]).toArray ty_api_Write (0, 0)) (by kernel_rfl) (by kernel_rfl) (fun b_1 w8 hb hw => ?_)
          replace h := h b_1 w8 hb hw
          clear hb hw
          refine reg_run [] 6 [(1, [], Value.pointer (some ⟨b_, 0, none⟩)), (5, [], Value.pointer v13), (7, [], Value.pointer (some ⟨b_1, 0, none⟩)), (27, [], Value.int .i64 ((v26.len : Nat) : Int)), (28, [], Value.int .i64 t28), (35, [], Value.agg #[Value.string v35.Key, Value.string v35.Val, Value.bool v35.Drop])] (by kernel_rfl) (by kernel_rfl) ?_
          obtain ⟨hc, h⟩ := h
          refine reg_store (t := 61) (a := (Go.Operand.tmp 7)) (x := (Go.Operand.tmp 35)) (b := b_1) (o := 0) (ty := 0) (dst := none) [Value.string v35.Key, Value.string v35.Val, Value.bool v35.Drop] (by kernel_rfl) (by kernel_rfl) (by kernel_rfl) (k := 3) (by kernel_rfl) (by kernel_rfl) (by kernel_rfl) hc (fun w9 hw => ?_)
          replace h := h w9 hw
          clear hw
          refine reg_end [(1, Value.pointer (some ⟨b_, 0, none⟩)), (5, Value.pointer v13), (7, Value.pointer (some ⟨b_1, 0, none⟩)), (27, Value.int .i64 ((v26.len : Nat) : Int)), (28, Value.int .i64 t28)] (by kernel_rfl) (by kernel_rfl) ?_
          change WpE _ _ c_record_Encode_46 _ _ _
          refine wpE_seq (x := c_record_Encode_47) (y := c_record_Encode_49) (by kernel_rfl) ?_
          refine wpE_region (id := 11) (ops := r_record_Encode_47) (by kernel_rfl) ?_
          refine reg_run [.plain, .plain] 2 [(1, [], Value.pointer (some ⟨b_, 0, none⟩)), (5, [], Value.pointer v13), (7, [], Value.pointer (some ⟨b_1, 0, none⟩)), (27, [], Value.int .i64 ((v26.len : Nat) : Int)), (28, [], Value.int .i64 t28), (36, [], Value.pointer v13), (37, [], Value.pointer (some ⟨b_1, 0, none⟩))] (by kernel_rfl) (by kernel_rfl) ?_
          obtain ⟨v38, hc, h⟩ := h
          refine reg_load1 (t := 9) (a := (Go.Operand.tmp 37)) (b := b_1) (o := 0) (ty := 9) (dst := some 38) (by kernel_rfl) (by kernel_rfl) (by kernel_rfl) hc ?_
          refine reg_run [] 3 [(1, [], Value.pointer (some ⟨b_, 0, none⟩)), (5, [], Value.pointer v13), (7, [], Value.pointer (some ⟨b_1, 0, none⟩)), (27, [], Value.int .i64 ((v26.len : Nat) : Int)), (28, [], Value.int .i64 t28), (36, [], Value.pointer v13), (38, [], Value.string v38)] (by kernel_rfl) (by kernel_rfl) ?_
          refine reg_enter (op := (Go.Op.call (Go.Call.mk (Go.Callee.value (Go.Operand.func 69)) #[(Go.Operand.tmp 36), (Go.Operand.tmp 38)] #[116, 9]))) (ty := 0) (dst := some 39) 69 #[Value.pointer v13, Value.string v38] (by kernel_rfl) (fun ww => by kernel_rfl) (Calls.mono h ?_)
          rintro _ w10 ⟨rfl, h⟩
          refine ⟨_, rfl, ?_⟩
          refine reg_end [(1, Value.pointer (some ⟨b_, 0, none⟩)), (5, Value.pointer v13), (7, Value.pointer (some ⟨b_1, 0, none⟩)), (27, Value.int .i64 ((v26.len : Nat) : Int)), (28, Value.int .i64 t28)] (by kernel_rfl) (by kernel_rfl) ?_
          change WpE _ _ c_record_Encode_49 _ _ _
          refine wpE_seq (x := c_record_Encode_50) (y := c_record_Encode_59) (by kernel_rfl) ?_
          refine wpE_seq (x := c_record_Encode_51) (y := c_record_Encode_53) (by kernel_rfl) ?_
          refine wpE_region (id := 12) (ops := r_record_Encode_51) (by kernel_rfl) ?_
          refine reg_run [.plain] 1 [(1, [], Value.pointer (some ⟨b_, 0, none⟩)), (5, [], Value.pointer v13), (7, [], Value.pointer (some ⟨b_1, 0, none⟩)), (27, [], Value.int .i64 ((v26.len : Nat) : Int)), (28, [], Value.int .i64 t28), (40, [], Value.pointer (some ⟨b_1, 2, none⟩))] (by kernel_rfl) (by kernel_rfl) ?_
          obtain ⟨v41, hc, h⟩ := h
          refine reg_load1 (t := 4) (a := (Go.Operand.tmp 40)) (b := b_1) (o := 2) (ty := 4) (dst := some 41) (by kernel_rfl) (by kernel_rfl) (by kernel_rfl) hc ?_
          refine reg_end [(1, Value.pointer (some ⟨b_, 0, none⟩)), (5, Value.pointer v13), (7, Value.pointer (some ⟨b_1, 0, none⟩)), (27, Value.int .i64 ((v26.len : Nat) : Int)), (28, Value.int .i64 t28), (41, Value.bool v41)] (by kernel_rfl) (by kernel_rfl) ?_
          change WpE _ _ c_record_Encode_53 _ _ _
          refine wpE_cond (o := (Operand.tmp 41)) (b := v41) (x := c_record_Encode_54) (y := c_record_Encode_58) (by kernel_rfl) (by kernel_rfl) (fun hb => ?_) (fun hb => ?_)
          · replace h := h.1 hb
            refine wpE_seq (x := c_record_Encode_55) (y := c_record_Encode_57) (by kernel_rfl) ?_
            refine wpE_region (id := 13) (ops := r_record_Encode_55) (by kernel_rfl) ?_
            refine reg_run [.plain] 1 [(1, [], Value.pointer (some ⟨b_, 0, none⟩)), (5, [], Value.pointer v13), (27, [], Value.int .i64 ((v26.len : Nat) : Int)), (28, [], Value.int .i64 t28), (42, [], Value.pointer v13)] (by kernel_rfl) (by kernel_rfl) ?_
            refine reg_enter (op := (Go.Op.call (Go.Call.mk (Go.Callee.value (Go.Operand.func 70)) #[(Go.Operand.tmp 42), (Go.Operand.const (Go.Value.int Go.IntKind.u64 1)), (Go.Operand.const (Go.Value.int Go.IntKind.i64 1))] #[116, 84, 3]))) (ty := 28) (dst := some 43) 70 #[Value.pointer v13, Value.int .u64 1, Value.int .i64 1] (by kernel_rfl) (fun ww => by kernel_rfl) (Calls.mono h ?_)
            rintro _ w11 ⟨v43, rfl, h⟩
            refine ⟨_, rfl, ?_⟩
            refine reg_end [(1, Value.pointer (some ⟨b_, 0, none⟩)), (5, Value.pointer v13), (27, Value.int .i64 ((v26.len : Nat) : Int)), (28, Value.int .i64 t28)] (by kernel_rfl) (by kernel_rfl) ?_
            change WpE _ _ c_record_Encode_57 _ _ _
            refine wpE_exit (id := 1) (by kernel_rfl) ?_
            exact ⟨[(1, Value.pointer (some ⟨b_, 0, none⟩)), (5, Value.pointer v13), (27, Value.int .i64 ((v26.len : Nat) : Int)), (28, Value.int .i64 t28)], Sub.mk (by kernel_rfl), rfl, h⟩
          · replace h := h.2 hb
            refine wpE_skip (by kernel_rfl) ?_
            change WpE _ _ c_record_Encode_59 _ _ _
            refine wpE_seq (x := c_record_Encode_60) (y := c_record_Encode_62) (by kernel_rfl) ?_
            refine wpE_region (id := 14) (ops := r_record_Encode_60) (by kernel_rfl) ?_
            refine reg_run [.plain] 1 [(1, [], Value.pointer (some ⟨b_, 0, none⟩)), (5, [], Value.pointer v13), (7, [], Value.pointer (some ⟨b_1, 0, none⟩)), (27, [], Value.int .i64 ((v26.len : Nat) : Int)), (28, [], Value.int .i64 t28), (44, [], Value.pointer v13)] (by kernel_rfl) (by kernel_rfl) ?_
            refine reg_enter (op := (Go.Op.call (Go.Call.mk (Go.Callee.value (Go.Operand.func 70)) #[(Go.Operand.tmp 44), (Go.Operand.const (Go.Value.int Go.IntKind.u64 0)), (Go.Operand.const (Go.Value.int Go.IntKind.i64 1))] #[116, 84, 3]))) (ty := 28) (dst := some 45) 70 #[Value.pointer v13, Value.int .u64 0, Value.int .i64 1] (by kernel_rfl) (fun ww => by kernel_rfl) (Calls.mono h ?_)
            rintro _ w12 ⟨v45, rfl, h⟩
            refine ⟨_, rfl, ?_⟩
            refine reg_end [(1, Value.pointer (some ⟨b_, 0, none⟩)), (5, Value.pointer v13), (7, Value.pointer (some ⟨b_1, 0, none⟩)), (27, Value.int .i64 ((v26.len : Nat) : Int)), (28, Value.int .i64 t28)] (by kernel_rfl) (by kernel_rfl) ?_
            change WpE _ _ c_record_Encode_62 _ _ _
            refine wpE_region (id := 15) (ops := r_record_Encode_62) (by kernel_rfl) ?_
            refine reg_run [.plain, .plain] 2 [(1, [], Value.pointer (some ⟨b_, 0, none⟩)), (5, [], Value.pointer v13), (27, [], Value.int .i64 ((v26.len : Nat) : Int)), (28, [], Value.int .i64 t28), (46, [], Value.pointer v13), (47, [], Value.pointer (some ⟨b_1, 1, none⟩))] (by kernel_rfl) (by kernel_rfl) ?_
            obtain ⟨v48, hc, h⟩ := h
            refine reg_load1 (t := 9) (a := (Go.Operand.tmp 47)) (b := b_1) (o := 1) (ty := 9) (dst := some 48) (by kernel_rfl) (by kernel_rfl) (by kernel_rfl) hc ?_
            refine reg_run [] 3 [(1, [], Value.pointer (some ⟨b_, 0, none⟩)), (5, [], Value.pointer v13), (27, [], Value.int .i64 ((v26.len : Nat) : Int)), (28, [], Value.int .i64 t28), (46, [], Value.pointer v13), (48, [], Value.string v48)] (by kernel_rfl) (by kernel_rfl) ?_
            refine reg_enter (op := (Go.Op.call (Go.Call.mk (Go.Callee.value (Go.Operand.func 69)) #[(Go.Operand.tmp 46), (Go.Operand.tmp 48)] #[116, 9]))) (ty := 0) (dst := some 49) 69 #[Value.pointer v13, Value.string v48] (by kernel_rfl) (fun ww => by kernel_rfl) (Calls.mono h ?_)
            rintro _ w13 ⟨rfl, h⟩
            refine ⟨_, rfl, ?_⟩
            refine reg_end [(1, Value.pointer (some ⟨b_, 0, none⟩)), (5, Value.pointer v13), (27, Value.int .i64 ((v26.len : Nat) : Int)), (28, Value.int .i64 t28)] (by kernel_rfl) (by kernel_rfl) ?_
            exact ⟨[(1, Value.pointer (some ⟨b_, 0, none⟩)), (5, Value.pointer v13), (27, Value.int .i64 ((v26.len : Nat) : Int)), (28, Value.int .i64 t28)], Sub.mk (by kernel_rfl), rfl, h⟩
        · rintro _ w7 ⟨rfl, h⟩
          unfold F_record_Encode_k1 at h
          refine wpE_region (id := 16) (ops := r_record_Encode_64) (by kernel_rfl) ?_
          refine reg_run [.plain, .plain] 2 [(1, [], Value.pointer (some ⟨b_, 0, none⟩)), (5, [], Value.pointer v13), (27, [], Value.int .i64 ((v26.len : Nat) : Int)), (28, [], Value.int .i64 (IntKind.i64.wrap (t28 + 1)))] (by kernel_rfl) (by kernel_rfl) ?_
          refine reg_end [(1, Value.pointer (some ⟨b_, 0, none⟩)), (5, Value.pointer v13), (27, Value.int .i64 ((v26.len : Nat) : Int)), (28, Value.int .i64 (IntKind.i64.wrap (t28 + 1)))] (by kernel_rfl) (by kernel_rfl) ?_
          have hb_ := again__h _ _ h
          exact ⟨_, hb_.2, [(1, Value.pointer (some ⟨b_, 0, none⟩)), (5, Value.pointer v13), (27, Value.int .i64 ((v26.len : Nat) : Int)), (28, Value.int .i64 (IntKind.i64.wrap (t28 + 1)))], Sub.mk (by kernel_rfl), (IntKind.i64.wrap (t28 + 1)), rfl, hb_.1, rfl⟩
      · replace h := h.2 hb
        refine wpE_exit (id := 0) (by kernel_rfl) ?_
        change WpE _ _ c_record_Encode_66 _ _ _
        refine wpE_seq (x := c_record_Encode_67) (y := c_record_Encode_69) (by kernel_rfl) ?_
        refine wpE_region (id := 17) (ops := r_record_Encode_67) (by kernel_rfl) ?_
        refine reg_run [.plain] 1 [(51, [], Value.pointer v13)] (by kernel_rfl) (by kernel_rfl) ?_
        refine reg_enter (op := (Go.Op.call (Go.Call.mk (Go.Callee.value (Go.Operand.func 71)) #[(Go.Operand.tmp 51)] #[116]))) (ty := 22) (dst := some 52) 71 #[Value.pointer v13] (by kernel_rfl) (fun ww => by kernel_rfl) (Calls.mono h ?_)
        rintro _ w14 ⟨v52, rfl, h⟩
        refine ⟨_, rfl, ?_⟩
        refine reg_run [.plain, .plain] 4 [(2, [], Value.slice v52.ptr v52.len v52.cap), (3, [], Value.int .i64 0)] (by kernel_rfl) (by kernel_rfl) ?_
        refine reg_end [(2, Value.slice v52.ptr v52.len v52.cap), (3, Value.int .i64 0)] (by kernel_rfl) (by kernel_rfl) ?_
        change WpE _ _ c_record_Encode_69 _ _ _
        refine wpE_ret (by kernel_rfl) ?_
        repeat (first | refine seqQ_ret ?_ | refine blockQ_ret ?_ | refine loopQ_ret ?_ | refine cutQ_ret ?_)
        exact retT (rs := [(Go.ResultVar.tmp 2), (Go.ResultVar.tmp 3)]) (vs := [Value.slice v52.ptr v52.len v52.cap, Value.int .i64 0]) (by kernel_rfl) (⟨by kernel_rfl, ⟨by kernel_rfl, trivial⟩⟩) (by kernel_rfl) ⟨v52, 0, rfl, h⟩
  · rintro e w' ⟨v, rfl, r0, r1, rfl, h⟩; exact ⟨r0, r1, rfl, h⟩

/-! ### towpath/record.Size (function 37) -/
noncomputable def c_record_Size_0 : Code := (Try.f37.body).getD Code.skip
noncomputable def c_record_Size_1 : Code := Code.l c_record_Size_0
noncomputable def r_record_Size_1 : Array Oper := Code.ops c_record_Size_1
noncomputable def c_record_Size_3 : Code := Code.r c_record_Size_0
noncomputable def c_record_Size_4 : Code := Code.l c_record_Size_3
noncomputable def r_record_Size_4 : Array Oper := Code.ops c_record_Size_4
noncomputable def c_record_Size_6 : Code := Code.r c_record_Size_3
noncomputable def c_record_Size_7 : Code := Code.l c_record_Size_6
noncomputable def r_record_Size_7 : Array Oper := Code.ops c_record_Size_7
noncomputable def c_record_Size_9 : Code := Code.r c_record_Size_6

set_option maxRecDepth 100000 in
set_option maxHeartbeats 4000000 in
theorem S_record_Size {t_ : T_api_Txn} {w : World} {R : Int → Int → World → Prop} (h : F_record_Size t_ R w) : C_record_Size t_ w R := by
  unfold F_record_Size at h
  unfold C_record_Size
  refine Calls.mono (calls_of_wpE (args := [Value.agg #[Value.int .i64 t_.Number, Value.slice t_.Writes.ptr t_.Writes.len t_.Writes.cap]]) (R := fun v w' => ∃ (r0 : Int) (r1 : Int), v = Value.tuple #[Value.int .i64 r0, Value.int .i64 r1] ∧ R r0 r1 w') Try.func37 (c := c_record_Size_0) (by kernel_rfl) 14 (by kernel_rfl) (by kernel_rfl) [(0, Value.agg #[Value.int .i64 t_.Number, Value.slice t_.Writes.ptr t_.Writes.len t_.Writes.cap])] (by kernel_rfl) ?_) ?_
  · refine wpE_seq (x := c_record_Size_1) (y := c_record_Size_3) (by kernel_rfl) ?_
    refine wpE_region (id := 0) (ops := r_record_Size_1) (by kernel_rfl) ?_
    refine reg_run [] 0 [(0, [], Value.agg #[Value.int .i64 t_.Number, Value.slice t_.Writes.ptr t_.Writes.len t_.Writes.cap])] (by kernel_rfl) (by kernel_rfl) ?_
    refine reg_new (op := (Go.Op.box 27 (Go.Operand.tmp 0))) (ty := 0) (dst := some 1) (fun bb => Value.pointer (some ⟨bb, 0, none⟩)) (Obj.cells ([Value.int .i64 t_.Number, Value.slice t_.Writes.ptr t_.Writes.len t_.Writes.cap]).toArray ty_api_Txn (0, 0)) (by kernel_rfl) (by kernel_rfl) (fun b_ w1 hb hw => ?_)
    replace h := h b_ w1 hb hw
    clear hb hw
    refine reg_run [.plain, .plain] 3 [(1, [], Value.pointer (some ⟨b_, 0, none⟩))] (by kernel_rfl) (by kernel_rfl) ?_
    refine reg_end [(1, Value.pointer (some ⟨b_, 0, none⟩))] (by kernel_rfl) (by kernel_rfl) ?_
    change WpE _ _ c_record_Size_3 _ _ _
    refine wpE_seq (x := c_record_Size_4) (y := c_record_Size_6) (by kernel_rfl) ?_
    refine wpE_region (id := 1) (ops := r_record_Size_4) (by kernel_rfl) ?_
    refine reg_run [] 0 [(1, [], Value.pointer (some ⟨b_, 0, none⟩))] (by kernel_rfl) (by kernel_rfl) ?_
    obtain ⟨v7, hc, h⟩ := h
    refine reg_loadN (t := 27) (a := (Go.Operand.tmp 1)) (b := b_) (o := 0) (ty := 27) (dst := some 7) [Value.int .i64 v7.Number, Value.slice v7.Writes.ptr v7.Writes.len v7.Writes.cap] (by kernel_rfl) (by kernel_rfl) (by kernel_rfl) (k := 2) (by kernel_rfl) (by kernel_rfl) hc ?_
    refine reg_run [] 1 [(7, [], Value.agg #[Value.int .i64 v7.Number, Value.slice v7.Writes.ptr v7.Writes.len v7.Writes.cap])] (by kernel_rfl) (by kernel_rfl) ?_
    refine reg_enter (op := (Go.Op.call (Go.Call.mk (Go.Callee.value (Go.Operand.func 35)) #[(Go.Operand.tmp 7)] #[27]))) (ty := 77) (dst := some 8) 35 #[Value.agg #[Value.int .i64 v7.Number, Value.slice v7.Writes.ptr v7.Writes.len v7.Writes.cap]] (by kernel_rfl) (fun ww => by kernel_rfl) (Calls.mono h ?_)
    rintro _ w2 ⟨b_1, e, rfl, h⟩
    refine ⟨_, rfl, ?_⟩
    refine reg_run [.plain, .plain, .plain, .plain, .plain] 7 [(4, [], Value.slice b_1.ptr b_1.len b_1.cap), (5, [], Value.int .i64 e)] (by kernel_rfl) (by kernel_rfl) ?_
    refine reg_end [(4, Value.slice b_1.ptr b_1.len b_1.cap), (5, Value.int .i64 e)] (by kernel_rfl) (by kernel_rfl) ?_
    change WpE _ _ c_record_Size_6 _ _ _
    refine wpE_seq (x := c_record_Size_7) (y := c_record_Size_9) (by kernel_rfl) ?_
    refine wpE_region (id := 2) (ops := r_record_Size_7) (by kernel_rfl) ?_
    refine reg_run [.plain, .plain, .plain, .plain, .plain] 5 [(2, [], Value.int .i64 ((b_1.len : Nat) : Int)), (3, [], Value.int .i64 e)] (by kernel_rfl) (by kernel_rfl) ?_
    refine reg_end [(2, Value.int .i64 ((b_1.len : Nat) : Int)), (3, Value.int .i64 e)] (by kernel_rfl) (by kernel_rfl) ?_
    change WpE _ _ c_record_Size_9 _ _ _
    refine wpE_ret (by kernel_rfl) ?_
    repeat (first | refine seqQ_ret ?_ | refine blockQ_ret ?_ | refine loopQ_ret ?_ | refine cutQ_ret ?_)
    exact retT (rs := [(Go.ResultVar.tmp 2), (Go.ResultVar.tmp 3)]) (vs := [Value.int .i64 ((b_1.len : Nat) : Int), Value.int .i64 e]) (by kernel_rfl) (⟨by kernel_rfl, ⟨by kernel_rfl, trivial⟩⟩) (by kernel_rfl) ⟨((b_1.len : Nat) : Int), e, rfl, h⟩
  · rintro e w' ⟨v, rfl, r0, r1, rfl, h⟩; exact ⟨r0, r1, rfl, h⟩

/-! ### towpath/record.Decode$1 (function 39) -/
noncomputable def c_record_Decode_1_0 : Code := (Try.f39.body).getD Code.skip
noncomputable def c_record_Decode_1_1 : Code := Code.l c_record_Decode_1_0
noncomputable def r_record_Decode_1_1 : Array Oper := Code.ops c_record_Decode_1_1
noncomputable def c_record_Decode_1_3 : Code := Code.r c_record_Decode_1_0
noncomputable def c_record_Decode_1_4 : Code := Code.l c_record_Decode_1_3
noncomputable def c_record_Decode_1_5 : Code := Code.l c_record_Decode_1_4
noncomputable def r_record_Decode_1_5 : Array Oper := Code.ops c_record_Decode_1_5
noncomputable def c_record_Decode_1_7 : Code := Code.r c_record_Decode_1_4
noncomputable def c_record_Decode_1_8 : Code := Code.l c_record_Decode_1_7
noncomputable def c_record_Decode_1_9 : Code := Code.l c_record_Decode_1_8
noncomputable def r_record_Decode_1_9 : Array Oper := Code.ops c_record_Decode_1_9
noncomputable def c_record_Decode_1_11 : Code := Code.r c_record_Decode_1_8
noncomputable def c_record_Decode_1_12 : Code := Code.r c_record_Decode_1_7
noncomputable def c_record_Decode_1_13 : Code := Code.r c_record_Decode_1_3
noncomputable def c_record_Decode_1_14 : Code := Code.l c_record_Decode_1_13
noncomputable def r_record_Decode_1_14 : Array Oper := Code.ops c_record_Decode_1_14
noncomputable def c_record_Decode_1_16 : Code := Code.r c_record_Decode_1_13
noncomputable def c_record_Decode_1_17 : Code := Code.l c_record_Decode_1_16
noncomputable def c_record_Decode_1_18 : Code := Code.l c_record_Decode_1_17
noncomputable def r_record_Decode_1_18 : Array Oper := Code.ops c_record_Decode_1_18
noncomputable def c_record_Decode_1_20 : Code := Code.r c_record_Decode_1_17
noncomputable def c_record_Decode_1_21 : Code := Code.l c_record_Decode_1_20
noncomputable def c_record_Decode_1_22 : Code := Code.l c_record_Decode_1_21
noncomputable def r_record_Decode_1_22 : Array Oper := Code.ops c_record_Decode_1_22
noncomputable def c_record_Decode_1_24 : Code := Code.r c_record_Decode_1_21
noncomputable def c_record_Decode_1_25 : Code := Code.r c_record_Decode_1_20
noncomputable def c_record_Decode_1_26 : Code := Code.r c_record_Decode_1_16
noncomputable def c_record_Decode_1_27 : Code := Code.l c_record_Decode_1_26
noncomputable def r_record_Decode_1_27 : Array Oper := Code.ops c_record_Decode_1_27
noncomputable def c_record_Decode_1_29 : Code := Code.r c_record_Decode_1_26
def o_record_Decode_1_5 : List Nat := [0, 2, 1, 3]

set_option maxRecDepth 100000 in
set_option maxHeartbeats 4000000 in
theorem S_record_Decode_1 {is : Bool} {e : Int} {t2 : Option Addr} {t3 : Option Addr} {w : World} {R : Int → World → Prop} (h : F_record_Decode_1 is e t2 t3 R w) : C_record_Decode_1 is e t2 t3 w R := by
  unfold F_record_Decode_1 at h
  unfold C_record_Decode_1
  refine Calls.mono (calls_of_wpE (args := [Value.bool is, Value.int .i64 e, Value.pointer t2, Value.pointer t3]) (R := fun v w' => ∃ (r0 : Int), v = Value.int .i64 r0 ∧ R r0 w') Try.func39 (c := c_record_Decode_1_0) (by kernel_rfl) 17 (by kernel_rfl) (by kernel_rfl) [(0, Value.bool is), (1, Value.int .i64 e), (2, Value.pointer t2), (3, Value.pointer t3)] (by kernel_rfl) ?_) ?_
  · refine wpE_seq (x := c_record_Decode_1_1) (y := c_record_Decode_1_3) (by kernel_rfl) ?_
    refine wpE_region (id := 0) (ops := r_record_Decode_1_1) (by kernel_rfl) ?_
    refine reg_run [.plain] 1 [(0, [], Value.bool is), (1, [], Value.int .i64 e), (2, [], Value.pointer t2), (3, [], Value.pointer t3)] (by kernel_rfl) (by kernel_rfl) ?_
    refine reg_end [(0, Value.bool is), (1, Value.int .i64 e), (2, Value.pointer t2), (3, Value.pointer t3)] (by kernel_rfl) (by kernel_rfl) ?_
    change WpE _ _ c_record_Decode_1_3 _ _ _
    refine wpE_seq (x := c_record_Decode_1_4) (y := c_record_Decode_1_13) (by kernel_rfl) ?_
    refine wpE_seq (x := c_record_Decode_1_5) (y := c_record_Decode_1_7) (by kernel_rfl) ?_
    refine wpE_mixregion (id := 1) (ops := r_record_Decode_1_5) o_record_Decode_1_5 (by kernel_rfl) (by kernel_rfl) (by kernel_rfl) (by kernel_rfl) (fun w1 hw => ?_)
    replace h := h w1 hw
    clear hw
    refine mreg_run [] 0 [(0, [], Value.bool is), (1, [], Value.int .i64 e), (2, [], Value.pointer t2), (3, [], Value.pointer t3)] (by kernel_rfl) (by kernel_rfl) ?_
    obtain ⟨hp_7, h⟩ := h
    refine mreg_conv [(0, [], Value.bool is), (1, [], Value.int .i64 e), (2, [], Value.pointer (some ⟨(pblk t2), (poff t2), none⟩)), (3, [], Value.pointer t3)] (congrArg (fun pp => ([(0, [], Value.bool is), (1, [], Value.int .i64 e), (2, [], Value.pointer pp), (3, [], Value.pointer t3)] : GEnv)) hp_7) ?_
    obtain ⟨v7, hc, h⟩ := h
    refine mreg_load1 (i := 0) (by kernel_rfl) (t := 81) (a := (Go.Operand.tmp 2)) (b := (pblk t2)) (o := (poff t2)) (ty := 81) (dst := some 7) (by kernel_rfl) (by kernel_rfl) (by kernel_rfl) hc ?_
    refine mreg_run [] 1 [(0, [], Value.bool is), (1, [], Value.int .i64 e), (2, [], Value.pointer (some ⟨(pblk t2), (poff t2), none⟩)), (3, [], Value.pointer t3), (7, [], Value.pointer v7)] (by kernel_rfl) (by kernel_rfl) ?_
    obtain ⟨hp_8, h⟩ := h
    refine mreg_conv [(0, [], Value.bool is), (1, [], Value.int .i64 e), (2, [], Value.pointer (some ⟨(pblk t2), (poff t2), none⟩)), (3, [], Value.pointer (some ⟨(pblk t3), (poff t3), none⟩)), (7, [], Value.pointer v7)] (congrArg (fun pp => ([(0, [], Value.bool is), (1, [], Value.int .i64 e), (2, [], Value.pointer (some ⟨(pblk t2), (poff t2), none⟩)), (3, [], Value.pointer pp), (7, [], Value.pointer v7)] : GEnv)) hp_8) ?_
    obtain ⟨v9, hc, h⟩ := h
    refine mreg_load1 (i := 2) (by kernel_rfl) (t := 3) (a := (Go.Operand.tmp 3)) (b := (pblk t3)) (o := (poff t3)) (ty := 3) (dst := some 9) (by kernel_rfl) (by kernel_rfl) (by kernel_rfl) hc ?_
    refine mreg_run [] 2 [(0, [], Value.bool is), (1, [], Value.int .i64 e), (2, [], Value.pointer (some ⟨(pblk t2), (poff t2), none⟩)), (3, [], Value.pointer (some ⟨(pblk t3), (poff t3), none⟩)), (7, [], Value.pointer v7), (9, [], Value.int .i64 v9)] (by kernel_rfl) (by kernel_rfl) ?_
    refine mreg_enter (op := (Go.Op.call (Go.Call.mk (Go.Callee.value (Go.Operand.func 40)) #[(Go.Operand.tmp 7)] #[81]))) (ty := 3) (dst := some 8) 1 [0] [(2, fun w' => w'.cell? ⟨(pblk t3), (poff t3), none⟩ = some (Value.int .i64 v9))] 40 #[Value.pointer v7] (by kernel_rfl) (by kernel_rfl) (by kernel_rfl) (by kernel_rfl) (by kernel_rfl) (fun ww => by kernel_rfl) (Calls.mono h ?_)
    rintro _ w2 ⟨v8, rfl, h⟩
    obtain ⟨hk0, h⟩ := h
    refine ⟨_, rfl, ⟨hk0, trivial⟩, ?_⟩
    refine mreg_run [.plain] 4 [(0, [], Value.bool is), (1, [], Value.int .i64 e), (2, [], Value.pointer (some ⟨(pblk t2), (poff t2), none⟩)), (3, [], Value.pointer (some ⟨(pblk t3), (poff t3), none⟩)), (10, [], Value.bool (v8 == v9))] (by kernel_rfl) (by kernel_rfl) ?_
    refine mreg_conv [(0, [], Value.bool is), (1, [], Value.int .i64 e), (2, [], Value.pointer t2), (3, [], Value.pointer (some ⟨(pblk t3), (poff t3), none⟩)), (10, [], Value.bool (v8 == v9))] (congrArg (fun pp => ([(0, [], Value.bool is), (1, [], Value.int .i64 e), (2, [], Value.pointer pp), (3, [], Value.pointer (some ⟨(pblk t3), (poff t3), none⟩)), (10, [], Value.bool (v8 == v9))] : GEnv)) hp_7.symm) ?_
    refine mreg_conv [(0, [], Value.bool is), (1, [], Value.int .i64 e), (2, [], Value.pointer t2), (3, [], Value.pointer t3), (10, [], Value.bool (v8 == v9))] (congrArg (fun pp => ([(0, [], Value.bool is), (1, [], Value.int .i64 e), (2, [], Value.pointer t2), (3, [], Value.pointer pp), (10, [], Value.bool (v8 == v9))] : GEnv)) hp_8.symm) ?_
    refine mreg_end [(0, Value.bool is), (1, Value.int .i64 e), (2, Value.pointer t2), (3, Value.pointer t3), (10, Value.bool (v8 == v9))] (by kernel_rfl) (by kernel_rfl) (by kernel_rfl) ?_
    change WpE _ _ c_record_Decode_1_7 _ _ _
    refine wpE_cond (o := (Operand.tmp 10)) (b := (v8 == v9)) (x := c_record_Decode_1_8) (y := c_record_Decode_1_12) (by kernel_rfl) (by kernel_rfl) (fun hb => ?_) (fun hb => ?_)
    · replace h := h.1 hb
      refine wpE_seq (x := c_record_Decode_1_9) (y := c_record_Decode_1_11) (by kernel_rfl) ?_
      refine wpE_region (id := 2) (ops := r_record_Decode_1_9) (by kernel_rfl) ?_
      refine reg_run [] 0 [(2, [], Value.pointer t2)] (by kernel_rfl) (by kernel_rfl) ?_
      obtain ⟨hp_9, h⟩ := h
      refine reg_conv [(2, [], Value.pointer (some ⟨(pblk t2), (poff t2), none⟩))] (congrArg (fun pp => ([(2, [], Value.pointer pp)] : GEnv)) hp_9) ?_
      obtain ⟨v11, hc, h⟩ := h
      refine reg_load1 (t := 81) (a := (Go.Operand.tmp 2)) (b := (pblk t2)) (o := (poff t2)) (ty := 81) (dst := some 11) (by kernel_rfl) (by kernel_rfl) (by kernel_rfl) hc ?_
      refine reg_run [] 1 [(11, [], Value.pointer v11)] (by kernel_rfl) (by kernel_rfl) ?_
      refine reg_enter (op := (Go.Op.call (Go.Call.mk (Go.Callee.value (Go.Operand.func 41)) #[(Go.Operand.tmp 11)] #[81]))) (ty := 28) (dst := some 12) 41 #[Value.pointer v11] (by kernel_rfl) (fun ww => by kernel_rfl) (Calls.mono h ?_)
      rintro _ w3 ⟨v12, rfl, h⟩
      refine ⟨_, rfl, ?_⟩
      refine reg_run [.plain] 3 [(6, [], Value.int .i64 v12)] (by kernel_rfl) (by kernel_rfl) ?_
      refine reg_end [(6, Value.int .i64 v12)] (by kernel_rfl) (by kernel_rfl) ?_
      change WpE _ _ c_record_Decode_1_11 _ _ _
      refine wpE_ret (by kernel_rfl) ?_
      repeat (first | refine seqQ_ret ?_ | refine blockQ_ret ?_ | refine loopQ_ret ?_ | refine cutQ_ret ?_)
      exact retS (rs := [(Go.ResultVar.tmp 6)]) (v := Value.int .i64 v12) (by kernel_rfl) (⟨by kernel_rfl, trivial⟩) ⟨v12, rfl, h⟩
    · replace h := h.2 hb
      refine wpE_skip (by kernel_rfl) ?_
      change WpE _ _ c_record_Decode_1_13 _ _ _
      refine wpE_seq (x := c_record_Decode_1_14) (y := c_record_Decode_1_16) (by kernel_rfl) ?_
      refine wpE_region (id := 3) (ops := r_record_Decode_1_14) (by kernel_rfl) ?_
      refine reg_run [] 0 [(0, [], Value.bool is), (1, [], Value.int .i64 e), (2, [], Value.pointer t2), (3, [], Value.pointer t3)] (by kernel_rfl) (by kernel_rfl) ?_
      obtain ⟨hp_12, h⟩ := h
      refine reg_conv [(0, [], Value.bool is), (1, [], Value.int .i64 e), (2, [], Value.pointer (some ⟨(pblk t2), (poff t2), none⟩)), (3, [], Value.pointer t3)] (congrArg (fun pp => ([(0, [], Value.bool is), (1, [], Value.int .i64 e), (2, [], Value.pointer pp), (3, [], Value.pointer t3)] : GEnv)) hp_12) ?_
      obtain ⟨v13, hc, h⟩ := h
      refine reg_load1 (t := 81) (a := (Go.Operand.tmp 2)) (b := (pblk t2)) (o := (poff t2)) (ty := 81) (dst := some 13) (by kernel_rfl) (by kernel_rfl) (by kernel_rfl) hc ?_
      refine reg_run [] 1 [(0, [], Value.bool is), (1, [], Value.int .i64 e), (3, [], Value.pointer t3), (13, [], Value.pointer v13)] (by kernel_rfl) (by kernel_rfl) ?_
      refine reg_enter (op := (Go.Op.call (Go.Call.mk (Go.Callee.value (Go.Operand.func 40)) #[(Go.Operand.tmp 13)] #[81]))) (ty := 3) (dst := some 14) 40 #[Value.pointer v13] (by kernel_rfl) (fun ww => by kernel_rfl) (Calls.mono h ?_)
      rintro _ w4 ⟨v14, rfl, h⟩
      refine ⟨_, rfl, ?_⟩
      refine reg_run [] 2 [(0, [], Value.bool is), (1, [], Value.int .i64 e), (3, [], Value.pointer t3), (14, [], Value.int .i64 v14)] (by kernel_rfl) (by kernel_rfl) ?_
      obtain ⟨hp_13, h⟩ := h
      refine reg_conv [(0, [], Value.bool is), (1, [], Value.int .i64 e), (3, [], Value.pointer (some ⟨(pblk t3), (poff t3), none⟩)), (14, [], Value.int .i64 v14)] (congrArg (fun pp => ([(0, [], Value.bool is), (1, [], Value.int .i64 e), (3, [], Value.pointer pp), (14, [], Value.int .i64 v14)] : GEnv)) hp_13) ?_
      obtain ⟨hc, h⟩ := h
      refine reg_store (t := 3) (a := (Go.Operand.tmp 3)) (x := (Go.Operand.tmp 14)) (b := (pblk t3)) (o := (poff t3)) (ty := 0) (dst := none) [Value.int .i64 v14] (by kernel_rfl) (by kernel_rfl) (by kernel_rfl) (k := 1) (by kernel_rfl) (by kernel_rfl) (by kernel_rfl) hc (fun w5 hw => ?_)
      replace h := h w5 hw
      clear hw
      refine reg_end [(0, Value.bool is), (1, Value.int .i64 e)] (by kernel_rfl) (by kernel_rfl) ?_
      change WpE _ _ c_record_Decode_1_16 _ _ _
      refine wpE_seq (x := c_record_Decode_1_17) (y := c_record_Decode_1_26) (by kernel_rfl) ?_
      refine wpE_seq (x := c_record_Decode_1_18) (y := c_record_Decode_1_20) (by kernel_rfl) ?_
      refine wpE_region (id := 4) (ops := r_record_Decode_1_18) (by kernel_rfl) ?_
      refine reg_run [.plain] 1 [(1, [], Value.int .i64 e), (15, [], Value.bool is)] (by kernel_rfl) (by kernel_rfl) ?_
      refine reg_end [(1, Value.int .i64 e), (15, Value.bool is)] (by kernel_rfl) (by kernel_rfl) ?_
      change WpE _ _ c_record_Decode_1_20 _ _ _
      refine wpE_cond (o := (Operand.tmp 15)) (b := is) (x := c_record_Decode_1_21) (y := c_record_Decode_1_25) (by kernel_rfl) (by kernel_rfl) (fun hb => ?_) (fun hb => ?_)
      · replace h := h.1 hb
        refine wpE_seq (x := c_record_Decode_1_22) (y := c_record_Decode_1_24) (by kernel_rfl) ?_
        refine wpE_region (id := 5) (ops := r_record_Decode_1_22) (by kernel_rfl) ?_
        refine reg_run [.plain, .plain] 2 [(6, [], Value.int .i64 e)] (by kernel_rfl) (by kernel_rfl) ?_
        refine reg_end [(6, Value.int .i64 e)] (by kernel_rfl) (by kernel_rfl) ?_
        change WpE _ _ c_record_Decode_1_24 _ _ _
        refine wpE_ret (by kernel_rfl) ?_
        repeat (first | refine seqQ_ret ?_ | refine blockQ_ret ?_ | refine loopQ_ret ?_ | refine cutQ_ret ?_)
        exact retS (rs := [(Go.ResultVar.tmp 6)]) (v := Value.int .i64 e) (by kernel_rfl) (⟨by kernel_rfl, trivial⟩) ⟨e, rfl, h⟩
      · replace h := h.2 hb
        refine wpE_skip (by kernel_rfl) ?_
        change WpE _ _ c_record_Decode_1_26 _ _ _
        refine wpE_seq (x := c_record_Decode_1_27) (y := c_record_Decode_1_29) (by kernel_rfl) ?_
        refine wpE_region (id := 6) (ops := r_record_Decode_1_27) (by kernel_rfl) ?_
        refine reg_run [.plain] 1 [(6, [], Value.int .i64 0)] (by kernel_rfl) (by kernel_rfl) ?_
        refine reg_end [(6, Value.int .i64 0)] (by kernel_rfl) (by kernel_rfl) ?_
        change WpE _ _ c_record_Decode_1_29 _ _ _
        refine wpE_ret (by kernel_rfl) ?_
        repeat (first | refine seqQ_ret ?_ | refine blockQ_ret ?_ | refine loopQ_ret ?_ | refine cutQ_ret ?_)
        exact retS (rs := [(Go.ResultVar.tmp 6)]) (v := Value.int .i64 0) (by kernel_rfl) (⟨by kernel_rfl, trivial⟩) ⟨0, rfl, h⟩
  · rintro e w' ⟨v, rfl, r0, rfl, h⟩; exact ⟨r0, rfl, h⟩
end Go.Proofs.Ytfmkemmgakdddaa
