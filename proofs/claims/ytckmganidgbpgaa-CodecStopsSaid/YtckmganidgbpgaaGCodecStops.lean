/- WRITTEN BY PROGRAM (dec.py): for each Go function the clean formula F, the call's contract C, and the proof S that F gives C. -/
import Derived.Test.YtckmganidgbpgaaRows
import Derived.Test.YtckmganidgbpgaaGF
namespace Go.Proofs.Ytckmganidgbpgaa
open Go
set_option linter.unusedVariables false

/-! ### towpath/towpathlaw02.CodecStops (function 10) -/
noncomputable def c_towpathlaw02_CodecStops_0 : Code := (Try.f10.body).getD Code.skip
noncomputable def c_towpathlaw02_CodecStops_1 : Code := Code.l c_towpathlaw02_CodecStops_0
noncomputable def r_towpathlaw02_CodecStops_1 : Array Oper := Code.ops c_towpathlaw02_CodecStops_1
noncomputable def c_towpathlaw02_CodecStops_3 : Code := Code.r c_towpathlaw02_CodecStops_0
noncomputable def c_towpathlaw02_CodecStops_4 : Code := Code.l c_towpathlaw02_CodecStops_3
noncomputable def c_towpathlaw02_CodecStops_5 : Code := Code.l c_towpathlaw02_CodecStops_4
noncomputable def r_towpathlaw02_CodecStops_5 : Array Oper := Code.ops c_towpathlaw02_CodecStops_5
noncomputable def c_towpathlaw02_CodecStops_7 : Code := Code.r c_towpathlaw02_CodecStops_4
noncomputable def c_towpathlaw02_CodecStops_8 : Code := Code.l c_towpathlaw02_CodecStops_7
noncomputable def c_towpathlaw02_CodecStops_9 : Code := Code.l c_towpathlaw02_CodecStops_8
noncomputable def r_towpathlaw02_CodecStops_9 : Array Oper := Code.ops c_towpathlaw02_CodecStops_9
noncomputable def c_towpathlaw02_CodecStops_11 : Code := Code.r c_towpathlaw02_CodecStops_8
noncomputable def c_towpathlaw02_CodecStops_12 : Code := Code.r c_towpathlaw02_CodecStops_7
noncomputable def c_towpathlaw02_CodecStops_13 : Code := Code.r c_towpathlaw02_CodecStops_3
noncomputable def c_towpathlaw02_CodecStops_14 : Code := Code.l c_towpathlaw02_CodecStops_13
noncomputable def r_towpathlaw02_CodecStops_14 : Array Oper := Code.ops c_towpathlaw02_CodecStops_14
noncomputable def c_towpathlaw02_CodecStops_16 : Code := Code.r c_towpathlaw02_CodecStops_13
noncomputable def c_towpathlaw02_CodecStops_17 : Code := Code.l c_towpathlaw02_CodecStops_16
noncomputable def c_towpathlaw02_CodecStops_18 : Code := Code.l c_towpathlaw02_CodecStops_17
noncomputable def c_towpathlaw02_CodecStops_19 : Code := Code.l c_towpathlaw02_CodecStops_18
noncomputable def c_towpathlaw02_CodecStops_20 : Code := Code.l c_towpathlaw02_CodecStops_19
noncomputable def c_towpathlaw02_CodecStops_21 : Code := Code.l c_towpathlaw02_CodecStops_20
noncomputable def r_towpathlaw02_CodecStops_21 : Array Oper := Code.ops c_towpathlaw02_CodecStops_21
noncomputable def c_towpathlaw02_CodecStops_23 : Code := Code.r c_towpathlaw02_CodecStops_20
noncomputable def c_towpathlaw02_CodecStops_24 : Code := Code.l c_towpathlaw02_CodecStops_23
noncomputable def c_towpathlaw02_CodecStops_25 : Code := Code.r c_towpathlaw02_CodecStops_23
noncomputable def c_towpathlaw02_CodecStops_26 : Code := Code.r c_towpathlaw02_CodecStops_19
noncomputable def c_towpathlaw02_CodecStops_27 : Code := Code.l c_towpathlaw02_CodecStops_26
noncomputable def c_towpathlaw02_CodecStops_28 : Code := Code.l c_towpathlaw02_CodecStops_27
noncomputable def r_towpathlaw02_CodecStops_28 : Array Oper := Code.ops c_towpathlaw02_CodecStops_28
noncomputable def c_towpathlaw02_CodecStops_30 : Code := Code.r c_towpathlaw02_CodecStops_27
noncomputable def c_towpathlaw02_CodecStops_31 : Code := Code.l c_towpathlaw02_CodecStops_30
noncomputable def r_towpathlaw02_CodecStops_31 : Array Oper := Code.ops c_towpathlaw02_CodecStops_31
noncomputable def c_towpathlaw02_CodecStops_33 : Code := Code.r c_towpathlaw02_CodecStops_30
noncomputable def c_towpathlaw02_CodecStops_34 : Code := Code.l c_towpathlaw02_CodecStops_33
noncomputable def r_towpathlaw02_CodecStops_34 : Array Oper := Code.ops c_towpathlaw02_CodecStops_34
noncomputable def c_towpathlaw02_CodecStops_36 : Code := Code.r c_towpathlaw02_CodecStops_33
noncomputable def c_towpathlaw02_CodecStops_37 : Code := Code.l c_towpathlaw02_CodecStops_36
noncomputable def c_towpathlaw02_CodecStops_38 : Code := Code.r c_towpathlaw02_CodecStops_36
noncomputable def c_towpathlaw02_CodecStops_39 : Code := Code.r c_towpathlaw02_CodecStops_16
noncomputable def c_towpathlaw02_CodecStops_40 : Code := Code.l c_towpathlaw02_CodecStops_39
noncomputable def c_towpathlaw02_CodecStops_41 : Code := Code.l c_towpathlaw02_CodecStops_40
noncomputable def r_towpathlaw02_CodecStops_41 : Array Oper := Code.ops c_towpathlaw02_CodecStops_41
noncomputable def c_towpathlaw02_CodecStops_43 : Code := Code.r c_towpathlaw02_CodecStops_40
noncomputable def c_towpathlaw02_CodecStops_44 : Code := Code.l c_towpathlaw02_CodecStops_43
noncomputable def r_towpathlaw02_CodecStops_44 : Array Oper := Code.ops c_towpathlaw02_CodecStops_44
noncomputable def c_towpathlaw02_CodecStops_46 : Code := Code.r c_towpathlaw02_CodecStops_43
noncomputable def c_towpathlaw02_CodecStops_47 : Code := Code.r c_towpathlaw02_CodecStops_39
noncomputable def c_towpathlaw02_CodecStops_48 : Code := Code.l c_towpathlaw02_CodecStops_47
noncomputable def r_towpathlaw02_CodecStops_48 : Array Oper := Code.ops c_towpathlaw02_CodecStops_48
noncomputable def c_towpathlaw02_CodecStops_50 : Code := Code.r c_towpathlaw02_CodecStops_47
noncomputable def c_towpathlaw02_CodecStops_51 : Code := Code.l c_towpathlaw02_CodecStops_50
noncomputable def c_towpathlaw02_CodecStops_52 : Code := Code.l c_towpathlaw02_CodecStops_51
noncomputable def r_towpathlaw02_CodecStops_52 : Array Oper := Code.ops c_towpathlaw02_CodecStops_52
noncomputable def c_towpathlaw02_CodecStops_54 : Code := Code.r c_towpathlaw02_CodecStops_51
noncomputable def c_towpathlaw02_CodecStops_55 : Code := Code.l c_towpathlaw02_CodecStops_54
noncomputable def c_towpathlaw02_CodecStops_56 : Code := Code.l c_towpathlaw02_CodecStops_55
noncomputable def r_towpathlaw02_CodecStops_56 : Array Oper := Code.ops c_towpathlaw02_CodecStops_56
noncomputable def c_towpathlaw02_CodecStops_58 : Code := Code.r c_towpathlaw02_CodecStops_55
noncomputable def c_towpathlaw02_CodecStops_59 : Code := Code.r c_towpathlaw02_CodecStops_54
noncomputable def c_towpathlaw02_CodecStops_60 : Code := Code.r c_towpathlaw02_CodecStops_50
noncomputable def c_towpathlaw02_CodecStops_61 : Code := Code.l c_towpathlaw02_CodecStops_60
noncomputable def c_towpathlaw02_CodecStops_62 : Code := Code.l c_towpathlaw02_CodecStops_61
noncomputable def r_towpathlaw02_CodecStops_62 : Array Oper := Code.ops c_towpathlaw02_CodecStops_62
noncomputable def c_towpathlaw02_CodecStops_64 : Code := Code.r c_towpathlaw02_CodecStops_61
noncomputable def c_towpathlaw02_CodecStops_65 : Code := Code.l c_towpathlaw02_CodecStops_64
noncomputable def c_towpathlaw02_CodecStops_66 : Code := Code.l c_towpathlaw02_CodecStops_65
noncomputable def c_towpathlaw02_CodecStops_67 : Code := Code.l c_towpathlaw02_CodecStops_66
noncomputable def c_towpathlaw02_CodecStops_68 : Code := Code.l c_towpathlaw02_CodecStops_67
noncomputable def r_towpathlaw02_CodecStops_68 : Array Oper := Code.ops c_towpathlaw02_CodecStops_68
noncomputable def c_towpathlaw02_CodecStops_70 : Code := Code.r c_towpathlaw02_CodecStops_67
noncomputable def c_towpathlaw02_CodecStops_71 : Code := Code.l c_towpathlaw02_CodecStops_70
noncomputable def c_towpathlaw02_CodecStops_72 : Code := Code.r c_towpathlaw02_CodecStops_70
noncomputable def c_towpathlaw02_CodecStops_73 : Code := Code.r c_towpathlaw02_CodecStops_66
noncomputable def c_towpathlaw02_CodecStops_74 : Code := Code.l c_towpathlaw02_CodecStops_73
noncomputable def c_towpathlaw02_CodecStops_75 : Code := Code.l c_towpathlaw02_CodecStops_74
noncomputable def c_towpathlaw02_CodecStops_76 : Code := Code.l c_towpathlaw02_CodecStops_75
noncomputable def r_towpathlaw02_CodecStops_76 : Array Oper := Code.ops c_towpathlaw02_CodecStops_76
noncomputable def c_towpathlaw02_CodecStops_78 : Code := Code.r c_towpathlaw02_CodecStops_75
noncomputable def c_towpathlaw02_CodecStops_79 : Code := Code.l c_towpathlaw02_CodecStops_78
noncomputable def r_towpathlaw02_CodecStops_79 : Array Oper := Code.ops c_towpathlaw02_CodecStops_79
noncomputable def c_towpathlaw02_CodecStops_81 : Code := Code.r c_towpathlaw02_CodecStops_78
noncomputable def c_towpathlaw02_CodecStops_82 : Code := Code.l c_towpathlaw02_CodecStops_81
noncomputable def c_towpathlaw02_CodecStops_83 : Code := Code.l c_towpathlaw02_CodecStops_82
noncomputable def r_towpathlaw02_CodecStops_83 : Array Oper := Code.ops c_towpathlaw02_CodecStops_83
noncomputable def c_towpathlaw02_CodecStops_85 : Code := Code.r c_towpathlaw02_CodecStops_82
noncomputable def c_towpathlaw02_CodecStops_86 : Code := Code.l c_towpathlaw02_CodecStops_85
noncomputable def c_towpathlaw02_CodecStops_87 : Code := Code.l c_towpathlaw02_CodecStops_86
noncomputable def r_towpathlaw02_CodecStops_87 : Array Oper := Code.ops c_towpathlaw02_CodecStops_87
noncomputable def c_towpathlaw02_CodecStops_89 : Code := Code.r c_towpathlaw02_CodecStops_86
noncomputable def c_towpathlaw02_CodecStops_90 : Code := Code.l c_towpathlaw02_CodecStops_89
noncomputable def r_towpathlaw02_CodecStops_90 : Array Oper := Code.ops c_towpathlaw02_CodecStops_90
noncomputable def c_towpathlaw02_CodecStops_92 : Code := Code.r c_towpathlaw02_CodecStops_89
noncomputable def c_towpathlaw02_CodecStops_93 : Code := Code.l c_towpathlaw02_CodecStops_92
noncomputable def r_towpathlaw02_CodecStops_93 : Array Oper := Code.ops c_towpathlaw02_CodecStops_93
noncomputable def c_towpathlaw02_CodecStops_95 : Code := Code.r c_towpathlaw02_CodecStops_92
noncomputable def c_towpathlaw02_CodecStops_96 : Code := Code.l c_towpathlaw02_CodecStops_95
noncomputable def r_towpathlaw02_CodecStops_96 : Array Oper := Code.ops c_towpathlaw02_CodecStops_96
noncomputable def c_towpathlaw02_CodecStops_98 : Code := Code.r c_towpathlaw02_CodecStops_95
noncomputable def c_towpathlaw02_CodecStops_99 : Code := Code.l c_towpathlaw02_CodecStops_98
noncomputable def r_towpathlaw02_CodecStops_99 : Array Oper := Code.ops c_towpathlaw02_CodecStops_99
noncomputable def c_towpathlaw02_CodecStops_101 : Code := Code.r c_towpathlaw02_CodecStops_98
noncomputable def c_towpathlaw02_CodecStops_102 : Code := Code.l c_towpathlaw02_CodecStops_101
noncomputable def r_towpathlaw02_CodecStops_102 : Array Oper := Code.ops c_towpathlaw02_CodecStops_102
noncomputable def c_towpathlaw02_CodecStops_104 : Code := Code.r c_towpathlaw02_CodecStops_101
noncomputable def r_towpathlaw02_CodecStops_104 : Array Oper := Code.ops c_towpathlaw02_CodecStops_104
noncomputable def c_towpathlaw02_CodecStops_106 : Code := Code.r c_towpathlaw02_CodecStops_81
noncomputable def c_towpathlaw02_CodecStops_107 : Code := Code.l c_towpathlaw02_CodecStops_106
noncomputable def r_towpathlaw02_CodecStops_107 : Array Oper := Code.ops c_towpathlaw02_CodecStops_107
noncomputable def c_towpathlaw02_CodecStops_109 : Code := Code.r c_towpathlaw02_CodecStops_106
noncomputable def c_towpathlaw02_CodecStops_110 : Code := Code.l c_towpathlaw02_CodecStops_109
noncomputable def c_towpathlaw02_CodecStops_111 : Code := Code.l c_towpathlaw02_CodecStops_110
noncomputable def r_towpathlaw02_CodecStops_111 : Array Oper := Code.ops c_towpathlaw02_CodecStops_111
noncomputable def c_towpathlaw02_CodecStops_113 : Code := Code.r c_towpathlaw02_CodecStops_110
noncomputable def c_towpathlaw02_CodecStops_114 : Code := Code.r c_towpathlaw02_CodecStops_109
noncomputable def c_towpathlaw02_CodecStops_115 : Code := Code.r c_towpathlaw02_CodecStops_73
noncomputable def r_towpathlaw02_CodecStops_115 : Array Oper := Code.ops c_towpathlaw02_CodecStops_115
noncomputable def c_towpathlaw02_CodecStops_117 : Code := Code.r c_towpathlaw02_CodecStops_60
noncomputable def c_towpathlaw02_CodecStops_118 : Code := Code.l c_towpathlaw02_CodecStops_117
noncomputable def r_towpathlaw02_CodecStops_118 : Array Oper := Code.ops c_towpathlaw02_CodecStops_118
noncomputable def c_towpathlaw02_CodecStops_120 : Code := Code.r c_towpathlaw02_CodecStops_117

set_option maxRecDepth 100000 in
set_option maxHeartbeats 4000000 in
theorem S_towpathlaw02_CodecStops {b_ : Slc} {script : Slc} {w : World} {R : Bool → World → Prop} (h : F_towpathlaw02_CodecStops b_ script R w) : C_towpathlaw02_CodecStops b_ script w R := by
  unfold F_towpathlaw02_CodecStops at h
  unfold C_towpathlaw02_CodecStops
  refine Calls.mono (calls_of_wpE (args := [Value.slice b_.ptr b_.len b_.cap, Value.slice script.ptr script.len script.cap]) (R := fun v w' => ∃ (r0 : Bool), v = Value.bool r0 ∧ R r0 w') Try.func10 (c := c_towpathlaw02_CodecStops_0) (by kernel_rfl) 97 (by kernel_rfl) (by kernel_rfl) [(0, Value.slice b_.ptr b_.len b_.cap), (1, Value.slice script.ptr script.len script.cap)] (by kernel_rfl) ?_) ?_
  · refine wpE_seq (x := c_towpathlaw02_CodecStops_1) (y := c_towpathlaw02_CodecStops_3) (by kernel_rfl) ?_
    refine wpE_region (id := 0) (ops := r_towpathlaw02_CodecStops_1) (by kernel_rfl) ?_
    refine reg_run [.plain] 1 [(0, [], Value.slice b_.ptr b_.len b_.cap), (1, [], Value.slice script.ptr script.len script.cap)] (by kernel_rfl) (by kernel_rfl) ?_
    refine reg_end [(0, Value.slice b_.ptr b_.len b_.cap), (1, Value.slice script.ptr script.len script.cap)] (by kernel_rfl) (by kernel_rfl) ?_
    change WpE _ _ c_towpathlaw02_CodecStops_3 _ _ _
    refine wpE_seq (x := c_towpathlaw02_CodecStops_4) (y := c_towpathlaw02_CodecStops_13) (by kernel_rfl) ?_
    refine wpE_seq_cut (x := c_towpathlaw02_CodecStops_5) (y := c_towpathlaw02_CodecStops_7) (by kernel_rfl) (fun l w => ∃ (t23 : Bool), l = [(0, Value.slice b_.ptr b_.len b_.cap), (1, Value.slice script.ptr script.len script.cap), (23, Value.bool t23)] ∧ F_towpathlaw02_CodecStops_k0 b_ script R t23 w) ?_ ?_
    · refine wpE_region (id := 1) (ops := r_towpathlaw02_CodecStops_5) (by kernel_rfl) ?_
      refine reg_run [] 0 [(0, [], Value.slice b_.ptr b_.len b_.cap), (1, [], Value.slice script.ptr script.len script.cap)] (by kernel_rfl) (by kernel_rfl) ?_
      refine reg_enter (op := (Go.Op.call (Go.Call.mk (Go.Callee.value (Go.Operand.func 36)) #[] #[]))) (ty := 4) (dst := some 12) 36 #[] (by kernel_rfl) (fun ww => by kernel_rfl) (Calls.mono h ?_)
      rintro _ w26 ⟨v12, rfl, h⟩
      refine ⟨_, rfl, ?_⟩
      refine reg_run [.plain, .plain, .plain] 4 [(0, [], Value.slice b_.ptr b_.len b_.cap), (1, [], Value.slice script.ptr script.len script.cap), (14, [], Value.bool (!v12)), (15, [(14, false)], Value.slice script.ptr script.len script.cap)] (by kernel_rfl) (by kernel_rfl) ?_
      refine reg_split 14 (!v12) (by kernel_rfl) (fun hb => ?_) (fun hb => ?_)
      · replace h := h.1 hb
        refine reg_run [] 4 [(0, [], Value.slice b_.ptr b_.len b_.cap), (1, [], Value.slice script.ptr script.len script.cap), (14, [], Value.bool true), (15, [], undef)] (by kernel_rfl) (by kernel_rfl) ?_
        refine reg_run [.skip, .plain, .plain, .skip, .skip, .skip, .skip, .plain] 12 [(0, [], Value.slice b_.ptr b_.len b_.cap), (1, [], Value.slice script.ptr script.len script.cap), (23, [], Value.bool true)] (by kernel_rfl) (by kernel_rfl) ?_
        refine reg_end [(0, Value.slice b_.ptr b_.len b_.cap), (1, Value.slice script.ptr script.len script.cap), (23, Value.bool true)] (by kernel_rfl) (by kernel_rfl) ?_
        exact ⟨[(0, Value.slice b_.ptr b_.len b_.cap), (1, Value.slice script.ptr script.len script.cap), (23, Value.bool true)], Sub.mk (by kernel_rfl), true, rfl, h⟩
      · replace h := h.2 hb
        refine reg_run [] 4 [(0, [], Value.slice b_.ptr b_.len b_.cap), (1, [], Value.slice script.ptr script.len script.cap), (14, [], Value.bool false), (15, [], Value.slice script.ptr script.len script.cap)] (by kernel_rfl) (by kernel_rfl) ?_
        refine reg_run [] 4 [(0, [], Value.slice b_.ptr b_.len b_.cap), (1, [], Value.slice script.ptr script.len script.cap), (14, [], Value.bool false), (15, [], Value.slice script.ptr script.len script.cap)] (by kernel_rfl) (by kernel_rfl) ?_
        refine reg_enter (op := (Go.Op.call (Go.Call.mk (Go.Callee.value (Go.Operand.func 11)) #[(Go.Operand.tmp 15)] #[23]))) (ty := 4) (dst := some 16) 11 #[Value.slice script.ptr script.len script.cap] (by kernel_rfl) (fun ww => by kernel_rfl) (Calls.mono h ?_)
        rintro _ w27 ⟨v16, rfl, h⟩
        refine ⟨_, rfl, ?_⟩
        refine reg_run [.plain, .plain, .plain, .plain] 9 [(0, [], Value.slice b_.ptr b_.len b_.cap), (1, [], Value.slice script.ptr script.len script.cap), (18, [], Value.bool v16), (20, [(18, false)], Value.int .i64 ((b_.len : Nat) : Int))] (by kernel_rfl) (by kernel_rfl) ?_
        refine reg_split 18 v16 (by kernel_rfl) (fun hb => ?_) (fun hb => ?_)
        · replace h := h.1 hb
          refine reg_run [] 9 [(0, [], Value.slice b_.ptr b_.len b_.cap), (1, [], Value.slice script.ptr script.len script.cap), (18, [], Value.bool true), (20, [], undef)] (by kernel_rfl) (by kernel_rfl) ?_
          refine reg_run [.skip, .skip, .plain] 12 [(0, [], Value.slice b_.ptr b_.len b_.cap), (1, [], Value.slice script.ptr script.len script.cap), (23, [], Value.bool true)] (by kernel_rfl) (by kernel_rfl) ?_
          refine reg_end [(0, Value.slice b_.ptr b_.len b_.cap), (1, Value.slice script.ptr script.len script.cap), (23, Value.bool true)] (by kernel_rfl) (by kernel_rfl) ?_
          exact ⟨[(0, Value.slice b_.ptr b_.len b_.cap), (1, Value.slice script.ptr script.len script.cap), (23, Value.bool true)], Sub.mk (by kernel_rfl), true, rfl, h⟩
        · replace h := h.2 hb
          refine reg_run [] 9 [(0, [], Value.slice b_.ptr b_.len b_.cap), (1, [], Value.slice script.ptr script.len script.cap), (18, [], Value.bool false), (20, [], Value.int .i64 ((b_.len : Nat) : Int))] (by kernel_rfl) (by kernel_rfl) ?_
          refine reg_run [] 9 [(0, [], Value.slice b_.ptr b_.len b_.cap), (1, [], Value.slice script.ptr script.len script.cap), (18, [], Value.bool false), (20, [], Value.int .i64 ((b_.len : Nat) : Int))] (by kernel_rfl) (by kernel_rfl) ?_
          refine reg_new (op := (Go.Op.buildSlice 78 1 #[(0, (Go.Operand.tmp 20))])) (ty := 78) (dst := some 21) (fun bb => Value.slice (some ⟨bb, 0, none⟩) 1 1) (Obj.cells ([Value.int .i64 ((b_.len : Nat) : Int)]).toArray ty_int (0, 0)) (by kernel_rfl) (by kernel_rfl) (fun b_2 w28 hb hw => ?_)
          replace h := h b_2 w28 hb hw
          clear hb hw
          refine reg_run [] 10 [(0, [], Value.slice b_.ptr b_.len b_.cap), (1, [], Value.slice script.ptr script.len script.cap), (18, [], Value.bool false), (21, [], Value.slice (some ⟨b_2, 0, none⟩) 1 1)] (by kernel_rfl) (by kernel_rfl) ?_
          refine reg_enter (op := (Go.Op.call (Go.Call.mk (Go.Callee.value (Go.Operand.func 12)) #[(Go.Operand.tmp 21)] #[78]))) (ty := 4) (dst := some 22) 12 #[Value.slice (some ⟨b_2, 0, none⟩) 1 1] (by kernel_rfl) (fun ww => by kernel_rfl) (Calls.mono h ?_)
          rintro _ w29 ⟨v22, rfl, h⟩
          refine ⟨_, rfl, ?_⟩
          refine reg_run [.plain] 12 [(0, [], Value.slice b_.ptr b_.len b_.cap), (1, [], Value.slice script.ptr script.len script.cap), (23, [], Value.bool v22)] (by kernel_rfl) (by kernel_rfl) ?_
          refine reg_end [(0, Value.slice b_.ptr b_.len b_.cap), (1, Value.slice script.ptr script.len script.cap), (23, Value.bool v22)] (by kernel_rfl) (by kernel_rfl) ?_
          exact ⟨[(0, Value.slice b_.ptr b_.len b_.cap), (1, Value.slice script.ptr script.len script.cap), (23, Value.bool v22)], Sub.mk (by kernel_rfl), v22, rfl, h⟩
    · rintro _ w1 ⟨t23, rfl, h⟩
      unfold F_towpathlaw02_CodecStops_k0 at h
      refine wpE_cond (o := (Operand.tmp 23)) (b := t23) (x := c_towpathlaw02_CodecStops_8) (y := c_towpathlaw02_CodecStops_12) (by kernel_rfl) (by kernel_rfl) (fun hb => ?_) (fun hb => ?_)
      · replace h := h.1 hb
        refine wpE_seq (x := c_towpathlaw02_CodecStops_9) (y := c_towpathlaw02_CodecStops_11) (by kernel_rfl) ?_
        refine wpE_region (id := 2) (ops := r_towpathlaw02_CodecStops_9) (by kernel_rfl) ?_
        refine reg_run [] 0 [] (by kernel_rfl) (by kernel_rfl) ?_
        refine reg_enter (op := (Go.Op.call (Go.Call.mk (Go.Callee.value (Go.Operand.func 36)) #[] #[]))) (ty := 4) (dst := some 24) 36 #[] (by kernel_rfl) (fun ww => by kernel_rfl) (Calls.mono h ?_)
        rintro _ w2 ⟨v24, rfl, h⟩
        refine ⟨_, rfl, ?_⟩
        refine reg_run [.plain] 2 [(4, [], Value.bool v24)] (by kernel_rfl) (by kernel_rfl) ?_
        refine reg_end [(4, Value.bool v24)] (by kernel_rfl) (by kernel_rfl) ?_
        change WpE _ _ c_towpathlaw02_CodecStops_11 _ _ _
        refine wpE_ret (by kernel_rfl) ?_
        repeat (first | refine seqQ_ret ?_ | refine blockQ_ret ?_ | refine loopQ_ret ?_ | refine cutQ_ret ?_)
        exact retS (rs := [(Go.ResultVar.tmp 4)]) (v := Value.bool v24) (by kernel_rfl) (⟨by kernel_rfl, trivial⟩) ⟨v24, rfl, h⟩
      · replace h := h.2 hb
        refine wpE_skip (by kernel_rfl) ?_
        change WpE _ _ c_towpathlaw02_CodecStops_13 _ _ _
        refine wpE_seq (x := c_towpathlaw02_CodecStops_14) (y := c_towpathlaw02_CodecStops_16) (by kernel_rfl) ?_
        refine wpE_region (id := 3) (ops := r_towpathlaw02_CodecStops_14) (by kernel_rfl) ?_
        refine reg_run [.plain] 1 [(1, [], Value.slice script.ptr script.len script.cap), (25, [], Value.slice b_.ptr b_.len b_.cap)] (by kernel_rfl) (by kernel_rfl) ?_
        refine reg_enter (op := (Go.Op.call (Go.Call.mk (Go.Callee.value (Go.Operand.func 14)) #[(Go.Operand.tmp 25)] #[22]))) (ty := 27) (dst := some 26) 14 #[Value.slice b_.ptr b_.len b_.cap] (by kernel_rfl) (fun ww => by kernel_rfl) (Calls.mono h ?_)
        rintro _ w3 ⟨v26, rfl, h⟩
        refine ⟨_, rfl, ?_⟩
        refine reg_run [.plain] 3 [(1, [], Value.slice script.ptr script.len script.cap), (5, [], Value.pointer v26)] (by kernel_rfl) (by kernel_rfl) ?_
        refine reg_end [(1, Value.slice script.ptr script.len script.cap), (5, Value.pointer v26)] (by kernel_rfl) (by kernel_rfl) ?_
        change WpE _ _ c_towpathlaw02_CodecStops_16 _ _ _
        refine wpE_seq_cut (x := c_towpathlaw02_CodecStops_17) (y := c_towpathlaw02_CodecStops_39) (by kernel_rfl) (fun l w => l = [(1, Value.slice script.ptr script.len script.cap), (5, Value.pointer v26)] ∧ F_towpathlaw02_CodecStops_k1 script R v26 w) ?_ ?_
        · refine wpE_block (id := 0) (x := c_towpathlaw02_CodecStops_18) (by kernel_rfl) ?_
          obtain ⟨I, μ, h0, hr⟩ := h
          refine wpE_loop (x := c_towpathlaw02_CodecStops_19) (by kernel_rfl) (fun m l w => l = [(1, Value.slice script.ptr script.len script.cap), (5, Value.pointer v26)] ∧ I w ∧ μ w = m) (l' := [(1, Value.slice script.ptr script.len script.cap), (5, Value.pointer v26)]) (Sub.mk (by kernel_rfl)) ⟨rfl, h0, rfl⟩ ?_
          rintro _ _ w21 ⟨rfl, hI, rfl⟩
          obtain ⟨again_1, again_1_h, h⟩ : ∃ again_1 : World → Prop, (∀ w', again_1 w' → I w' ∧ μ w' < μ w21) ∧ F_towpathlaw02_CodecStops_L6 script R v26 again_1 w21 := ⟨_, fun _ h => h, hr w21 hI⟩
          clear h0 hI
          unfold F_towpathlaw02_CodecStops_L6 at h
          refine wpE_seq (x := c_towpathlaw02_CodecStops_20) (y := c_towpathlaw02_CodecStops_26) (by kernel_rfl) ?_
          refine wpE_seq (x := c_towpathlaw02_CodecStops_21) (y := c_towpathlaw02_CodecStops_23) (by kernel_rfl) ?_
          refine wpE_region (id := 4) (ops := r_towpathlaw02_CodecStops_21) (by kernel_rfl) ?_
          refine reg_run [.plain] 1 [(1, [], Value.slice script.ptr script.len script.cap), (5, [], Value.pointer v26), (27, [], Value.pointer v26)] (by kernel_rfl) (by kernel_rfl) ?_
          refine reg_enter (op := (Go.Op.call (Go.Call.mk (Go.Callee.value (Go.Operand.func 17)) #[(Go.Operand.tmp 27)] #[27]))) (ty := 3) (dst := some 28) 17 #[Value.pointer v26] (by kernel_rfl) (fun ww => by kernel_rfl) (Calls.mono h ?_)
          rintro _ w22 ⟨v28, rfl, h⟩
          refine ⟨_, rfl, ?_⟩
          refine reg_run [.plain] 3 [(1, [], Value.slice script.ptr script.len script.cap), (5, [], Value.pointer v26), (29, [], Value.bool (decide (v28 > 0)))] (by kernel_rfl) (by kernel_rfl) ?_
          refine reg_end [(1, Value.slice script.ptr script.len script.cap), (5, Value.pointer v26), (29, Value.bool (decide (v28 > 0)))] (by kernel_rfl) (by kernel_rfl) ?_
          change WpE _ _ c_towpathlaw02_CodecStops_23 _ _ _
          refine wpE_cond (o := (Operand.tmp 29)) (b := (decide (v28 > 0))) (x := c_towpathlaw02_CodecStops_24) (y := c_towpathlaw02_CodecStops_25) (by kernel_rfl) (by kernel_rfl) (fun hb => ?_) (fun hb => ?_)
          · replace h := h.1 hb
            refine wpE_skip (by kernel_rfl) ?_
            change WpE _ _ c_towpathlaw02_CodecStops_26 _ _ _
            refine wpE_block (id := 1) (x := c_towpathlaw02_CodecStops_27) (by kernel_rfl) ?_
            refine wpE_seq (x := c_towpathlaw02_CodecStops_28) (y := c_towpathlaw02_CodecStops_30) (by kernel_rfl) ?_
            refine wpE_region (id := 5) (ops := r_towpathlaw02_CodecStops_28) (by kernel_rfl) ?_
            refine reg_run [.plain] 1 [(1, [], Value.slice script.ptr script.len script.cap), (5, [], Value.pointer v26), (30, [], Value.pointer v26)] (by kernel_rfl) (by kernel_rfl) ?_
            refine reg_enter (op := (Go.Op.call (Go.Call.mk (Go.Callee.value (Go.Operand.func 17)) #[(Go.Operand.tmp 30)] #[27]))) (ty := 3) (dst := some 31) 17 #[Value.pointer v26] (by kernel_rfl) (fun ww => by kernel_rfl) (Calls.mono h ?_)
            rintro _ w23 ⟨v31, rfl, h⟩
            refine ⟨_, rfl, ?_⟩
            refine reg_run [.plain] 3 [(1, [], Value.slice script.ptr script.len script.cap), (5, [], Value.pointer v26), (6, [], Value.int .i64 v31)] (by kernel_rfl) (by kernel_rfl) ?_
            refine reg_end [(1, Value.slice script.ptr script.len script.cap), (5, Value.pointer v26), (6, Value.int .i64 v31)] (by kernel_rfl) (by kernel_rfl) ?_
            change WpE _ _ c_towpathlaw02_CodecStops_30 _ _ _
            refine wpE_seq (x := c_towpathlaw02_CodecStops_31) (y := c_towpathlaw02_CodecStops_33) (by kernel_rfl) ?_
            refine wpE_region (id := 6) (ops := r_towpathlaw02_CodecStops_31) (by kernel_rfl) ?_
            refine reg_run [.plain] 1 [(1, [], Value.slice script.ptr script.len script.cap), (5, [], Value.pointer v26), (6, [], Value.int .i64 v31), (32, [], Value.pointer v26)] (by kernel_rfl) (by kernel_rfl) ?_
            refine reg_enter (op := (Go.Op.call (Go.Call.mk (Go.Callee.value (Go.Operand.func 37)) #[(Go.Operand.tmp 32)] #[27]))) (ty := 35) (dst := some 33) 37 #[Value.pointer v26] (by kernel_rfl) (fun ww => by kernel_rfl) (Calls.mono h ?_)
            rintro _ w24 ⟨v33, rfl, h⟩
            refine ⟨_, rfl, ?_⟩
            refine reg_end [(1, Value.slice script.ptr script.len script.cap), (5, Value.pointer v26), (6, Value.int .i64 v31)] (by kernel_rfl) (by kernel_rfl) ?_
            change WpE _ _ c_towpathlaw02_CodecStops_33 _ _ _
            refine wpE_seq (x := c_towpathlaw02_CodecStops_34) (y := c_towpathlaw02_CodecStops_36) (by kernel_rfl) ?_
            refine wpE_region (id := 7) (ops := r_towpathlaw02_CodecStops_34) (by kernel_rfl) ?_
            refine reg_run [.plain] 1 [(1, [], Value.slice script.ptr script.len script.cap), (5, [], Value.pointer v26), (6, [], Value.int .i64 v31), (34, [], Value.pointer v26)] (by kernel_rfl) (by kernel_rfl) ?_
            refine reg_enter (op := (Go.Op.call (Go.Call.mk (Go.Callee.value (Go.Operand.func 17)) #[(Go.Operand.tmp 34)] #[27]))) (ty := 3) (dst := some 35) 17 #[Value.pointer v26] (by kernel_rfl) (fun ww => by kernel_rfl) (Calls.mono h ?_)
            rintro _ w25 ⟨v35, rfl, h⟩
            refine ⟨_, rfl, ?_⟩
            refine reg_run [.plain, .plain] 4 [(1, [], Value.slice script.ptr script.len script.cap), (5, [], Value.pointer v26), (37, [], Value.bool (v35 == v31))] (by kernel_rfl) (by kernel_rfl) ?_
            refine reg_end [(1, Value.slice script.ptr script.len script.cap), (5, Value.pointer v26), (37, Value.bool (v35 == v31))] (by kernel_rfl) (by kernel_rfl) ?_
            change WpE _ _ c_towpathlaw02_CodecStops_36 _ _ _
            refine wpE_cond (o := (Operand.tmp 37)) (b := (v35 == v31)) (x := c_towpathlaw02_CodecStops_37) (y := c_towpathlaw02_CodecStops_38) (by kernel_rfl) (by kernel_rfl) (fun hb => ?_) (fun hb => ?_)
            · replace h := h.1 hb
              refine wpE_exit (id := 0) (by kernel_rfl) ?_
              exact ⟨[(1, Value.slice script.ptr script.len script.cap), (5, Value.pointer v26)], Sub.mk (by kernel_rfl), rfl, h⟩
            · replace h := h.2 hb
              refine wpE_skip (by kernel_rfl) ?_
              have hb_ := again_1_h _ h
              exact ⟨_, hb_.2, [(1, Value.slice script.ptr script.len script.cap), (5, Value.pointer v26)], Sub.mk (by kernel_rfl), rfl, hb_.1, rfl⟩
          · replace h := h.2 hb
            refine wpE_exit (id := 0) (by kernel_rfl) ?_
            exact ⟨[(1, Value.slice script.ptr script.len script.cap), (5, Value.pointer v26)], Sub.mk (by kernel_rfl), rfl, h⟩
        · rintro _ w4 ⟨rfl, h⟩
          unfold F_towpathlaw02_CodecStops_k1 at h
          refine wpE_seq_cut (x := c_towpathlaw02_CodecStops_40) (y := c_towpathlaw02_CodecStops_47) (by kernel_rfl) (fun l w => l = [(1, Value.slice script.ptr script.len script.cap), (5, Value.pointer v26)] ∧ F_towpathlaw02_CodecStops_k2 script R v26 w) ?_ ?_
          · refine wpE_seq (x := c_towpathlaw02_CodecStops_41) (y := c_towpathlaw02_CodecStops_43) (by kernel_rfl) ?_
            refine wpE_region (id := 8) (ops := r_towpathlaw02_CodecStops_41) (by kernel_rfl) ?_
            refine reg_run [.plain] 1 [(1, [], Value.slice script.ptr script.len script.cap), (5, [], Value.pointer v26), (38, [], Value.pointer v26)] (by kernel_rfl) (by kernel_rfl) ?_
            refine reg_enter (op := (Go.Op.call (Go.Call.mk (Go.Callee.value (Go.Operand.func 17)) #[(Go.Operand.tmp 38)] #[27]))) (ty := 3) (dst := some 39) 17 #[Value.pointer v26] (by kernel_rfl) (fun ww => by kernel_rfl) (Calls.mono h ?_)
            rintro _ w19 ⟨v39, rfl, h⟩
            refine ⟨_, rfl, ?_⟩
            refine reg_run [.plain] 3 [(1, [], Value.slice script.ptr script.len script.cap), (5, [], Value.pointer v26), (40, [], Value.bool (v39 == 0))] (by kernel_rfl) (by kernel_rfl) ?_
            refine reg_end [(1, Value.slice script.ptr script.len script.cap), (5, Value.pointer v26), (40, Value.bool (v39 == 0))] (by kernel_rfl) (by kernel_rfl) ?_
            change WpE _ _ c_towpathlaw02_CodecStops_43 _ _ _
            refine wpE_cond (o := (Operand.tmp 40)) (b := (v39 == 0)) (x := c_towpathlaw02_CodecStops_44) (y := c_towpathlaw02_CodecStops_46) (by kernel_rfl) (by kernel_rfl) (fun hb => ?_) (fun hb => ?_)
            · replace h := h.1 hb
              refine wpE_region (id := 9) (ops := r_towpathlaw02_CodecStops_44) (by kernel_rfl) ?_
              refine reg_run [.plain] 1 [(1, [], Value.slice script.ptr script.len script.cap), (5, [], Value.pointer v26), (41, [], Value.pointer v26)] (by kernel_rfl) (by kernel_rfl) ?_
              refine reg_enter (op := (Go.Op.call (Go.Call.mk (Go.Callee.value (Go.Operand.func 43)) #[(Go.Operand.tmp 41), (Go.Operand.const (Go.Value.int Go.IntKind.i64 1))] #[27, 3]))) (ty := 35) (dst := some 42) 43 #[Value.pointer v26, Value.int .i64 1] (by kernel_rfl) (fun ww => by kernel_rfl) (Calls.mono h ?_)
              rintro _ w20 ⟨v42, rfl, h⟩
              refine ⟨_, rfl, ?_⟩
              refine reg_end [(1, Value.slice script.ptr script.len script.cap), (5, Value.pointer v26)] (by kernel_rfl) (by kernel_rfl) ?_
              exact ⟨[(1, Value.slice script.ptr script.len script.cap), (5, Value.pointer v26)], Sub.mk (by kernel_rfl), rfl, h⟩
            · replace h := h.2 hb
              refine wpE_skip (by kernel_rfl) ?_
              exact ⟨[(1, Value.slice script.ptr script.len script.cap), (5, Value.pointer v26)], Sub.mk (by kernel_rfl), rfl, h⟩
          · rintro _ w5 ⟨rfl, h⟩
            unfold F_towpathlaw02_CodecStops_k2 at h
            refine wpE_seq (x := c_towpathlaw02_CodecStops_48) (y := c_towpathlaw02_CodecStops_50) (by kernel_rfl) ?_
            refine wpE_region (id := 10) (ops := r_towpathlaw02_CodecStops_48) (by kernel_rfl) ?_
            refine reg_run [.plain] 1 [(1, [], Value.slice script.ptr script.len script.cap), (5, [], Value.pointer v26), (43, [], Value.pointer v26)] (by kernel_rfl) (by kernel_rfl) ?_
            refine reg_enter (op := (Go.Op.call (Go.Call.mk (Go.Callee.value (Go.Operand.func 17)) #[(Go.Operand.tmp 43)] #[27]))) (ty := 3) (dst := some 44) 17 #[Value.pointer v26] (by kernel_rfl) (fun ww => by kernel_rfl) (Calls.mono h ?_)
            rintro _ w6 ⟨v44, rfl, h⟩
            refine ⟨_, rfl, ?_⟩
            refine reg_run [.plain] 3 [(1, [], Value.slice script.ptr script.len script.cap), (5, [], Value.pointer v26), (44, [], Value.int .i64 v44), (45, [], Value.pointer v26)] (by kernel_rfl) (by kernel_rfl) ?_
            refine reg_enter (op := (Go.Op.call (Go.Call.mk (Go.Callee.value (Go.Operand.func 19)) #[(Go.Operand.tmp 45)] #[27]))) (ty := 30) (dst := some 46) 19 #[Value.pointer v26] (by kernel_rfl) (fun ww => by kernel_rfl) (Calls.mono h ?_)
            rintro _ w7 ⟨v46, rfl, h⟩
            refine ⟨_, rfl, ?_⟩
            refine reg_run [.plain, .plain] 6 [(1, [], Value.slice script.ptr script.len script.cap), (5, [], Value.pointer v26), (7, [], Value.int .i64 v44), (8, [], Value.int .i64 v46)] (by kernel_rfl) (by kernel_rfl) ?_
            refine reg_end [(1, Value.slice script.ptr script.len script.cap), (5, Value.pointer v26), (7, Value.int .i64 v44), (8, Value.int .i64 v46)] (by kernel_rfl) (by kernel_rfl) ?_
            change WpE _ _ c_towpathlaw02_CodecStops_50 _ _ _
            refine wpE_seq (x := c_towpathlaw02_CodecStops_51) (y := c_towpathlaw02_CodecStops_60) (by kernel_rfl) ?_
            refine wpE_seq (x := c_towpathlaw02_CodecStops_52) (y := c_towpathlaw02_CodecStops_54) (by kernel_rfl) ?_
            refine wpE_region (id := 11) (ops := r_towpathlaw02_CodecStops_52) (by kernel_rfl) ?_
            refine reg_run [.plain, .plain] 2 [(1, [], Value.slice script.ptr script.len script.cap), (5, [], Value.pointer v26), (7, [], Value.int .i64 v44), (8, [], Value.int .i64 v46), (48, [], Value.bool (v46 == 0))] (by kernel_rfl) (by kernel_rfl) ?_
            refine reg_end [(1, Value.slice script.ptr script.len script.cap), (5, Value.pointer v26), (7, Value.int .i64 v44), (8, Value.int .i64 v46), (48, Value.bool (v46 == 0))] (by kernel_rfl) (by kernel_rfl) ?_
            change WpE _ _ c_towpathlaw02_CodecStops_54 _ _ _
            refine wpE_cond (o := (Operand.tmp 48)) (b := (v46 == 0)) (x := c_towpathlaw02_CodecStops_55) (y := c_towpathlaw02_CodecStops_59) (by kernel_rfl) (by kernel_rfl) (fun hb => ?_) (fun hb => ?_)
            · replace h := h.1 hb
              refine wpE_seq (x := c_towpathlaw02_CodecStops_56) (y := c_towpathlaw02_CodecStops_58) (by kernel_rfl) ?_
              refine wpE_region (id := 12) (ops := r_towpathlaw02_CodecStops_56) (by kernel_rfl) ?_
              refine reg_run [.plain] 1 [(4, [], Value.bool false)] (by kernel_rfl) (by kernel_rfl) ?_
              refine reg_end [(4, Value.bool false)] (by kernel_rfl) (by kernel_rfl) ?_
              change WpE _ _ c_towpathlaw02_CodecStops_58 _ _ _
              refine wpE_ret (by kernel_rfl) ?_
              repeat (first | refine seqQ_ret ?_ | refine blockQ_ret ?_ | refine loopQ_ret ?_ | refine cutQ_ret ?_)
              exact retS (rs := [(Go.ResultVar.tmp 4)]) (v := Value.bool false) (by kernel_rfl) (⟨by kernel_rfl, trivial⟩) ⟨false, rfl, h⟩
            · replace h := h.2 hb
              refine wpE_skip (by kernel_rfl) ?_
              change WpE _ _ c_towpathlaw02_CodecStops_60 _ _ _
              refine wpE_seq (x := c_towpathlaw02_CodecStops_61) (y := c_towpathlaw02_CodecStops_117) (by kernel_rfl) ?_
              refine wpE_seq (x := c_towpathlaw02_CodecStops_62) (y := c_towpathlaw02_CodecStops_64) (by kernel_rfl) ?_
              refine wpE_region (id := 13) (ops := r_towpathlaw02_CodecStops_62) (by kernel_rfl) ?_
              refine reg_run [.plain] 1 [(1, [], Value.slice script.ptr script.len script.cap), (5, [], Value.pointer v26), (7, [], Value.int .i64 v44), (8, [], Value.int .i64 v46), (9, [], Value.int .i64 0)] (by kernel_rfl) (by kernel_rfl) ?_
              refine reg_end [(1, Value.slice script.ptr script.len script.cap), (5, Value.pointer v26), (7, Value.int .i64 v44), (8, Value.int .i64 v46), (9, Value.int .i64 0)] (by kernel_rfl) (by kernel_rfl) ?_
              change WpE _ _ c_towpathlaw02_CodecStops_64 _ _ _
              refine wpE_block (id := 2) (x := c_towpathlaw02_CodecStops_65) (by kernel_rfl) ?_
              obtain ⟨I, μ, h0, hr⟩ := h
              refine wpE_loop (x := c_towpathlaw02_CodecStops_66) (by kernel_rfl) (fun m l w => ∃ (i : Int), l = [(1, Value.slice script.ptr script.len script.cap), (5, Value.pointer v26), (7, Value.int .i64 v44), (8, Value.int .i64 v46), (9, Value.int .i64 i)] ∧ I i w ∧ μ i w = m) (l' := [(1, Value.slice script.ptr script.len script.cap), (5, Value.pointer v26), (7, Value.int .i64 v44), (8, Value.int .i64 v46), (9, Value.int .i64 0)]) (Sub.mk (by kernel_rfl)) ⟨0, rfl, h0, rfl⟩ ?_
              rintro _ _ w8 ⟨i, rfl, hI, rfl⟩
              obtain ⟨again_, again__h, h⟩ : ∃ again_ : Int → World → Prop, (∀ i' w', again_ i' w' → I i' w' ∧ μ i' w' < μ i w8) ∧ F_towpathlaw02_CodecStops_L3 script R v26 v44 v46 again_ i w8 := ⟨_, fun _ _ h => h, hr i w8 hI⟩
              clear h0 hI
              unfold F_towpathlaw02_CodecStops_L3 at h
              refine wpE_seq (x := c_towpathlaw02_CodecStops_67) (y := c_towpathlaw02_CodecStops_73) (by kernel_rfl) ?_
              refine wpE_seq (x := c_towpathlaw02_CodecStops_68) (y := c_towpathlaw02_CodecStops_70) (by kernel_rfl) ?_
              refine wpE_region (id := 14) (ops := r_towpathlaw02_CodecStops_68) (by kernel_rfl) ?_
              refine reg_run [.plain, .plain, .plain, .plain] 4 [(1, [], Value.slice script.ptr script.len script.cap), (5, [], Value.pointer v26), (7, [], Value.int .i64 v44), (8, [], Value.int .i64 v46), (9, [], Value.int .i64 i), (52, [], Value.bool (decide (i < ((script.len : Nat) : Int))))] (by kernel_rfl) (by kernel_rfl) ?_
              refine reg_end [(1, Value.slice script.ptr script.len script.cap), (5, Value.pointer v26), (7, Value.int .i64 v44), (8, Value.int .i64 v46), (9, Value.int .i64 i), (52, Value.bool (decide (i < ((script.len : Nat) : Int))))] (by kernel_rfl) (by kernel_rfl) ?_
              change WpE _ _ c_towpathlaw02_CodecStops_70 _ _ _
              refine wpE_cond (o := (Operand.tmp 52)) (b := (decide (i < ((script.len : Nat) : Int)))) (x := c_towpathlaw02_CodecStops_71) (y := c_towpathlaw02_CodecStops_72) (by kernel_rfl) (by kernel_rfl) (fun hb => ?_) (fun hb => ?_)
              · replace h := h.1 hb
                refine wpE_skip (by kernel_rfl) ?_
                change WpE _ _ c_towpathlaw02_CodecStops_73 _ _ _
                refine wpE_seq (x := c_towpathlaw02_CodecStops_74) (y := c_towpathlaw02_CodecStops_115) (by kernel_rfl) ?_
                refine wpE_block (id := 3) (x := c_towpathlaw02_CodecStops_75) (by kernel_rfl) ?_
                refine wpE_seq (x := c_towpathlaw02_CodecStops_76) (y := c_towpathlaw02_CodecStops_78) (by kernel_rfl) ?_
                refine wpE_region (id := 16) (ops := r_towpathlaw02_CodecStops_76) (by kernel_rfl) ?_
                refine reg_run [.plain, .plain] 2 [(1, [], Value.slice script.ptr script.len script.cap), (5, [], Value.pointer v26), (7, [], Value.int .i64 v44), (8, [], Value.int .i64 v46), (9, [], Value.int .i64 i), (55, [], Value.slice script.ptr script.len script.cap), (56, [], Value.int .i64 i)] (by kernel_rfl) (by kernel_rfl) ?_
                obtain ⟨hp_7, h⟩ := h
                refine reg_conv [(1, [], Value.slice script.ptr script.len script.cap), (5, [], Value.pointer v26), (7, [], Value.int .i64 v44), (8, [], Value.int .i64 v46), (9, [], Value.int .i64 i), (55, [], Value.slice (some ⟨(pblk script.ptr), (poff script.ptr), none⟩) script.len script.cap), (56, [], Value.int .i64 i)] (congrArg (fun pp => ([(1, [], Value.slice script.ptr script.len script.cap), (5, [], Value.pointer v26), (7, [], Value.int .i64 v44), (8, [], Value.int .i64 v46), (9, [], Value.int .i64 i), (55, [], Value.slice pp script.len script.cap), (56, [], Value.int .i64 i)] : GEnv)) hp_7) ?_
                obtain ⟨h0, h1, h⟩ := h
                refine reg_indexS (t := 23) (e := 37) (x := (Go.Operand.tmp 55)) (ix := (Go.Operand.tmp 56)) (b := (pblk script.ptr)) (o := (poff script.ptr)) (l := script.len) (c := script.cap) (k := .i64) (j := i) (ty := 0) (dst := some 57) (sz := 5) (by kernel_rfl) (by kernel_rfl) (by kernel_rfl) (by kernel_rfl) (by kernel_rfl) h0 h1 ?_
                refine reg_run [] 3 [(1, [], Value.slice script.ptr script.len script.cap), (5, [], Value.pointer v26), (7, [], Value.int .i64 v44), (8, [], Value.int .i64 v46), (9, [], Value.int .i64 i), (57, [], Value.pointer (some ⟨(pblk script.ptr), (poff script.ptr) + i.toNat * 5, none⟩))] (by kernel_rfl) (by kernel_rfl) ?_
                obtain ⟨v58, hc, h⟩ := h
                refine reg_loadN (t := 37) (a := (Go.Operand.tmp 57)) (b := (pblk script.ptr)) (o := ((poff script.ptr) + i.toNat * 5)) (ty := 37) (dst := some 58) [Value.int .u8 v58.Kind, Value.int .u64 v58.N, Value.int .i64 v58.Width, Value.string v58.Text, Value.int .i64 v58.Most] (by kernel_rfl) (by kernel_rfl) (by kernel_rfl) (k := 5) (by kernel_rfl) (by kernel_rfl) hc ?_
                refine reg_run [] 4 [(1, [], Value.slice script.ptr script.len script.cap), (5, [], Value.pointer v26), (7, [], Value.int .i64 v44), (8, [], Value.int .i64 v46), (9, [], Value.int .i64 i), (58, [], Value.agg #[Value.int .u8 v58.Kind, Value.int .u64 v58.N, Value.int .i64 v58.Width, Value.string v58.Text, Value.int .i64 v58.Most])] (by kernel_rfl) (by kernel_rfl) ?_
                refine reg_new (op := (Go.Op.alloc 37)) (ty := 0) (dst := some 10) (fun bb => Value.pointer (some ⟨bb, 0, none⟩)) (Obj.cells ([Value.int .u8 0, Value.int .u64 0, Value.int .i64 0, Value.string ByteArray.empty, Value.int .i64 0]).toArray ty_towpathlaw02_Op (0, 0)) (by kernel_rfl) (by kernel_rfl) (fun b_1 w9 hb hw => ?_)
                replace h := h b_1 w9 hb hw
                clear hb hw
                refine reg_run [] 5 [(1, [], Value.slice script.ptr script.len script.cap), (5, [], Value.pointer v26), (7, [], Value.int .i64 v44), (8, [], Value.int .i64 v46), (9, [], Value.int .i64 i), (10, [], Value.pointer (some ⟨b_1, 0, none⟩)), (58, [], Value.agg #[Value.int .u8 v58.Kind, Value.int .u64 v58.N, Value.int .i64 v58.Width, Value.string v58.Text, Value.int .i64 v58.Most])] (by kernel_rfl) (by kernel_rfl) ?_
                obtain ⟨hc, h⟩ := h
                refine reg_store (t := 37) (a := (Go.Operand.tmp 10)) (x := (Go.Operand.tmp 58)) (b := b_1) (o := 0) (ty := 0) (dst := none) [Value.int .u8 v58.Kind, Value.int .u64 v58.N, Value.int .i64 v58.Width, Value.string v58.Text, Value.int .i64 v58.Most] (by kernel_rfl) (by kernel_rfl) (by kernel_rfl) (k := 5) (by kernel_rfl) (by kernel_rfl) (by kernel_rfl) hc (fun w10 hw => ?_)
                replace h := h w10 hw
                clear hw
                refine reg_end [(1, Value.slice script.ptr script.len script.cap), (5, Value.pointer v26), (7, Value.int .i64 v44), (8, Value.int .i64 v46), (9, Value.int .i64 i), (10, Value.pointer (some ⟨b_1, 0, none⟩))] (by kernel_rfl) (by kernel_rfl) ?_
                change WpE _ _ c_towpathlaw02_CodecStops_78 _ _ _
                refine wpE_seq (x := c_towpathlaw02_CodecStops_79) (y := c_towpathlaw02_CodecStops_81) (by kernel_rfl) ?_
                refine wpE_region (id := 17) (ops := r_towpathlaw02_CodecStops_79) (by kernel_rfl) ?_
                refine reg_run [.plain] 1 [(1, [], Value.slice script.ptr script.len script.cap), (5, [], Value.pointer v26), (7, [], Value.int .i64 v44), (8, [], Value.int .i64 v46), (9, [], Value.int .i64 i), (10, [], Value.pointer (some ⟨b_1, 0, none⟩))] (by kernel_rfl) (by kernel_rfl) ?_
                refine reg_end [(1, Value.slice script.ptr script.len script.cap), (5, Value.pointer v26), (7, Value.int .i64 v44), (8, Value.int .i64 v46), (9, Value.int .i64 i), (10, Value.pointer (some ⟨b_1, 0, none⟩))] (by kernel_rfl) (by kernel_rfl) ?_
                change WpE _ _ c_towpathlaw02_CodecStops_81 _ _ _
                refine wpE_seq_cut (x := c_towpathlaw02_CodecStops_82) (y := c_towpathlaw02_CodecStops_106) (by kernel_rfl) (fun l w => ∃ (zero : Bool), l = [(1, Value.slice script.ptr script.len script.cap), (5, Value.pointer v26), (7, Value.int .i64 v44), (8, Value.int .i64 v46), (9, Value.int .i64 i), (11, Value.bool zero)] ∧ F_towpathlaw02_CodecStops_k4 R v26 v44 v46 i again_ zero w) ?_ ?_
                · refine wpE_seq (x := c_towpathlaw02_CodecStops_83) (y := c_towpathlaw02_CodecStops_85) (by kernel_rfl) ?_
                  refine wpE_region (id := 18) (ops := r_towpathlaw02_CodecStops_83) (by kernel_rfl) ?_
                  refine reg_run [.plain] 1 [(1, [], Value.slice script.ptr script.len script.cap), (5, [], Value.pointer v26), (7, [], Value.int .i64 v44), (8, [], Value.int .i64 v46), (9, [], Value.int .i64 i), (10, [], Value.pointer (some ⟨b_1, 0, none⟩)), (59, [], Value.pointer (some ⟨b_1, 0, none⟩))] (by kernel_rfl) (by kernel_rfl) ?_
                  obtain ⟨v60, hc, h⟩ := h
                  refine reg_load1 (t := 5) (a := (Go.Operand.tmp 59)) (b := b_1) (o := 0) (ty := 5) (dst := some 60) (by kernel_rfl) (by kernel_rfl) (by kernel_rfl) hc ?_
                  refine reg_end [(1, Value.slice script.ptr script.len script.cap), (5, Value.pointer v26), (7, Value.int .i64 v44), (8, Value.int .i64 v46), (9, Value.int .i64 i), (10, Value.pointer (some ⟨b_1, 0, none⟩)), (60, Value.int .u8 v60)] (by kernel_rfl) (by kernel_rfl) ?_
                  change WpE _ _ c_towpathlaw02_CodecStops_85 _ _ _
                  refine wpE_block (id := 4) (x := c_towpathlaw02_CodecStops_86) (by kernel_rfl) ?_
                  refine wpE_seq (x := c_towpathlaw02_CodecStops_87) (y := c_towpathlaw02_CodecStops_89) (by kernel_rfl) ?_
                  refine wpE_region (id := 20) (ops := r_towpathlaw02_CodecStops_87) (by kernel_rfl) ?_
                  refine reg_run [.plain, .plain] 2 [(1, [], Value.slice script.ptr script.len script.cap), (5, [], Value.pointer v26), (7, [], Value.int .i64 v44), (8, [], Value.int .i64 v46), (9, [], Value.int .i64 i), (10, [], Value.pointer (some ⟨b_1, 0, none⟩)), (60, [], Value.int .u8 v60), (64, [], Value.bool (v60 == 1))] (by kernel_rfl) (by kernel_rfl) ?_
                  refine reg_end [(1, Value.slice script.ptr script.len script.cap), (5, Value.pointer v26), (7, Value.int .i64 v44), (8, Value.int .i64 v46), (9, Value.int .i64 i), (10, Value.pointer (some ⟨b_1, 0, none⟩)), (60, Value.int .u8 v60), (64, Value.bool (v60 == 1))] (by kernel_rfl) (by kernel_rfl) ?_
                  change WpE _ _ c_towpathlaw02_CodecStops_89 _ _ _
                  refine wpE_cond (o := (Operand.tmp 64)) (b := (v60 == 1)) (x := c_towpathlaw02_CodecStops_90) (y := c_towpathlaw02_CodecStops_92) (by kernel_rfl) (by kernel_rfl) (fun hb => ?_) (fun hb => ?_)
                  · replace h := h.1 hb
                    refine wpE_region (id := 21) (ops := r_towpathlaw02_CodecStops_90) (by kernel_rfl) ?_
                    refine reg_run [.plain, .plain] 2 [(1, [], Value.slice script.ptr script.len script.cap), (5, [], Value.pointer v26), (7, [], Value.int .i64 v44), (8, [], Value.int .i64 v46), (9, [], Value.int .i64 i), (66, [], Value.pointer v26), (67, [], Value.pointer (some ⟨b_1, 2, none⟩))] (by kernel_rfl) (by kernel_rfl) ?_
                    obtain ⟨v68, hc, h⟩ := h
                    refine reg_load1 (t := 3) (a := (Go.Operand.tmp 67)) (b := b_1) (o := 2) (ty := 3) (dst := some 68) (by kernel_rfl) (by kernel_rfl) (by kernel_rfl) hc ?_
                    refine reg_run [] 3 [(1, [], Value.slice script.ptr script.len script.cap), (5, [], Value.pointer v26), (7, [], Value.int .i64 v44), (8, [], Value.int .i64 v46), (9, [], Value.int .i64 i), (66, [], Value.pointer v26), (68, [], Value.int .i64 v68)] (by kernel_rfl) (by kernel_rfl) ?_
                    refine reg_enter (op := (Go.Op.call (Go.Call.mk (Go.Callee.value (Go.Operand.func 43)) #[(Go.Operand.tmp 66), (Go.Operand.tmp 68)] #[27, 3]))) (ty := 35) (dst := some 69) 43 #[Value.pointer v26, Value.int .i64 v68] (by kernel_rfl) (fun ww => by kernel_rfl) (Calls.mono h ?_)
                    rintro _ w15 ⟨v69, rfl, h⟩
                    refine ⟨_, rfl, ?_⟩
                    refine reg_run [.plain, .plain] 6 [(1, [], Value.slice script.ptr script.len script.cap), (5, [], Value.pointer v26), (7, [], Value.int .i64 v44), (8, [], Value.int .i64 v46), (9, [], Value.int .i64 i), (11, [], Value.bool (v69 == 0))] (by kernel_rfl) (by kernel_rfl) ?_
                    refine reg_end [(1, Value.slice script.ptr script.len script.cap), (5, Value.pointer v26), (7, Value.int .i64 v44), (8, Value.int .i64 v46), (9, Value.int .i64 i), (11, Value.bool (v69 == 0))] (by kernel_rfl) (by kernel_rfl) ?_
                    exact ⟨[(1, Value.slice script.ptr script.len script.cap), (5, Value.pointer v26), (7, Value.int .i64 v44), (8, Value.int .i64 v46), (9, Value.int .i64 i), (11, Value.bool (v69 == 0))], Sub.mk (by kernel_rfl), (v69 == 0), rfl, h⟩
                  · replace h := h.2 hb
                    refine wpE_seq (x := c_towpathlaw02_CodecStops_93) (y := c_towpathlaw02_CodecStops_95) (by kernel_rfl) ?_
                    refine wpE_region (id := 22) (ops := r_towpathlaw02_CodecStops_93) (by kernel_rfl) ?_
                    refine reg_run [.plain, .plain] 2 [(1, [], Value.slice script.ptr script.len script.cap), (5, [], Value.pointer v26), (7, [], Value.int .i64 v44), (8, [], Value.int .i64 v46), (9, [], Value.int .i64 i), (10, [], Value.pointer (some ⟨b_1, 0, none⟩)), (60, [], Value.int .u8 v60), (71, [], Value.bool (v60 == 3))] (by kernel_rfl) (by kernel_rfl) ?_
                    refine reg_end [(1, Value.slice script.ptr script.len script.cap), (5, Value.pointer v26), (7, Value.int .i64 v44), (8, Value.int .i64 v46), (9, Value.int .i64 i), (10, Value.pointer (some ⟨b_1, 0, none⟩)), (60, Value.int .u8 v60), (71, Value.bool (v60 == 3))] (by kernel_rfl) (by kernel_rfl) ?_
                    change WpE _ _ c_towpathlaw02_CodecStops_95 _ _ _
                    refine wpE_cond (o := (Operand.tmp 71)) (b := (v60 == 3)) (x := c_towpathlaw02_CodecStops_96) (y := c_towpathlaw02_CodecStops_98) (by kernel_rfl) (by kernel_rfl) (fun hb => ?_) (fun hb => ?_)
                    · replace h := h.1 hb
                      refine wpE_region (id := 23) (ops := r_towpathlaw02_CodecStops_96) (by kernel_rfl) ?_
                      refine reg_run [.plain] 1 [(1, [], Value.slice script.ptr script.len script.cap), (5, [], Value.pointer v26), (7, [], Value.int .i64 v44), (8, [], Value.int .i64 v46), (9, [], Value.int .i64 i), (73, [], Value.pointer v26)] (by kernel_rfl) (by kernel_rfl) ?_
                      refine reg_enter (op := (Go.Op.call (Go.Call.mk (Go.Callee.value (Go.Operand.func 39)) #[(Go.Operand.tmp 73)] #[27]))) (ty := 2) (dst := some 74) 39 #[Value.pointer v26] (by kernel_rfl) (fun ww => by kernel_rfl) (Calls.mono h ?_)
                      rintro _ w16 ⟨v74, rfl, h⟩
                      refine ⟨_, rfl, ?_⟩
                      refine reg_run [.plain, .plain] 4 [(1, [], Value.slice script.ptr script.len script.cap), (5, [], Value.pointer v26), (7, [], Value.int .i64 v44), (8, [], Value.int .i64 v46), (9, [], Value.int .i64 i), (11, [], Value.bool (v74 == 0))] (by kernel_rfl) (by kernel_rfl) ?_
                      refine reg_end [(1, Value.slice script.ptr script.len script.cap), (5, Value.pointer v26), (7, Value.int .i64 v44), (8, Value.int .i64 v46), (9, Value.int .i64 i), (11, Value.bool (v74 == 0))] (by kernel_rfl) (by kernel_rfl) ?_
                      exact ⟨[(1, Value.slice script.ptr script.len script.cap), (5, Value.pointer v26), (7, Value.int .i64 v44), (8, Value.int .i64 v46), (9, Value.int .i64 i), (11, Value.bool (v74 == 0))], Sub.mk (by kernel_rfl), (v74 == 0), rfl, h⟩
                    · replace h := h.2 hb
                      refine wpE_seq (x := c_towpathlaw02_CodecStops_99) (y := c_towpathlaw02_CodecStops_101) (by kernel_rfl) ?_
                      refine wpE_region (id := 24) (ops := r_towpathlaw02_CodecStops_99) (by kernel_rfl) ?_
                      refine reg_run [.plain, .plain] 2 [(1, [], Value.slice script.ptr script.len script.cap), (5, [], Value.pointer v26), (7, [], Value.int .i64 v44), (8, [], Value.int .i64 v46), (9, [], Value.int .i64 i), (10, [], Value.pointer (some ⟨b_1, 0, none⟩)), (76, [], Value.bool (v60 == 4))] (by kernel_rfl) (by kernel_rfl) ?_
                      refine reg_end [(1, Value.slice script.ptr script.len script.cap), (5, Value.pointer v26), (7, Value.int .i64 v44), (8, Value.int .i64 v46), (9, Value.int .i64 i), (10, Value.pointer (some ⟨b_1, 0, none⟩)), (76, Value.bool (v60 == 4))] (by kernel_rfl) (by kernel_rfl) ?_
                      change WpE _ _ c_towpathlaw02_CodecStops_101 _ _ _
                      refine wpE_cond (o := (Operand.tmp 76)) (b := (v60 == 4)) (x := c_towpathlaw02_CodecStops_102) (y := c_towpathlaw02_CodecStops_104) (by kernel_rfl) (by kernel_rfl) (fun hb => ?_) (fun hb => ?_)
                      · replace h := h.1 hb
                        refine wpE_region (id := 25) (ops := r_towpathlaw02_CodecStops_102) (by kernel_rfl) ?_
                        refine reg_run [.plain, .plain] 2 [(1, [], Value.slice script.ptr script.len script.cap), (5, [], Value.pointer v26), (7, [], Value.int .i64 v44), (8, [], Value.int .i64 v46), (9, [], Value.int .i64 i), (78, [], Value.pointer v26), (79, [], Value.pointer (some ⟨b_1, 4, none⟩))] (by kernel_rfl) (by kernel_rfl) ?_
                        obtain ⟨v80, hc, h⟩ := h
                        refine reg_load1 (t := 3) (a := (Go.Operand.tmp 79)) (b := b_1) (o := 4) (ty := 3) (dst := some 80) (by kernel_rfl) (by kernel_rfl) (by kernel_rfl) hc ?_
                        refine reg_run [] 3 [(1, [], Value.slice script.ptr script.len script.cap), (5, [], Value.pointer v26), (7, [], Value.int .i64 v44), (8, [], Value.int .i64 v46), (9, [], Value.int .i64 i), (78, [], Value.pointer v26), (80, [], Value.int .i64 v80)] (by kernel_rfl) (by kernel_rfl) ?_
                        refine reg_enter (op := (Go.Op.call (Go.Call.mk (Go.Callee.value (Go.Operand.func 41)) #[(Go.Operand.tmp 78), (Go.Operand.tmp 80)] #[27, 3]))) (ty := 9) (dst := some 81) 41 #[Value.pointer v26, Value.int .i64 v80] (by kernel_rfl) (fun ww => by kernel_rfl) (Calls.mono h ?_)
                        rintro _ w17 ⟨v81, rfl, h⟩
                        refine ⟨_, rfl, ?_⟩
                        refine reg_run [.plain, .plain] 6 [(1, [], Value.slice script.ptr script.len script.cap), (5, [], Value.pointer v26), (7, [], Value.int .i64 v44), (8, [], Value.int .i64 v46), (9, [], Value.int .i64 i), (11, [], Value.bool (v81.toList == ByteArray.empty.toList))] (by kernel_rfl) (by kernel_rfl) ?_
                        refine reg_end [(1, Value.slice script.ptr script.len script.cap), (5, Value.pointer v26), (7, Value.int .i64 v44), (8, Value.int .i64 v46), (9, Value.int .i64 i), (11, Value.bool (v81.toList == ByteArray.empty.toList))] (by kernel_rfl) (by kernel_rfl) ?_
                        exact ⟨[(1, Value.slice script.ptr script.len script.cap), (5, Value.pointer v26), (7, Value.int .i64 v44), (8, Value.int .i64 v46), (9, Value.int .i64 i), (11, Value.bool (v81.toList == ByteArray.empty.toList))], Sub.mk (by kernel_rfl), (v81.toList == ByteArray.empty.toList), rfl, h⟩
                      · replace h := h.2 hb
                        refine wpE_region (id := 19) (ops := r_towpathlaw02_CodecStops_104) (by kernel_rfl) ?_
                        refine reg_run [.plain] 1 [(1, [], Value.slice script.ptr script.len script.cap), (5, [], Value.pointer v26), (7, [], Value.int .i64 v44), (8, [], Value.int .i64 v46), (9, [], Value.int .i64 i), (61, [], Value.pointer v26)] (by kernel_rfl) (by kernel_rfl) ?_
                        refine reg_enter (op := (Go.Op.call (Go.Call.mk (Go.Callee.value (Go.Operand.func 37)) #[(Go.Operand.tmp 61)] #[27]))) (ty := 35) (dst := some 62) 37 #[Value.pointer v26] (by kernel_rfl) (fun ww => by kernel_rfl) (Calls.mono h ?_)
                        rintro _ w18 ⟨v62, rfl, h⟩
                        refine ⟨_, rfl, ?_⟩
                        refine reg_run [.plain, .plain] 4 [(1, [], Value.slice script.ptr script.len script.cap), (5, [], Value.pointer v26), (7, [], Value.int .i64 v44), (8, [], Value.int .i64 v46), (9, [], Value.int .i64 i), (11, [], Value.bool (v62 == 0))] (by kernel_rfl) (by kernel_rfl) ?_
                        refine reg_end [(1, Value.slice script.ptr script.len script.cap), (5, Value.pointer v26), (7, Value.int .i64 v44), (8, Value.int .i64 v46), (9, Value.int .i64 i), (11, Value.bool (v62 == 0))] (by kernel_rfl) (by kernel_rfl) ?_
                        exact ⟨[(1, Value.slice script.ptr script.len script.cap), (5, Value.pointer v26), (7, Value.int .i64 v44), (8, Value.int .i64 v46), (9, Value.int .i64 i), (11, Value.bool (v62 == 0))], Sub.mk (by kernel_rfl), (v62 == 0), rfl, h⟩
                · rintro _ w11 ⟨zero, rfl, h⟩
                  unfold F_towpathlaw02_CodecStops_k4 at h
                  refine wpE_seq_cut (x := c_towpathlaw02_CodecStops_107) (y := c_towpathlaw02_CodecStops_109) (by kernel_rfl) (fun l w => ∃ (t96 : Bool), l = [(1, Value.slice script.ptr script.len script.cap), (5, Value.pointer v26), (7, Value.int .i64 v44), (8, Value.int .i64 v46), (9, Value.int .i64 i), (96, Value.bool t96)] ∧ F_towpathlaw02_CodecStops_k5 R i again_ t96 w) ?_ ?_
                  · refine wpE_region (id := 26) (ops := r_towpathlaw02_CodecStops_107) (by kernel_rfl) ?_
                    refine reg_run [.plain, .plain, .plain, .plain] 4 [(1, [], Value.slice script.ptr script.len script.cap), (5, [], Value.pointer v26), (7, [], Value.int .i64 v44), (8, [], Value.int .i64 v46), (9, [], Value.int .i64 i), (85, [], Value.bool (!zero)), (86, [(85, false)], Value.pointer v26)] (by kernel_rfl) (by kernel_rfl) ?_
                    refine reg_split 85 (!zero) (by kernel_rfl) (fun hb => ?_) (fun hb => ?_)
                    · replace h := h.1 hb
                      refine reg_run [] 4 [(1, [], Value.slice script.ptr script.len script.cap), (5, [], Value.pointer v26), (7, [], Value.int .i64 v44), (8, [], Value.int .i64 v46), (9, [], Value.int .i64 i), (85, [], Value.bool true), (86, [], undef)] (by kernel_rfl) (by kernel_rfl) ?_
                      refine reg_run [.skip, .skip, .skip, .plain, .plain, .skip, .skip, .skip, .skip, .plain] 14 [(1, [], Value.slice script.ptr script.len script.cap), (5, [], Value.pointer v26), (7, [], Value.int .i64 v44), (8, [], Value.int .i64 v46), (9, [], Value.int .i64 i), (96, [], Value.bool true)] (by kernel_rfl) (by kernel_rfl) ?_
                      refine reg_end [(1, Value.slice script.ptr script.len script.cap), (5, Value.pointer v26), (7, Value.int .i64 v44), (8, Value.int .i64 v46), (9, Value.int .i64 i), (96, Value.bool true)] (by kernel_rfl) (by kernel_rfl) ?_
                      exact ⟨[(1, Value.slice script.ptr script.len script.cap), (5, Value.pointer v26), (7, Value.int .i64 v44), (8, Value.int .i64 v46), (9, Value.int .i64 i), (96, Value.bool true)], Sub.mk (by kernel_rfl), true, rfl, h⟩
                    · replace h := h.2 hb
                      refine reg_run [] 4 [(1, [], Value.slice script.ptr script.len script.cap), (5, [], Value.pointer v26), (7, [], Value.int .i64 v44), (8, [], Value.int .i64 v46), (9, [], Value.int .i64 i), (85, [], Value.bool false), (86, [], Value.pointer v26)] (by kernel_rfl) (by kernel_rfl) ?_
                      refine reg_run [] 4 [(1, [], Value.slice script.ptr script.len script.cap), (5, [], Value.pointer v26), (7, [], Value.int .i64 v44), (8, [], Value.int .i64 v46), (9, [], Value.int .i64 i), (85, [], Value.bool false), (86, [], Value.pointer v26)] (by kernel_rfl) (by kernel_rfl) ?_
                      refine reg_enter (op := (Go.Op.call (Go.Call.mk (Go.Callee.value (Go.Operand.func 17)) #[(Go.Operand.tmp 86)] #[27]))) (ty := 3) (dst := some 87) 17 #[Value.pointer v26] (by kernel_rfl) (fun ww => by kernel_rfl) (Calls.mono h ?_)
                      rintro _ w13 ⟨v87, rfl, h⟩
                      refine ⟨_, rfl, ?_⟩
                      refine reg_run [.sure, .sure, .plain, .plain, .plain] 10 [(1, [], Value.slice script.ptr script.len script.cap), (5, [], Value.pointer v26), (7, [], Value.int .i64 v44), (8, [], Value.int .i64 v46), (9, [], Value.int .i64 i), (91, [], Value.bool (v87 != v44)), (92, [(91, false)], Value.pointer v26)] (by kernel_rfl) (by kernel_rfl) ?_
                      refine reg_split 91 (v87 != v44) (by kernel_rfl) (fun hb => ?_) (fun hb => ?_)
                      · replace h := h.1 hb
                        refine reg_run [] 10 [(1, [], Value.slice script.ptr script.len script.cap), (5, [], Value.pointer v26), (7, [], Value.int .i64 v44), (8, [], Value.int .i64 v46), (9, [], Value.int .i64 i), (91, [], Value.bool true), (92, [], undef)] (by kernel_rfl) (by kernel_rfl) ?_
                        refine reg_run [.skip, .skip, .skip, .plain] 14 [(1, [], Value.slice script.ptr script.len script.cap), (5, [], Value.pointer v26), (7, [], Value.int .i64 v44), (8, [], Value.int .i64 v46), (9, [], Value.int .i64 i), (96, [], Value.bool true)] (by kernel_rfl) (by kernel_rfl) ?_
                        refine reg_end [(1, Value.slice script.ptr script.len script.cap), (5, Value.pointer v26), (7, Value.int .i64 v44), (8, Value.int .i64 v46), (9, Value.int .i64 i), (96, Value.bool true)] (by kernel_rfl) (by kernel_rfl) ?_
                        exact ⟨[(1, Value.slice script.ptr script.len script.cap), (5, Value.pointer v26), (7, Value.int .i64 v44), (8, Value.int .i64 v46), (9, Value.int .i64 i), (96, Value.bool true)], Sub.mk (by kernel_rfl), true, rfl, h⟩
                      · replace h := h.2 hb
                        refine reg_run [] 10 [(1, [], Value.slice script.ptr script.len script.cap), (5, [], Value.pointer v26), (7, [], Value.int .i64 v44), (8, [], Value.int .i64 v46), (9, [], Value.int .i64 i), (91, [], Value.bool false), (92, [], Value.pointer v26)] (by kernel_rfl) (by kernel_rfl) ?_
                        refine reg_run [] 10 [(1, [], Value.slice script.ptr script.len script.cap), (5, [], Value.pointer v26), (7, [], Value.int .i64 v44), (8, [], Value.int .i64 v46), (9, [], Value.int .i64 i), (91, [], Value.bool false), (92, [], Value.pointer v26)] (by kernel_rfl) (by kernel_rfl) ?_
                        refine reg_enter (op := (Go.Op.call (Go.Call.mk (Go.Callee.value (Go.Operand.func 19)) #[(Go.Operand.tmp 92)] #[27]))) (ty := 30) (dst := some 93) 19 #[Value.pointer v26] (by kernel_rfl) (fun ww => by kernel_rfl) (Calls.mono h ?_)
                        rintro _ w14 ⟨v93, rfl, h⟩
                        refine ⟨_, rfl, ?_⟩
                        refine reg_run [.sure, .sure, .plain] 14 [(1, [], Value.slice script.ptr script.len script.cap), (5, [], Value.pointer v26), (7, [], Value.int .i64 v44), (8, [], Value.int .i64 v46), (9, [], Value.int .i64 i), (96, [], Value.bool (v93 != v46))] (by kernel_rfl) (by kernel_rfl) ?_
                        refine reg_end [(1, Value.slice script.ptr script.len script.cap), (5, Value.pointer v26), (7, Value.int .i64 v44), (8, Value.int .i64 v46), (9, Value.int .i64 i), (96, Value.bool (v93 != v46))] (by kernel_rfl) (by kernel_rfl) ?_
                        exact ⟨[(1, Value.slice script.ptr script.len script.cap), (5, Value.pointer v26), (7, Value.int .i64 v44), (8, Value.int .i64 v46), (9, Value.int .i64 i), (96, Value.bool (v93 != v46))], Sub.mk (by kernel_rfl), (v93 != v46), rfl, h⟩
                  · rintro _ w12 ⟨t96, rfl, h⟩
                    unfold F_towpathlaw02_CodecStops_k5 at h
                    refine wpE_cond (o := (Operand.tmp 96)) (b := t96) (x := c_towpathlaw02_CodecStops_110) (y := c_towpathlaw02_CodecStops_114) (by kernel_rfl) (by kernel_rfl) (fun hb => ?_) (fun hb => ?_)
                    · replace h := h.1 hb
                      refine wpE_seq (x := c_towpathlaw02_CodecStops_111) (y := c_towpathlaw02_CodecStops_113) (by kernel_rfl) ?_
                      refine wpE_region (id := 27) (ops := r_towpathlaw02_CodecStops_111) (by kernel_rfl) ?_
                      refine reg_run [.plain] 1 [(4, [], Value.bool false)] (by kernel_rfl) (by kernel_rfl) ?_
                      refine reg_end [(4, Value.bool false)] (by kernel_rfl) (by kernel_rfl) ?_
                      change WpE _ _ c_towpathlaw02_CodecStops_113 _ _ _
                      refine wpE_ret (by kernel_rfl) ?_
                      repeat (first | refine seqQ_ret ?_ | refine blockQ_ret ?_ | refine loopQ_ret ?_ | refine cutQ_ret ?_)
                      exact retS (rs := [(Go.ResultVar.tmp 4)]) (v := Value.bool false) (by kernel_rfl) (⟨by kernel_rfl, trivial⟩) ⟨false, rfl, h⟩
                    · replace h := h.2 hb
                      refine wpE_skip (by kernel_rfl) ?_
                      change WpE _ _ c_towpathlaw02_CodecStops_115 _ _ _
                      refine wpE_region (id := 15) (ops := r_towpathlaw02_CodecStops_115) (by kernel_rfl) ?_
                      refine reg_run [.plain, .plain, .plain] 3 [(1, [], Value.slice script.ptr script.len script.cap), (5, [], Value.pointer v26), (7, [], Value.int .i64 v44), (8, [], Value.int .i64 v46), (9, [], Value.int .i64 (IntKind.i64.wrap (i + 1)))] (by kernel_rfl) (by kernel_rfl) ?_
                      refine reg_end [(1, Value.slice script.ptr script.len script.cap), (5, Value.pointer v26), (7, Value.int .i64 v44), (8, Value.int .i64 v46), (9, Value.int .i64 (IntKind.i64.wrap (i + 1)))] (by kernel_rfl) (by kernel_rfl) ?_
                      have hb_ := again__h _ _ h
                      exact ⟨_, hb_.2, [(1, Value.slice script.ptr script.len script.cap), (5, Value.pointer v26), (7, Value.int .i64 v44), (8, Value.int .i64 v46), (9, Value.int .i64 (IntKind.i64.wrap (i + 1)))], Sub.mk (by kernel_rfl), (IntKind.i64.wrap (i + 1)), rfl, hb_.1, rfl⟩
              · replace h := h.2 hb
                refine wpE_exit (id := 2) (by kernel_rfl) ?_
                change WpE _ _ c_towpathlaw02_CodecStops_117 _ _ _
                refine wpE_seq (x := c_towpathlaw02_CodecStops_118) (y := c_towpathlaw02_CodecStops_120) (by kernel_rfl) ?_
                refine wpE_region (id := 28) (ops := r_towpathlaw02_CodecStops_118) (by kernel_rfl) ?_
                refine reg_run [.plain] 1 [(4, [], Value.bool true)] (by kernel_rfl) (by kernel_rfl) ?_
                refine reg_end [(4, Value.bool true)] (by kernel_rfl) (by kernel_rfl) ?_
                change WpE _ _ c_towpathlaw02_CodecStops_120 _ _ _
                refine wpE_ret (by kernel_rfl) ?_
                repeat (first | refine seqQ_ret ?_ | refine blockQ_ret ?_ | refine loopQ_ret ?_ | refine cutQ_ret ?_)
                exact retS (rs := [(Go.ResultVar.tmp 4)]) (v := Value.bool true) (by kernel_rfl) (⟨by kernel_rfl, trivial⟩) ⟨true, rfl, h⟩
  · rintro e w' ⟨v, rfl, r0, rfl, h⟩; exact ⟨r0, rfl, h⟩
end Go.Proofs.Ytckmganidgbpgaa
