/- WRITTEN BY PROGRAM (dec.py): for each Go function the clean formula F, the call's contract C, and the proof S that F gives C. -/
import Derived.Test.YtckmganidgbpgaaRows
import Derived.Test.YtckmganidgbpgaaGF
namespace Go.Proofs.Ytckmganidgbpgaa
open Go
set_option linter.unusedVariables false

/-! ### towpath/towpathlaw04.DiskCuts (function 5) -/
noncomputable def c_towpathlaw04_DiskCuts_0 : Code := (Try.f5.body).getD Code.skip
noncomputable def c_towpathlaw04_DiskCuts_1 : Code := Code.l c_towpathlaw04_DiskCuts_0
noncomputable def r_towpathlaw04_DiskCuts_1 : Array Oper := Code.ops c_towpathlaw04_DiskCuts_1
noncomputable def c_towpathlaw04_DiskCuts_3 : Code := Code.r c_towpathlaw04_DiskCuts_0
noncomputable def c_towpathlaw04_DiskCuts_4 : Code := Code.l c_towpathlaw04_DiskCuts_3
noncomputable def c_towpathlaw04_DiskCuts_5 : Code := Code.l c_towpathlaw04_DiskCuts_4
noncomputable def r_towpathlaw04_DiskCuts_5 : Array Oper := Code.ops c_towpathlaw04_DiskCuts_5
noncomputable def c_towpathlaw04_DiskCuts_7 : Code := Code.r c_towpathlaw04_DiskCuts_4
noncomputable def c_towpathlaw04_DiskCuts_8 : Code := Code.l c_towpathlaw04_DiskCuts_7
noncomputable def c_towpathlaw04_DiskCuts_9 : Code := Code.l c_towpathlaw04_DiskCuts_8
noncomputable def r_towpathlaw04_DiskCuts_9 : Array Oper := Code.ops c_towpathlaw04_DiskCuts_9
noncomputable def c_towpathlaw04_DiskCuts_11 : Code := Code.r c_towpathlaw04_DiskCuts_8
noncomputable def c_towpathlaw04_DiskCuts_12 : Code := Code.r c_towpathlaw04_DiskCuts_7
noncomputable def c_towpathlaw04_DiskCuts_13 : Code := Code.r c_towpathlaw04_DiskCuts_3
noncomputable def c_towpathlaw04_DiskCuts_14 : Code := Code.l c_towpathlaw04_DiskCuts_13
noncomputable def r_towpathlaw04_DiskCuts_14 : Array Oper := Code.ops c_towpathlaw04_DiskCuts_14
noncomputable def c_towpathlaw04_DiskCuts_16 : Code := Code.r c_towpathlaw04_DiskCuts_13
noncomputable def c_towpathlaw04_DiskCuts_17 : Code := Code.l c_towpathlaw04_DiskCuts_16
noncomputable def c_towpathlaw04_DiskCuts_18 : Code := Code.l c_towpathlaw04_DiskCuts_17
noncomputable def r_towpathlaw04_DiskCuts_18 : Array Oper := Code.ops c_towpathlaw04_DiskCuts_18
noncomputable def c_towpathlaw04_DiskCuts_20 : Code := Code.r c_towpathlaw04_DiskCuts_17
noncomputable def c_towpathlaw04_DiskCuts_21 : Code := Code.l c_towpathlaw04_DiskCuts_20
noncomputable def c_towpathlaw04_DiskCuts_22 : Code := Code.l c_towpathlaw04_DiskCuts_21
noncomputable def r_towpathlaw04_DiskCuts_22 : Array Oper := Code.ops c_towpathlaw04_DiskCuts_22
noncomputable def c_towpathlaw04_DiskCuts_24 : Code := Code.r c_towpathlaw04_DiskCuts_21
noncomputable def c_towpathlaw04_DiskCuts_25 : Code := Code.r c_towpathlaw04_DiskCuts_20
noncomputable def c_towpathlaw04_DiskCuts_26 : Code := Code.r c_towpathlaw04_DiskCuts_16
noncomputable def c_towpathlaw04_DiskCuts_27 : Code := Code.l c_towpathlaw04_DiskCuts_26
noncomputable def r_towpathlaw04_DiskCuts_27 : Array Oper := Code.ops c_towpathlaw04_DiskCuts_27
noncomputable def c_towpathlaw04_DiskCuts_29 : Code := Code.r c_towpathlaw04_DiskCuts_26
noncomputable def c_towpathlaw04_DiskCuts_30 : Code := Code.l c_towpathlaw04_DiskCuts_29
noncomputable def r_towpathlaw04_DiskCuts_30 : Array Oper := Code.ops c_towpathlaw04_DiskCuts_30
noncomputable def c_towpathlaw04_DiskCuts_32 : Code := Code.r c_towpathlaw04_DiskCuts_29
noncomputable def c_towpathlaw04_DiskCuts_33 : Code := Code.l c_towpathlaw04_DiskCuts_32
noncomputable def c_towpathlaw04_DiskCuts_34 : Code := Code.l c_towpathlaw04_DiskCuts_33
noncomputable def r_towpathlaw04_DiskCuts_34 : Array Oper := Code.ops c_towpathlaw04_DiskCuts_34
noncomputable def c_towpathlaw04_DiskCuts_36 : Code := Code.r c_towpathlaw04_DiskCuts_33
noncomputable def c_towpathlaw04_DiskCuts_37 : Code := Code.l c_towpathlaw04_DiskCuts_36
noncomputable def c_towpathlaw04_DiskCuts_38 : Code := Code.l c_towpathlaw04_DiskCuts_37
noncomputable def c_towpathlaw04_DiskCuts_39 : Code := Code.l c_towpathlaw04_DiskCuts_38
noncomputable def c_towpathlaw04_DiskCuts_40 : Code := Code.l c_towpathlaw04_DiskCuts_39
noncomputable def r_towpathlaw04_DiskCuts_40 : Array Oper := Code.ops c_towpathlaw04_DiskCuts_40
noncomputable def c_towpathlaw04_DiskCuts_42 : Code := Code.r c_towpathlaw04_DiskCuts_39
noncomputable def c_towpathlaw04_DiskCuts_43 : Code := Code.l c_towpathlaw04_DiskCuts_42
noncomputable def c_towpathlaw04_DiskCuts_44 : Code := Code.r c_towpathlaw04_DiskCuts_42
noncomputable def c_towpathlaw04_DiskCuts_45 : Code := Code.r c_towpathlaw04_DiskCuts_38
noncomputable def c_towpathlaw04_DiskCuts_46 : Code := Code.l c_towpathlaw04_DiskCuts_45
noncomputable def c_towpathlaw04_DiskCuts_47 : Code := Code.l c_towpathlaw04_DiskCuts_46
noncomputable def c_towpathlaw04_DiskCuts_48 : Code := Code.l c_towpathlaw04_DiskCuts_47
noncomputable def r_towpathlaw04_DiskCuts_48 : Array Oper := Code.ops c_towpathlaw04_DiskCuts_48
noncomputable def c_towpathlaw04_DiskCuts_50 : Code := Code.r c_towpathlaw04_DiskCuts_47
noncomputable def c_towpathlaw04_DiskCuts_51 : Code := Code.l c_towpathlaw04_DiskCuts_50
noncomputable def c_towpathlaw04_DiskCuts_52 : Code := Code.l c_towpathlaw04_DiskCuts_51
noncomputable def r_towpathlaw04_DiskCuts_52 : Array Oper := Code.ops c_towpathlaw04_DiskCuts_52
noncomputable def c_towpathlaw04_DiskCuts_54 : Code := Code.r c_towpathlaw04_DiskCuts_51
noncomputable def c_towpathlaw04_DiskCuts_55 : Code := Code.l c_towpathlaw04_DiskCuts_54
noncomputable def r_towpathlaw04_DiskCuts_55 : Array Oper := Code.ops c_towpathlaw04_DiskCuts_55
noncomputable def c_towpathlaw04_DiskCuts_57 : Code := Code.r c_towpathlaw04_DiskCuts_54
noncomputable def c_towpathlaw04_DiskCuts_58 : Code := Code.r c_towpathlaw04_DiskCuts_50
noncomputable def c_towpathlaw04_DiskCuts_59 : Code := Code.l c_towpathlaw04_DiskCuts_58
noncomputable def r_towpathlaw04_DiskCuts_59 : Array Oper := Code.ops c_towpathlaw04_DiskCuts_59
noncomputable def c_towpathlaw04_DiskCuts_61 : Code := Code.r c_towpathlaw04_DiskCuts_58
noncomputable def c_towpathlaw04_DiskCuts_62 : Code := Code.l c_towpathlaw04_DiskCuts_61
noncomputable def c_towpathlaw04_DiskCuts_63 : Code := Code.l c_towpathlaw04_DiskCuts_62
noncomputable def r_towpathlaw04_DiskCuts_63 : Array Oper := Code.ops c_towpathlaw04_DiskCuts_63
noncomputable def c_towpathlaw04_DiskCuts_65 : Code := Code.r c_towpathlaw04_DiskCuts_62
noncomputable def c_towpathlaw04_DiskCuts_66 : Code := Code.l c_towpathlaw04_DiskCuts_65
noncomputable def c_towpathlaw04_DiskCuts_67 : Code := Code.l c_towpathlaw04_DiskCuts_66
noncomputable def c_towpathlaw04_DiskCuts_68 : Code := Code.l c_towpathlaw04_DiskCuts_67
noncomputable def r_towpathlaw04_DiskCuts_68 : Array Oper := Code.ops c_towpathlaw04_DiskCuts_68
noncomputable def c_towpathlaw04_DiskCuts_70 : Code := Code.r c_towpathlaw04_DiskCuts_67
noncomputable def c_towpathlaw04_DiskCuts_71 : Code := Code.l c_towpathlaw04_DiskCuts_70
noncomputable def c_towpathlaw04_DiskCuts_72 : Code := Code.l c_towpathlaw04_DiskCuts_71
noncomputable def r_towpathlaw04_DiskCuts_72 : Array Oper := Code.ops c_towpathlaw04_DiskCuts_72
noncomputable def c_towpathlaw04_DiskCuts_74 : Code := Code.r c_towpathlaw04_DiskCuts_71
noncomputable def c_towpathlaw04_DiskCuts_75 : Code := Code.r c_towpathlaw04_DiskCuts_70
noncomputable def c_towpathlaw04_DiskCuts_76 : Code := Code.r c_towpathlaw04_DiskCuts_66
noncomputable def r_towpathlaw04_DiskCuts_76 : Array Oper := Code.ops c_towpathlaw04_DiskCuts_76
noncomputable def c_towpathlaw04_DiskCuts_78 : Code := Code.r c_towpathlaw04_DiskCuts_65
noncomputable def c_towpathlaw04_DiskCuts_79 : Code := Code.l c_towpathlaw04_DiskCuts_78
noncomputable def r_towpathlaw04_DiskCuts_79 : Array Oper := Code.ops c_towpathlaw04_DiskCuts_79
noncomputable def c_towpathlaw04_DiskCuts_81 : Code := Code.r c_towpathlaw04_DiskCuts_78
noncomputable def c_towpathlaw04_DiskCuts_82 : Code := Code.l c_towpathlaw04_DiskCuts_81
noncomputable def c_towpathlaw04_DiskCuts_83 : Code := Code.l c_towpathlaw04_DiskCuts_82
noncomputable def r_towpathlaw04_DiskCuts_83 : Array Oper := Code.ops c_towpathlaw04_DiskCuts_83
noncomputable def c_towpathlaw04_DiskCuts_85 : Code := Code.r c_towpathlaw04_DiskCuts_82
noncomputable def c_towpathlaw04_DiskCuts_86 : Code := Code.r c_towpathlaw04_DiskCuts_81
noncomputable def c_towpathlaw04_DiskCuts_87 : Code := Code.r c_towpathlaw04_DiskCuts_61
noncomputable def c_towpathlaw04_DiskCuts_88 : Code := Code.l c_towpathlaw04_DiskCuts_87
noncomputable def r_towpathlaw04_DiskCuts_88 : Array Oper := Code.ops c_towpathlaw04_DiskCuts_88
noncomputable def c_towpathlaw04_DiskCuts_90 : Code := Code.r c_towpathlaw04_DiskCuts_87
noncomputable def c_towpathlaw04_DiskCuts_91 : Code := Code.l c_towpathlaw04_DiskCuts_90
noncomputable def r_towpathlaw04_DiskCuts_91 : Array Oper := Code.ops c_towpathlaw04_DiskCuts_91
noncomputable def c_towpathlaw04_DiskCuts_93 : Code := Code.r c_towpathlaw04_DiskCuts_90
noncomputable def c_towpathlaw04_DiskCuts_94 : Code := Code.l c_towpathlaw04_DiskCuts_93
noncomputable def r_towpathlaw04_DiskCuts_94 : Array Oper := Code.ops c_towpathlaw04_DiskCuts_94
noncomputable def c_towpathlaw04_DiskCuts_96 : Code := Code.r c_towpathlaw04_DiskCuts_93
noncomputable def c_towpathlaw04_DiskCuts_97 : Code := Code.l c_towpathlaw04_DiskCuts_96
noncomputable def c_towpathlaw04_DiskCuts_98 : Code := Code.l c_towpathlaw04_DiskCuts_97
noncomputable def r_towpathlaw04_DiskCuts_98 : Array Oper := Code.ops c_towpathlaw04_DiskCuts_98
noncomputable def c_towpathlaw04_DiskCuts_100 : Code := Code.r c_towpathlaw04_DiskCuts_97
noncomputable def c_towpathlaw04_DiskCuts_101 : Code := Code.r c_towpathlaw04_DiskCuts_96
noncomputable def c_towpathlaw04_DiskCuts_102 : Code := Code.r c_towpathlaw04_DiskCuts_45
noncomputable def r_towpathlaw04_DiskCuts_102 : Array Oper := Code.ops c_towpathlaw04_DiskCuts_102
noncomputable def c_towpathlaw04_DiskCuts_104 : Code := Code.r c_towpathlaw04_DiskCuts_32
noncomputable def c_towpathlaw04_DiskCuts_105 : Code := Code.l c_towpathlaw04_DiskCuts_104
noncomputable def r_towpathlaw04_DiskCuts_105 : Array Oper := Code.ops c_towpathlaw04_DiskCuts_105
noncomputable def c_towpathlaw04_DiskCuts_107 : Code := Code.r c_towpathlaw04_DiskCuts_104

set_option maxRecDepth 100000 in
set_option maxHeartbeats 4000000 in
theorem S_towpathlaw04_DiskCuts {n_ : Int} {blocks : Slc} {w : World} {R : Bool → World → Prop} (h : F_towpathlaw04_DiskCuts n_ blocks R w) : C_towpathlaw04_DiskCuts n_ blocks w R := by
  unfold F_towpathlaw04_DiskCuts at h
  unfold C_towpathlaw04_DiskCuts
  refine Calls.mono (calls_of_wpE (args := [Value.int .u8 n_, Value.slice blocks.ptr blocks.len blocks.cap]) (R := fun v w' => ∃ (r0 : Bool), v = Value.bool r0 ∧ R r0 w') Try.func5 (c := c_towpathlaw04_DiskCuts_0) (by kernel_rfl) 119 (by kernel_rfl) (by kernel_rfl) [(0, Value.int .u8 n_), (1, Value.slice blocks.ptr blocks.len blocks.cap)] (by kernel_rfl) ?_) ?_
  · refine wpE_seq (x := c_towpathlaw04_DiskCuts_1) (y := c_towpathlaw04_DiskCuts_3) (by kernel_rfl) ?_
    refine wpE_region (id := 0) (ops := r_towpathlaw04_DiskCuts_1) (by kernel_rfl) ?_
    refine reg_run [.plain] 1 [(0, [], Value.int .u8 n_), (1, [], Value.slice blocks.ptr blocks.len blocks.cap)] (by kernel_rfl) (by kernel_rfl) ?_
    refine reg_end [(0, Value.int .u8 n_), (1, Value.slice blocks.ptr blocks.len blocks.cap)] (by kernel_rfl) (by kernel_rfl) ?_
    change WpE _ _ c_towpathlaw04_DiskCuts_3 _ _ _
    refine wpE_seq (x := c_towpathlaw04_DiskCuts_4) (y := c_towpathlaw04_DiskCuts_13) (by kernel_rfl) ?_
    refine wpE_seq (x := c_towpathlaw04_DiskCuts_5) (y := c_towpathlaw04_DiskCuts_7) (by kernel_rfl) ?_
    refine wpE_region (id := 1) (ops := r_towpathlaw04_DiskCuts_5) (by kernel_rfl) ?_
    refine reg_run [] 0 [(0, [], Value.int .u8 n_), (1, [], Value.slice blocks.ptr blocks.len blocks.cap)] (by kernel_rfl) (by kernel_rfl) ?_
    refine reg_enter (op := (Go.Op.call (Go.Call.mk (Go.Callee.value (Go.Operand.func 24)) #[] #[]))) (ty := 4) (dst := some 14) 24 #[] (by kernel_rfl) (fun ww => by kernel_rfl) (Calls.mono h ?_)
    rintro _ w1 ⟨v14, rfl, h⟩
    refine ⟨_, rfl, ?_⟩
    refine reg_run [.plain, .plain, .plain, .plain, .plain, .pick] 7 [(0, [], Value.int .u8 n_), (1, [], Value.slice blocks.ptr blocks.len blocks.cap), (20, [], Value.bool ((!v14) || (decide (((blocks.len : Nat) : Int) > 300))))] (by kernel_rfl) (by kernel_rfl) ?_
    refine reg_end [(0, Value.int .u8 n_), (1, Value.slice blocks.ptr blocks.len blocks.cap), (20, Value.bool ((!v14) || (decide (((blocks.len : Nat) : Int) > 300))))] (by kernel_rfl) (by kernel_rfl) ?_
    change WpE _ _ c_towpathlaw04_DiskCuts_7 _ _ _
    refine wpE_cond (o := (Operand.tmp 20)) (b := ((!v14) || (decide (((blocks.len : Nat) : Int) > 300)))) (x := c_towpathlaw04_DiskCuts_8) (y := c_towpathlaw04_DiskCuts_12) (by kernel_rfl) (by kernel_rfl) (fun hb => ?_) (fun hb => ?_)
    · replace h := h.1 hb
      refine wpE_seq (x := c_towpathlaw04_DiskCuts_9) (y := c_towpathlaw04_DiskCuts_11) (by kernel_rfl) ?_
      refine wpE_region (id := 2) (ops := r_towpathlaw04_DiskCuts_9) (by kernel_rfl) ?_
      refine reg_run [] 0 [] (by kernel_rfl) (by kernel_rfl) ?_
      refine reg_enter (op := (Go.Op.call (Go.Call.mk (Go.Callee.value (Go.Operand.func 24)) #[] #[]))) (ty := 4) (dst := some 21) 24 #[] (by kernel_rfl) (fun ww => by kernel_rfl) (Calls.mono h ?_)
      rintro _ w2 ⟨v21, rfl, h⟩
      refine ⟨_, rfl, ?_⟩
      refine reg_run [.plain] 2 [(4, [], Value.bool v21)] (by kernel_rfl) (by kernel_rfl) ?_
      refine reg_end [(4, Value.bool v21)] (by kernel_rfl) (by kernel_rfl) ?_
      change WpE _ _ c_towpathlaw04_DiskCuts_11 _ _ _
      refine wpE_ret (by kernel_rfl) ?_
      repeat (first | refine seqQ_ret ?_ | refine blockQ_ret ?_ | refine loopQ_ret ?_ | refine cutQ_ret ?_)
      exact retS (rs := [(Go.ResultVar.tmp 4)]) (v := Value.bool v21) (by kernel_rfl) (⟨by kernel_rfl, trivial⟩) ⟨v21, rfl, h⟩
    · replace h := h.2 hb
      refine wpE_skip (by kernel_rfl) ?_
      change WpE _ _ c_towpathlaw04_DiskCuts_13 _ _ _
      refine wpE_seq (x := c_towpathlaw04_DiskCuts_14) (y := c_towpathlaw04_DiskCuts_16) (by kernel_rfl) ?_
      refine wpE_region (id := 3) (ops := r_towpathlaw04_DiskCuts_14) (by kernel_rfl) ?_
      refine reg_run [] 0 [(0, [], Value.int .u8 n_), (1, [], Value.slice blocks.ptr blocks.len blocks.cap)] (by kernel_rfl) (by kernel_rfl) ?_
      refine reg_enter (op := (Go.Op.call (Go.Call.mk (Go.Callee.value (Go.Operand.func 25)) #[(Go.Operand.const (Go.Value.int Go.IntKind.i64 65536))] #[3]))) (ty := 57) (dst := some 23) 25 #[Value.int .i64 65536] (by kernel_rfl) (fun ww => by kernel_rfl) (Calls.mono h ?_)
      rintro _ w3 ⟨d, e, rfl, h⟩
      refine ⟨_, rfl, ?_⟩
      refine reg_run [.plain, .plain, .plain, .plain, .plain] 6 [(0, [], Value.int .u8 n_), (1, [], Value.slice blocks.ptr blocks.len blocks.cap), (5, [], Value.pointer d), (6, [], Value.int .i64 e)] (by kernel_rfl) (by kernel_rfl) ?_
      refine reg_end [(0, Value.int .u8 n_), (1, Value.slice blocks.ptr blocks.len blocks.cap), (5, Value.pointer d), (6, Value.int .i64 e)] (by kernel_rfl) (by kernel_rfl) ?_
      change WpE _ _ c_towpathlaw04_DiskCuts_16 _ _ _
      refine wpE_seq (x := c_towpathlaw04_DiskCuts_17) (y := c_towpathlaw04_DiskCuts_26) (by kernel_rfl) ?_
      refine wpE_seq_cut (x := c_towpathlaw04_DiskCuts_18) (y := c_towpathlaw04_DiskCuts_20) (by kernel_rfl) (fun l w => ∃ (t34 : Bool), l = [(0, Value.int .u8 n_), (1, Value.slice blocks.ptr blocks.len blocks.cap), (5, Value.pointer d), (34, Value.bool t34)] ∧ F_towpathlaw04_DiskCuts_k0 n_ blocks R d t34 w) ?_ ?_
      · refine wpE_region (id := 4) (ops := r_towpathlaw04_DiskCuts_18) (by kernel_rfl) ?_
        refine reg_run [.plain, .plain, .plain, .plain, .plain, .plain] 6 [(0, [], Value.int .u8 n_), (1, [], Value.slice blocks.ptr blocks.len blocks.cap), (5, [], Value.pointer d), (28, [], Value.bool (e != 0)), (29, [(28, false)], Value.pointer d), (31, [(28, false)], Value.int .i64 (IntKind.i64.wrap n_))] (by kernel_rfl) (by kernel_rfl) ?_
        refine reg_split 28 (e != 0) (by kernel_rfl) (fun hb => ?_) (fun hb => ?_)
        · replace h := h.1 hb
          refine reg_run [] 6 [(0, [], Value.int .u8 n_), (1, [], Value.slice blocks.ptr blocks.len blocks.cap), (5, [], Value.pointer d), (28, [], Value.bool true), (29, [], undef), (31, [], undef)] (by kernel_rfl) (by kernel_rfl) ?_
          refine reg_run [.skip, .skip, .plain] 9 [(0, [], Value.int .u8 n_), (1, [], Value.slice blocks.ptr blocks.len blocks.cap), (5, [], Value.pointer d), (34, [], Value.bool true)] (by kernel_rfl) (by kernel_rfl) ?_
          refine reg_end [(0, Value.int .u8 n_), (1, Value.slice blocks.ptr blocks.len blocks.cap), (5, Value.pointer d), (34, Value.bool true)] (by kernel_rfl) (by kernel_rfl) ?_
          exact ⟨[(0, Value.int .u8 n_), (1, Value.slice blocks.ptr blocks.len blocks.cap), (5, Value.pointer d), (34, Value.bool true)], Sub.mk (by kernel_rfl), true, rfl, h⟩
        · replace h := h.2 hb
          refine reg_run [] 6 [(0, [], Value.int .u8 n_), (1, [], Value.slice blocks.ptr blocks.len blocks.cap), (5, [], Value.pointer d), (28, [], Value.bool false), (29, [], Value.pointer d), (31, [], Value.int .i64 (IntKind.i64.wrap n_))] (by kernel_rfl) (by kernel_rfl) ?_
          refine reg_run [] 6 [(0, [], Value.int .u8 n_), (1, [], Value.slice blocks.ptr blocks.len blocks.cap), (5, [], Value.pointer d), (28, [], Value.bool false), (29, [], Value.pointer d), (31, [], Value.int .i64 (IntKind.i64.wrap n_))] (by kernel_rfl) (by kernel_rfl) ?_
          refine reg_enter (op := (Go.Op.call (Go.Call.mk (Go.Callee.value (Go.Operand.func 26)) #[(Go.Operand.tmp 29), (Go.Operand.tmp 31)] #[47, 3]))) (ty := 30) (dst := some 32) 26 #[Value.pointer d, Value.int .i64 (IntKind.i64.wrap n_)] (by kernel_rfl) (fun ww => by kernel_rfl) (Calls.mono h ?_)
          rintro _ w23 ⟨v32, rfl, h⟩
          refine ⟨_, rfl, ?_⟩
          refine reg_run [.sure, .plain] 9 [(0, [], Value.int .u8 n_), (1, [], Value.slice blocks.ptr blocks.len blocks.cap), (5, [], Value.pointer d), (34, [], Value.bool (v32 != 0))] (by kernel_rfl) (by kernel_rfl) ?_
          refine reg_end [(0, Value.int .u8 n_), (1, Value.slice blocks.ptr blocks.len blocks.cap), (5, Value.pointer d), (34, Value.bool (v32 != 0))] (by kernel_rfl) (by kernel_rfl) ?_
          exact ⟨[(0, Value.int .u8 n_), (1, Value.slice blocks.ptr blocks.len blocks.cap), (5, Value.pointer d), (34, Value.bool (v32 != 0))], Sub.mk (by kernel_rfl), (v32 != 0), rfl, h⟩
      · rintro _ w4 ⟨t34, rfl, h⟩
        unfold F_towpathlaw04_DiskCuts_k0 at h
        refine wpE_cond (o := (Operand.tmp 34)) (b := t34) (x := c_towpathlaw04_DiskCuts_21) (y := c_towpathlaw04_DiskCuts_25) (by kernel_rfl) (by kernel_rfl) (fun hb => ?_) (fun hb => ?_)
        · replace h := h.1 hb
          refine wpE_seq (x := c_towpathlaw04_DiskCuts_22) (y := c_towpathlaw04_DiskCuts_24) (by kernel_rfl) ?_
          refine wpE_region (id := 5) (ops := r_towpathlaw04_DiskCuts_22) (by kernel_rfl) ?_
          refine reg_run [.plain] 1 [(4, [], Value.bool false)] (by kernel_rfl) (by kernel_rfl) ?_
          refine reg_end [(4, Value.bool false)] (by kernel_rfl) (by kernel_rfl) ?_
          change WpE _ _ c_towpathlaw04_DiskCuts_24 _ _ _
          refine wpE_ret (by kernel_rfl) ?_
          repeat (first | refine seqQ_ret ?_ | refine blockQ_ret ?_ | refine loopQ_ret ?_ | refine cutQ_ret ?_)
          exact retS (rs := [(Go.ResultVar.tmp 4)]) (v := Value.bool false) (by kernel_rfl) (⟨by kernel_rfl, trivial⟩) ⟨false, rfl, h⟩
        · replace h := h.2 hb
          refine wpE_skip (by kernel_rfl) ?_
          change WpE _ _ c_towpathlaw04_DiskCuts_26 _ _ _
          refine wpE_seq (x := c_towpathlaw04_DiskCuts_27) (y := c_towpathlaw04_DiskCuts_29) (by kernel_rfl) ?_
          refine wpE_region (id := 6) (ops := r_towpathlaw04_DiskCuts_27) (by kernel_rfl) ?_
          refine reg_run [.plain] 1 [(0, [], Value.int .u8 n_), (1, [], Value.slice blocks.ptr blocks.len blocks.cap), (5, [], Value.pointer d), (7, [], Value.slice none 0 0)] (by kernel_rfl) (by kernel_rfl) ?_
          refine reg_end [(0, Value.int .u8 n_), (1, Value.slice blocks.ptr blocks.len blocks.cap), (5, Value.pointer d), (7, Value.slice none 0 0)] (by kernel_rfl) (by kernel_rfl) ?_
          change WpE _ _ c_towpathlaw04_DiskCuts_29 _ _ _
          refine wpE_seq (x := c_towpathlaw04_DiskCuts_30) (y := c_towpathlaw04_DiskCuts_32) (by kernel_rfl) ?_
          refine wpE_region (id := 7) (ops := r_towpathlaw04_DiskCuts_30) (by kernel_rfl) ?_
          refine reg_run [.plain] 1 [(0, [], Value.int .u8 n_), (1, [], Value.slice blocks.ptr blocks.len blocks.cap), (5, [], Value.pointer d), (7, [], Value.slice none 0 0), (8, [], Value.int .i64 0)] (by kernel_rfl) (by kernel_rfl) ?_
          refine reg_end [(0, Value.int .u8 n_), (1, Value.slice blocks.ptr blocks.len blocks.cap), (5, Value.pointer d), (7, Value.slice none 0 0), (8, Value.int .i64 0)] (by kernel_rfl) (by kernel_rfl) ?_
          change WpE _ _ c_towpathlaw04_DiskCuts_32 _ _ _
          refine wpE_seq (x := c_towpathlaw04_DiskCuts_33) (y := c_towpathlaw04_DiskCuts_104) (by kernel_rfl) ?_
          refine wpE_seq (x := c_towpathlaw04_DiskCuts_34) (y := c_towpathlaw04_DiskCuts_36) (by kernel_rfl) ?_
          refine wpE_region (id := 8) (ops := r_towpathlaw04_DiskCuts_34) (by kernel_rfl) ?_
          refine reg_run [.plain] 1 [(0, [], Value.int .u8 n_), (1, [], Value.slice blocks.ptr blocks.len blocks.cap), (5, [], Value.pointer d), (7, [], Value.slice none 0 0), (8, [], Value.int .i64 0), (9, [], Value.int .i64 0)] (by kernel_rfl) (by kernel_rfl) ?_
          refine reg_end [(0, Value.int .u8 n_), (1, Value.slice blocks.ptr blocks.len blocks.cap), (5, Value.pointer d), (7, Value.slice none 0 0), (8, Value.int .i64 0), (9, Value.int .i64 0)] (by kernel_rfl) (by kernel_rfl) ?_
          change WpE _ _ c_towpathlaw04_DiskCuts_36 _ _ _
          refine wpE_block (id := 0) (x := c_towpathlaw04_DiskCuts_37) (by kernel_rfl) ?_
          obtain ⟨I, μ, h0, hr⟩ := h
          refine wpE_loop (x := c_towpathlaw04_DiskCuts_38) (by kernel_rfl) (fun m l w => ∃ (want : Slc) (asked : Int) (i : Int), l = [(0, Value.int .u8 n_), (1, Value.slice blocks.ptr blocks.len blocks.cap), (5, Value.pointer d), (7, Value.slice want.ptr want.len want.cap), (8, Value.int .i64 asked), (9, Value.int .i64 i)] ∧ I want asked i w ∧ μ want asked i w = m) (l' := [(0, Value.int .u8 n_), (1, Value.slice blocks.ptr blocks.len blocks.cap), (5, Value.pointer d), (7, Value.slice none 0 0), (8, Value.int .i64 0), (9, Value.int .i64 0)]) (Sub.mk (by kernel_rfl)) ⟨(Slc.mk none 0 0), 0, 0, rfl, h0, rfl⟩ ?_
          rintro _ _ w5 ⟨want, asked, i, rfl, hI, rfl⟩
          obtain ⟨again_, again__h, h⟩ : ∃ again_ : Slc → Int → Int → World → Prop, (∀ want' asked' i' w', again_ want' asked' i' w' → I want' asked' i' w' ∧ μ want' asked' i' w' < μ want asked i w5) ∧ F_towpathlaw04_DiskCuts_L1 n_ blocks R d again_ want asked i w5 := ⟨_, fun _ _ _ _ h => h, hr want asked i w5 hI⟩
          clear h0 hI
          unfold F_towpathlaw04_DiskCuts_L1 at h
          refine wpE_seq (x := c_towpathlaw04_DiskCuts_39) (y := c_towpathlaw04_DiskCuts_45) (by kernel_rfl) ?_
          refine wpE_seq (x := c_towpathlaw04_DiskCuts_40) (y := c_towpathlaw04_DiskCuts_42) (by kernel_rfl) ?_
          refine wpE_region (id := 9) (ops := r_towpathlaw04_DiskCuts_40) (by kernel_rfl) ?_
          refine reg_run [.plain, .plain, .plain, .plain] 4 [(0, [], Value.int .u8 n_), (1, [], Value.slice blocks.ptr blocks.len blocks.cap), (5, [], Value.pointer d), (7, [], Value.slice want.ptr want.len want.cap), (8, [], Value.int .i64 asked), (9, [], Value.int .i64 i), (38, [], Value.bool (decide (i < ((blocks.len : Nat) : Int))))] (by kernel_rfl) (by kernel_rfl) ?_
          refine reg_end [(0, Value.int .u8 n_), (1, Value.slice blocks.ptr blocks.len blocks.cap), (5, Value.pointer d), (7, Value.slice want.ptr want.len want.cap), (8, Value.int .i64 asked), (9, Value.int .i64 i), (38, Value.bool (decide (i < ((blocks.len : Nat) : Int))))] (by kernel_rfl) (by kernel_rfl) ?_
          change WpE _ _ c_towpathlaw04_DiskCuts_42 _ _ _
          refine wpE_cond (o := (Operand.tmp 38)) (b := (decide (i < ((blocks.len : Nat) : Int)))) (x := c_towpathlaw04_DiskCuts_43) (y := c_towpathlaw04_DiskCuts_44) (by kernel_rfl) (by kernel_rfl) (fun hb => ?_) (fun hb => ?_)
          · replace h := h.1 hb
            refine wpE_skip (by kernel_rfl) ?_
            change WpE _ _ c_towpathlaw04_DiskCuts_45 _ _ _
            refine wpE_seq (x := c_towpathlaw04_DiskCuts_46) (y := c_towpathlaw04_DiskCuts_102) (by kernel_rfl) ?_
            refine wpE_block (id := 1) (x := c_towpathlaw04_DiskCuts_47) (by kernel_rfl) ?_
            refine wpE_seq (x := c_towpathlaw04_DiskCuts_48) (y := c_towpathlaw04_DiskCuts_50) (by kernel_rfl) ?_
            refine wpE_region (id := 11) (ops := r_towpathlaw04_DiskCuts_48) (by kernel_rfl) ?_
            refine reg_run [.plain, .plain] 2 [(0, [], Value.int .u8 n_), (1, [], Value.slice blocks.ptr blocks.len blocks.cap), (5, [], Value.pointer d), (7, [], Value.slice want.ptr want.len want.cap), (8, [], Value.int .i64 asked), (9, [], Value.int .i64 i), (41, [], Value.slice blocks.ptr blocks.len blocks.cap), (42, [], Value.int .i64 i)] (by kernel_rfl) (by kernel_rfl) ?_
            obtain ⟨hp_7, h⟩ := h
            refine reg_conv [(0, [], Value.int .u8 n_), (1, [], Value.slice blocks.ptr blocks.len blocks.cap), (5, [], Value.pointer d), (7, [], Value.slice want.ptr want.len want.cap), (8, [], Value.int .i64 asked), (9, [], Value.int .i64 i), (41, [], Value.slice (some ⟨(pblk blocks.ptr), (poff blocks.ptr), none⟩) blocks.len blocks.cap), (42, [], Value.int .i64 i)] (congrArg (fun pp => ([(0, [], Value.int .u8 n_), (1, [], Value.slice blocks.ptr blocks.len blocks.cap), (5, [], Value.pointer d), (7, [], Value.slice want.ptr want.len want.cap), (8, [], Value.int .i64 asked), (9, [], Value.int .i64 i), (41, [], Value.slice pp blocks.len blocks.cap), (42, [], Value.int .i64 i)] : GEnv)) hp_7) ?_
            obtain ⟨h0, h1, h⟩ := h
            refine reg_indexS1 (t := 55) (e := 22) (x := (Go.Operand.tmp 41)) (ix := (Go.Operand.tmp 42)) (b := (pblk blocks.ptr)) (o := (poff blocks.ptr)) (l := blocks.len) (c := blocks.cap) (k := .i64) (j := i) (ty := 0) (dst := some 43) (by kernel_rfl) (by kernel_rfl) (by kernel_rfl) (by kernel_rfl) (by kernel_rfl) h0 h1 ?_
            refine reg_run [] 3 [(0, [], Value.int .u8 n_), (1, [], Value.slice blocks.ptr blocks.len blocks.cap), (5, [], Value.pointer d), (7, [], Value.slice want.ptr want.len want.cap), (8, [], Value.int .i64 asked), (9, [], Value.int .i64 i), (43, [], Value.pointer (some ⟨(pblk blocks.ptr), (poff blocks.ptr) + i.toNat, none⟩))] (by kernel_rfl) (by kernel_rfl) ?_
            obtain ⟨b_, hc, h⟩ := h
            refine reg_load1 (t := 22) (a := (Go.Operand.tmp 43)) (b := (pblk blocks.ptr)) (o := ((poff blocks.ptr) + i.toNat)) (ty := 22) (dst := some 44) (by kernel_rfl) (by kernel_rfl) (by kernel_rfl) hc ?_
            refine reg_run [.plain] 5 [(0, [], Value.int .u8 n_), (1, [], Value.slice blocks.ptr blocks.len blocks.cap), (5, [], Value.pointer d), (7, [], Value.slice want.ptr want.len want.cap), (8, [], Value.int .i64 asked), (9, [], Value.int .i64 i), (10, [], Value.slice b_.ptr b_.len b_.cap)] (by kernel_rfl) (by kernel_rfl) ?_
            refine reg_end [(0, Value.int .u8 n_), (1, Value.slice blocks.ptr blocks.len blocks.cap), (5, Value.pointer d), (7, Value.slice want.ptr want.len want.cap), (8, Value.int .i64 asked), (9, Value.int .i64 i), (10, Value.slice b_.ptr b_.len b_.cap)] (by kernel_rfl) (by kernel_rfl) ?_
            change WpE _ _ c_towpathlaw04_DiskCuts_50 _ _ _
            refine wpE_seq_cut (x := c_towpathlaw04_DiskCuts_51) (y := c_towpathlaw04_DiskCuts_58) (by kernel_rfl) (fun l w => ∃ (b_1 : Slc), l = [(0, Value.int .u8 n_), (1, Value.slice blocks.ptr blocks.len blocks.cap), (5, Value.pointer d), (7, Value.slice want.ptr want.len want.cap), (8, Value.int .i64 asked), (9, Value.int .i64 i), (10, Value.slice b_1.ptr b_1.len b_1.cap)] ∧ F_towpathlaw04_DiskCuts_k2 n_ R d want asked i again_ b_1 w) ?_ ?_
            · refine wpE_seq (x := c_towpathlaw04_DiskCuts_52) (y := c_towpathlaw04_DiskCuts_54) (by kernel_rfl) ?_
              refine wpE_region (id := 12) (ops := r_towpathlaw04_DiskCuts_52) (by kernel_rfl) ?_
              refine reg_run [.plain, .plain, .plain] 3 [(0, [], Value.int .u8 n_), (1, [], Value.slice blocks.ptr blocks.len blocks.cap), (5, [], Value.pointer d), (7, [], Value.slice want.ptr want.len want.cap), (8, [], Value.int .i64 asked), (9, [], Value.int .i64 i), (10, [], Value.slice b_.ptr b_.len b_.cap), (47, [], Value.bool (decide (((b_.len : Nat) : Int) > 64)))] (by kernel_rfl) (by kernel_rfl) ?_
              refine reg_end [(0, Value.int .u8 n_), (1, Value.slice blocks.ptr blocks.len blocks.cap), (5, Value.pointer d), (7, Value.slice want.ptr want.len want.cap), (8, Value.int .i64 asked), (9, Value.int .i64 i), (10, Value.slice b_.ptr b_.len b_.cap), (47, Value.bool (decide (((b_.len : Nat) : Int) > 64)))] (by kernel_rfl) (by kernel_rfl) ?_
              change WpE _ _ c_towpathlaw04_DiskCuts_54 _ _ _
              refine wpE_cond (o := (Operand.tmp 47)) (b := (decide (((b_.len : Nat) : Int) > 64))) (x := c_towpathlaw04_DiskCuts_55) (y := c_towpathlaw04_DiskCuts_57) (by kernel_rfl) (by kernel_rfl) (fun hb => ?_) (fun hb => ?_)
              · replace h := h.1 hb
                refine wpE_region (id := 13) (ops := r_towpathlaw04_DiskCuts_55) (by kernel_rfl) ?_
                refine reg_run [.plain] 1 [(0, [], Value.int .u8 n_), (1, [], Value.slice blocks.ptr blocks.len blocks.cap), (5, [], Value.pointer d), (7, [], Value.slice want.ptr want.len want.cap), (8, [], Value.int .i64 asked), (9, [], Value.int .i64 i), (10, [], Value.slice b_.ptr b_.len b_.cap), (48, [], Value.slice b_.ptr b_.len b_.cap)] (by kernel_rfl) (by kernel_rfl) ?_
                obtain ⟨h0, h1, h⟩ := h
                refine reg_sliceHi (t := 22) (e := 5) (x := (Go.Operand.tmp 48)) (hi := (Go.Operand.const (Go.Value.int Go.IntKind.i64 64))) (p := b_.ptr) (l := b_.len) (c := b_.cap) (sz := 1) (k := .i64) (j := 64) (ty := 22) (dst := some 49) (by kernel_rfl) (by kernel_rfl) (by kernel_rfl) (by kernel_rfl) (by kernel_rfl) h0 h1 ?_
                refine reg_run [.plain] 3 [(0, [], Value.int .u8 n_), (1, [], Value.slice blocks.ptr blocks.len blocks.cap), (5, [], Value.pointer d), (7, [], Value.slice want.ptr want.len want.cap), (8, [], Value.int .i64 asked), (9, [], Value.int .i64 i), (10, [], Value.slice b_.ptr 64 b_.cap)] (by kernel_rfl) (by kernel_rfl) ?_
                refine reg_end [(0, Value.int .u8 n_), (1, Value.slice blocks.ptr blocks.len blocks.cap), (5, Value.pointer d), (7, Value.slice want.ptr want.len want.cap), (8, Value.int .i64 asked), (9, Value.int .i64 i), (10, Value.slice b_.ptr 64 b_.cap)] (by kernel_rfl) (by kernel_rfl) ?_
                exact ⟨[(0, Value.int .u8 n_), (1, Value.slice blocks.ptr blocks.len blocks.cap), (5, Value.pointer d), (7, Value.slice want.ptr want.len want.cap), (8, Value.int .i64 asked), (9, Value.int .i64 i), (10, Value.slice b_.ptr 64 b_.cap)], Sub.mk (by kernel_rfl), (Slc.mk b_.ptr 64 b_.cap), rfl, h⟩
              · replace h := h.2 hb
                refine wpE_skip (by kernel_rfl) ?_
                exact ⟨[(0, Value.int .u8 n_), (1, Value.slice blocks.ptr blocks.len blocks.cap), (5, Value.pointer d), (7, Value.slice want.ptr want.len want.cap), (8, Value.int .i64 asked), (9, Value.int .i64 i), (10, Value.slice b_.ptr b_.len b_.cap)], Sub.mk (by kernel_rfl), b_, rfl, h⟩
            · rintro _ w6 ⟨b_1, rfl, h⟩
              unfold F_towpathlaw04_DiskCuts_k2 at h
              refine wpE_seq (x := c_towpathlaw04_DiskCuts_59) (y := c_towpathlaw04_DiskCuts_61) (by kernel_rfl) ?_
              refine wpE_region (id := 14) (ops := r_towpathlaw04_DiskCuts_59) (by kernel_rfl) ?_
              refine reg_run [.plain, .plain, .plain, .plain] 4 [(0, [], Value.int .u8 n_), (1, [], Value.slice blocks.ptr blocks.len blocks.cap), (5, [], Value.pointer d), (7, [], Value.slice want.ptr want.len want.cap), (8, [], Value.int .i64 asked), (9, [], Value.int .i64 i), (10, [], Value.slice b_1.ptr b_1.len b_1.cap), (50, [], Value.pointer d), (52, [], Value.int .i64 ((want.len : Nat) : Int)), (53, [], Value.slice b_1.ptr b_1.len b_1.cap)] (by kernel_rfl) (by kernel_rfl) ?_
              refine reg_enter (op := (Go.Op.call (Go.Call.mk (Go.Callee.value (Go.Operand.func 27)) #[(Go.Operand.tmp 50), (Go.Operand.const (Go.Value.int Go.IntKind.i64 1)), (Go.Operand.tmp 52), (Go.Operand.tmp 53)] #[47, 3, 3, 22]))) (ty := 30) (dst := some 54) 27 #[Value.pointer d, Value.int .i64 1, Value.int .i64 ((want.len : Nat) : Int), Value.slice b_1.ptr b_1.len b_1.cap] (by kernel_rfl) (fun ww => by kernel_rfl) (Calls.mono h ?_)
              rintro _ w7 ⟨v54, rfl, h⟩
              refine ⟨_, rfl, ?_⟩
              refine reg_run [.plain] 6 [(0, [], Value.int .u8 n_), (1, [], Value.slice blocks.ptr blocks.len blocks.cap), (5, [], Value.pointer d), (7, [], Value.slice want.ptr want.len want.cap), (8, [], Value.int .i64 asked), (9, [], Value.int .i64 i), (10, [], Value.slice b_1.ptr b_1.len b_1.cap), (11, [], Value.int .i64 v54)] (by kernel_rfl) (by kernel_rfl) ?_
              refine reg_end [(0, Value.int .u8 n_), (1, Value.slice blocks.ptr blocks.len blocks.cap), (5, Value.pointer d), (7, Value.slice want.ptr want.len want.cap), (8, Value.int .i64 asked), (9, Value.int .i64 i), (10, Value.slice b_1.ptr b_1.len b_1.cap), (11, Value.int .i64 v54)] (by kernel_rfl) (by kernel_rfl) ?_
              change WpE _ _ c_towpathlaw04_DiskCuts_61 _ _ _
              refine wpE_seq_cut (x := c_towpathlaw04_DiskCuts_62) (y := c_towpathlaw04_DiskCuts_87) (by kernel_rfl) (fun l w => ∃ (want1 : Slc), l = [(0, Value.int .u8 n_), (1, Value.slice blocks.ptr blocks.len blocks.cap), (5, Value.pointer d), (7, Value.slice want1.ptr want1.len want1.cap), (8, Value.int .i64 asked), (9, Value.int .i64 i)] ∧ F_towpathlaw04_DiskCuts_k3 R d asked i again_ want1 w) ?_ ?_
              · refine wpE_seq (x := c_towpathlaw04_DiskCuts_63) (y := c_towpathlaw04_DiskCuts_65) (by kernel_rfl) ?_
                refine wpE_region (id := 15) (ops := r_towpathlaw04_DiskCuts_63) (by kernel_rfl) ?_
                refine reg_run [.plain, .plain, .plain, .plain] 4 [(0, [], Value.int .u8 n_), (1, [], Value.slice blocks.ptr blocks.len blocks.cap), (5, [], Value.pointer d), (7, [], Value.slice want.ptr want.len want.cap), (8, [], Value.int .i64 asked), (9, [], Value.int .i64 i), (10, [], Value.slice b_1.ptr b_1.len b_1.cap), (11, [], Value.int .i64 v54), (58, [], Value.bool (decide (asked < (IntKind.i64.wrap n_))))] (by kernel_rfl) (by kernel_rfl) ?_
                refine reg_end [(0, Value.int .u8 n_), (1, Value.slice blocks.ptr blocks.len blocks.cap), (5, Value.pointer d), (7, Value.slice want.ptr want.len want.cap), (8, Value.int .i64 asked), (9, Value.int .i64 i), (10, Value.slice b_1.ptr b_1.len b_1.cap), (11, Value.int .i64 v54), (58, Value.bool (decide (asked < (IntKind.i64.wrap n_))))] (by kernel_rfl) (by kernel_rfl) ?_
                change WpE _ _ c_towpathlaw04_DiskCuts_65 _ _ _
                refine wpE_cond (o := (Operand.tmp 58)) (b := (decide (asked < (IntKind.i64.wrap n_)))) (x := c_towpathlaw04_DiskCuts_66) (y := c_towpathlaw04_DiskCuts_78) (by kernel_rfl) (by kernel_rfl) (fun hb => ?_) (fun hb => ?_)
                · replace h := h.1 hb
                  refine wpE_seq (x := c_towpathlaw04_DiskCuts_67) (y := c_towpathlaw04_DiskCuts_76) (by kernel_rfl) ?_
                  refine wpE_seq_cut (x := c_towpathlaw04_DiskCuts_68) (y := c_towpathlaw04_DiskCuts_70) (by kernel_rfl) (fun l w => ∃ (t64 : Bool), l = [(0, Value.int .u8 n_), (1, Value.slice blocks.ptr blocks.len blocks.cap), (5, Value.pointer d), (7, Value.slice want.ptr want.len want.cap), (8, Value.int .i64 asked), (9, Value.int .i64 i), (10, Value.slice b_1.ptr b_1.len b_1.cap), (64, Value.bool t64)] ∧ F_towpathlaw04_DiskCuts_k5 R d want asked i again_ b_1 t64 w) ?_ ?_
                  · refine wpE_region (id := 16) (ops := r_towpathlaw04_DiskCuts_68) (by kernel_rfl) ?_
                    refine reg_run [.plain, .plain, .plain, .plain] 4 [(0, [], Value.int .u8 n_), (1, [], Value.slice blocks.ptr blocks.len blocks.cap), (5, [], Value.pointer d), (7, [], Value.slice want.ptr want.len want.cap), (8, [], Value.int .i64 asked), (9, [], Value.int .i64 i), (10, [], Value.slice b_1.ptr b_1.len b_1.cap), (61, [], Value.bool (v54 != 0)), (62, [(61, false)], Value.pointer d)] (by kernel_rfl) (by kernel_rfl) ?_
                    refine reg_split 61 (v54 != 0) (by kernel_rfl) (fun hb => ?_) (fun hb => ?_)
                    · replace h := h.1 hb
                      refine reg_run [] 4 [(0, [], Value.int .u8 n_), (1, [], Value.slice blocks.ptr blocks.len blocks.cap), (5, [], Value.pointer d), (7, [], Value.slice want.ptr want.len want.cap), (8, [], Value.int .i64 asked), (9, [], Value.int .i64 i), (10, [], Value.slice b_1.ptr b_1.len b_1.cap), (61, [], Value.bool true), (62, [], undef)] (by kernel_rfl) (by kernel_rfl) ?_
                      refine reg_run [.skip, .plain] 6 [(0, [], Value.int .u8 n_), (1, [], Value.slice blocks.ptr blocks.len blocks.cap), (5, [], Value.pointer d), (7, [], Value.slice want.ptr want.len want.cap), (8, [], Value.int .i64 asked), (9, [], Value.int .i64 i), (10, [], Value.slice b_1.ptr b_1.len b_1.cap), (64, [], Value.bool true)] (by kernel_rfl) (by kernel_rfl) ?_
                      refine reg_end [(0, Value.int .u8 n_), (1, Value.slice blocks.ptr blocks.len blocks.cap), (5, Value.pointer d), (7, Value.slice want.ptr want.len want.cap), (8, Value.int .i64 asked), (9, Value.int .i64 i), (10, Value.slice b_1.ptr b_1.len b_1.cap), (64, Value.bool true)] (by kernel_rfl) (by kernel_rfl) ?_
                      exact ⟨[(0, Value.int .u8 n_), (1, Value.slice blocks.ptr blocks.len blocks.cap), (5, Value.pointer d), (7, Value.slice want.ptr want.len want.cap), (8, Value.int .i64 asked), (9, Value.int .i64 i), (10, Value.slice b_1.ptr b_1.len b_1.cap), (64, Value.bool true)], Sub.mk (by kernel_rfl), true, rfl, h⟩
                    · replace h := h.2 hb
                      refine reg_run [] 4 [(0, [], Value.int .u8 n_), (1, [], Value.slice blocks.ptr blocks.len blocks.cap), (5, [], Value.pointer d), (7, [], Value.slice want.ptr want.len want.cap), (8, [], Value.int .i64 asked), (9, [], Value.int .i64 i), (10, [], Value.slice b_1.ptr b_1.len b_1.cap), (61, [], Value.bool false), (62, [], Value.pointer d)] (by kernel_rfl) (by kernel_rfl) ?_
                      refine reg_run [] 4 [(0, [], Value.int .u8 n_), (1, [], Value.slice blocks.ptr blocks.len blocks.cap), (5, [], Value.pointer d), (7, [], Value.slice want.ptr want.len want.cap), (8, [], Value.int .i64 asked), (9, [], Value.int .i64 i), (10, [], Value.slice b_1.ptr b_1.len b_1.cap), (61, [], Value.bool false), (62, [], Value.pointer d)] (by kernel_rfl) (by kernel_rfl) ?_
                      refine reg_enter (op := (Go.Op.call (Go.Call.mk (Go.Callee.value (Go.Operand.func 28)) #[(Go.Operand.tmp 62)] #[47]))) (ty := 4) (dst := some 63) 28 #[Value.pointer d] (by kernel_rfl) (fun ww => by kernel_rfl) (Calls.mono h ?_)
                      rintro _ w14 ⟨v63, rfl, h⟩
                      refine ⟨_, rfl, ?_⟩
                      refine reg_run [.plain] 6 [(0, [], Value.int .u8 n_), (1, [], Value.slice blocks.ptr blocks.len blocks.cap), (5, [], Value.pointer d), (7, [], Value.slice want.ptr want.len want.cap), (8, [], Value.int .i64 asked), (9, [], Value.int .i64 i), (10, [], Value.slice b_1.ptr b_1.len b_1.cap), (64, [], Value.bool v63)] (by kernel_rfl) (by kernel_rfl) ?_
                      refine reg_end [(0, Value.int .u8 n_), (1, Value.slice blocks.ptr blocks.len blocks.cap), (5, Value.pointer d), (7, Value.slice want.ptr want.len want.cap), (8, Value.int .i64 asked), (9, Value.int .i64 i), (10, Value.slice b_1.ptr b_1.len b_1.cap), (64, Value.bool v63)] (by kernel_rfl) (by kernel_rfl) ?_
                      exact ⟨[(0, Value.int .u8 n_), (1, Value.slice blocks.ptr blocks.len blocks.cap), (5, Value.pointer d), (7, Value.slice want.ptr want.len want.cap), (8, Value.int .i64 asked), (9, Value.int .i64 i), (10, Value.slice b_1.ptr b_1.len b_1.cap), (64, Value.bool v63)], Sub.mk (by kernel_rfl), v63, rfl, h⟩
                  · rintro _ w12 ⟨t64, rfl, h⟩
                    unfold F_towpathlaw04_DiskCuts_k5 at h
                    refine wpE_cond (o := (Operand.tmp 64)) (b := t64) (x := c_towpathlaw04_DiskCuts_71) (y := c_towpathlaw04_DiskCuts_75) (by kernel_rfl) (by kernel_rfl) (fun hb => ?_) (fun hb => ?_)
                    · replace h := h.1 hb
                      refine wpE_seq (x := c_towpathlaw04_DiskCuts_72) (y := c_towpathlaw04_DiskCuts_74) (by kernel_rfl) ?_
                      refine wpE_region (id := 17) (ops := r_towpathlaw04_DiskCuts_72) (by kernel_rfl) ?_
                      refine reg_run [.plain] 1 [(4, [], Value.bool false)] (by kernel_rfl) (by kernel_rfl) ?_
                      refine reg_end [(4, Value.bool false)] (by kernel_rfl) (by kernel_rfl) ?_
                      change WpE _ _ c_towpathlaw04_DiskCuts_74 _ _ _
                      refine wpE_ret (by kernel_rfl) ?_
                      repeat (first | refine seqQ_ret ?_ | refine blockQ_ret ?_ | refine loopQ_ret ?_ | refine cutQ_ret ?_)
                      exact retS (rs := [(Go.ResultVar.tmp 4)]) (v := Value.bool false) (by kernel_rfl) (⟨by kernel_rfl, trivial⟩) ⟨false, rfl, h⟩
                    · replace h := h.2 hb
                      refine wpE_skip (by kernel_rfl) ?_
                      change WpE _ _ c_towpathlaw04_DiskCuts_76 _ _ _
                      refine wpE_region (id := 18) (ops := r_towpathlaw04_DiskCuts_76) (by kernel_rfl) ?_
                      refine reg_run [.plain, .plain] 2 [(0, [], Value.int .u8 n_), (1, [], Value.slice blocks.ptr blocks.len blocks.cap), (5, [], Value.pointer d), (7, [], Value.slice want.ptr want.len want.cap), (8, [], Value.int .i64 asked), (9, [], Value.int .i64 i), (65, [], Value.slice want.ptr want.len want.cap), (66, [], Value.slice b_1.ptr b_1.len b_1.cap)] (by kernel_rfl) (by kernel_rfl) ?_
                      obtain ⟨src, hs, h⟩ := h
                      refine reg_append (t := 22) (tx := 22) (e := 5) (a := (Go.Operand.tmp 65)) (xo := (Go.Operand.tmp 66)) (s := want) (x := b_1) (sz := 1) (by_ := 1) (zs := [Value.int .u8 0]) (ty := 22) (dst := some 67)  src (by kernel_rfl) (by kernel_rfl) (by kernel_rfl) (by kernel_rfl) (by kernel_rfl) (by kernel_rfl) (by kernel_rfl) (by kernel_rfl) (by kernel_rfl) hs (AppendW.mono h (fun want2 w13 h => ?_))
                      refine reg_run [.plain] 4 [(0, [], Value.int .u8 n_), (1, [], Value.slice blocks.ptr blocks.len blocks.cap), (5, [], Value.pointer d), (7, [], Value.slice want2.ptr want2.len want2.cap), (8, [], Value.int .i64 asked), (9, [], Value.int .i64 i)] (by kernel_rfl) (by kernel_rfl) ?_
                      refine reg_end [(0, Value.int .u8 n_), (1, Value.slice blocks.ptr blocks.len blocks.cap), (5, Value.pointer d), (7, Value.slice want2.ptr want2.len want2.cap), (8, Value.int .i64 asked), (9, Value.int .i64 i)] (by kernel_rfl) (by kernel_rfl) ?_
                      exact ⟨[(0, Value.int .u8 n_), (1, Value.slice blocks.ptr blocks.len blocks.cap), (5, Value.pointer d), (7, Value.slice want2.ptr want2.len want2.cap), (8, Value.int .i64 asked), (9, Value.int .i64 i)], Sub.mk (by kernel_rfl), want2, rfl, h⟩
                · replace h := h.2 hb
                  refine wpE_seq_cut (x := c_towpathlaw04_DiskCuts_79) (y := c_towpathlaw04_DiskCuts_81) (by kernel_rfl) (fun l w => ∃ (t74 : Bool), l = [(0, Value.int .u8 n_), (1, Value.slice blocks.ptr blocks.len blocks.cap), (5, Value.pointer d), (7, Value.slice want.ptr want.len want.cap), (8, Value.int .i64 asked), (9, Value.int .i64 i), (74, Value.bool t74)] ∧ F_towpathlaw04_DiskCuts_k6 R d want asked i again_ t74 w) ?_ ?_
                  · refine wpE_region (id := 19) (ops := r_towpathlaw04_DiskCuts_79) (by kernel_rfl) ?_
                    refine reg_run [.plain, .plain, .plain, .plain] 4 [(0, [], Value.int .u8 n_), (1, [], Value.slice blocks.ptr blocks.len blocks.cap), (5, [], Value.pointer d), (7, [], Value.slice want.ptr want.len want.cap), (8, [], Value.int .i64 asked), (9, [], Value.int .i64 i), (70, [], Value.bool (v54 != 11)), (71, [(70, false)], Value.pointer d)] (by kernel_rfl) (by kernel_rfl) ?_
                    refine reg_split 70 (v54 != 11) (by kernel_rfl) (fun hb => ?_) (fun hb => ?_)
                    · replace h := h.1 hb
                      refine reg_run [] 4 [(0, [], Value.int .u8 n_), (1, [], Value.slice blocks.ptr blocks.len blocks.cap), (5, [], Value.pointer d), (7, [], Value.slice want.ptr want.len want.cap), (8, [], Value.int .i64 asked), (9, [], Value.int .i64 i), (70, [], Value.bool true), (71, [], undef)] (by kernel_rfl) (by kernel_rfl) ?_
                      refine reg_run [.skip, .skip, .plain] 7 [(0, [], Value.int .u8 n_), (1, [], Value.slice blocks.ptr blocks.len blocks.cap), (5, [], Value.pointer d), (7, [], Value.slice want.ptr want.len want.cap), (8, [], Value.int .i64 asked), (9, [], Value.int .i64 i), (74, [], Value.bool true)] (by kernel_rfl) (by kernel_rfl) ?_
                      refine reg_end [(0, Value.int .u8 n_), (1, Value.slice blocks.ptr blocks.len blocks.cap), (5, Value.pointer d), (7, Value.slice want.ptr want.len want.cap), (8, Value.int .i64 asked), (9, Value.int .i64 i), (74, Value.bool true)] (by kernel_rfl) (by kernel_rfl) ?_
                      exact ⟨[(0, Value.int .u8 n_), (1, Value.slice blocks.ptr blocks.len blocks.cap), (5, Value.pointer d), (7, Value.slice want.ptr want.len want.cap), (8, Value.int .i64 asked), (9, Value.int .i64 i), (74, Value.bool true)], Sub.mk (by kernel_rfl), true, rfl, h⟩
                    · replace h := h.2 hb
                      refine reg_run [] 4 [(0, [], Value.int .u8 n_), (1, [], Value.slice blocks.ptr blocks.len blocks.cap), (5, [], Value.pointer d), (7, [], Value.slice want.ptr want.len want.cap), (8, [], Value.int .i64 asked), (9, [], Value.int .i64 i), (70, [], Value.bool false), (71, [], Value.pointer d)] (by kernel_rfl) (by kernel_rfl) ?_
                      refine reg_run [] 4 [(0, [], Value.int .u8 n_), (1, [], Value.slice blocks.ptr blocks.len blocks.cap), (5, [], Value.pointer d), (7, [], Value.slice want.ptr want.len want.cap), (8, [], Value.int .i64 asked), (9, [], Value.int .i64 i), (70, [], Value.bool false), (71, [], Value.pointer d)] (by kernel_rfl) (by kernel_rfl) ?_
                      refine reg_enter (op := (Go.Op.call (Go.Call.mk (Go.Callee.value (Go.Operand.func 28)) #[(Go.Operand.tmp 71)] #[47]))) (ty := 4) (dst := some 72) 28 #[Value.pointer d] (by kernel_rfl) (fun ww => by kernel_rfl) (Calls.mono h ?_)
                      rintro _ w16 ⟨v72, rfl, h⟩
                      refine ⟨_, rfl, ?_⟩
                      refine reg_run [.sure, .plain] 7 [(0, [], Value.int .u8 n_), (1, [], Value.slice blocks.ptr blocks.len blocks.cap), (5, [], Value.pointer d), (7, [], Value.slice want.ptr want.len want.cap), (8, [], Value.int .i64 asked), (9, [], Value.int .i64 i), (74, [], Value.bool (!v72))] (by kernel_rfl) (by kernel_rfl) ?_
                      refine reg_end [(0, Value.int .u8 n_), (1, Value.slice blocks.ptr blocks.len blocks.cap), (5, Value.pointer d), (7, Value.slice want.ptr want.len want.cap), (8, Value.int .i64 asked), (9, Value.int .i64 i), (74, Value.bool (!v72))] (by kernel_rfl) (by kernel_rfl) ?_
                      exact ⟨[(0, Value.int .u8 n_), (1, Value.slice blocks.ptr blocks.len blocks.cap), (5, Value.pointer d), (7, Value.slice want.ptr want.len want.cap), (8, Value.int .i64 asked), (9, Value.int .i64 i), (74, Value.bool (!v72))], Sub.mk (by kernel_rfl), (!v72), rfl, h⟩
                  · rintro _ w15 ⟨t74, rfl, h⟩
                    unfold F_towpathlaw04_DiskCuts_k6 at h
                    refine wpE_cond (o := (Operand.tmp 74)) (b := t74) (x := c_towpathlaw04_DiskCuts_82) (y := c_towpathlaw04_DiskCuts_86) (by kernel_rfl) (by kernel_rfl) (fun hb => ?_) (fun hb => ?_)
                    · replace h := h.1 hb
                      refine wpE_seq (x := c_towpathlaw04_DiskCuts_83) (y := c_towpathlaw04_DiskCuts_85) (by kernel_rfl) ?_
                      refine wpE_region (id := 20) (ops := r_towpathlaw04_DiskCuts_83) (by kernel_rfl) ?_
                      refine reg_run [.plain] 1 [(4, [], Value.bool false)] (by kernel_rfl) (by kernel_rfl) ?_
                      refine reg_end [(4, Value.bool false)] (by kernel_rfl) (by kernel_rfl) ?_
                      change WpE _ _ c_towpathlaw04_DiskCuts_85 _ _ _
                      refine wpE_ret (by kernel_rfl) ?_
                      repeat (first | refine seqQ_ret ?_ | refine blockQ_ret ?_ | refine loopQ_ret ?_ | refine cutQ_ret ?_)
                      exact retS (rs := [(Go.ResultVar.tmp 4)]) (v := Value.bool false) (by kernel_rfl) (⟨by kernel_rfl, trivial⟩) ⟨false, rfl, h⟩
                    · replace h := h.2 hb
                      refine wpE_skip (by kernel_rfl) ?_
                      exact ⟨[(0, Value.int .u8 n_), (1, Value.slice blocks.ptr blocks.len blocks.cap), (5, Value.pointer d), (7, Value.slice want.ptr want.len want.cap), (8, Value.int .i64 asked), (9, Value.int .i64 i)], Sub.mk (by kernel_rfl), want, rfl, h⟩
              · rintro _ w8 ⟨want1, rfl, h⟩
                unfold F_towpathlaw04_DiskCuts_k3 at h
                refine wpE_seq (x := c_towpathlaw04_DiskCuts_88) (y := c_towpathlaw04_DiskCuts_90) (by kernel_rfl) ?_
                refine wpE_region (id := 21) (ops := r_towpathlaw04_DiskCuts_88) (by kernel_rfl) ?_
                refine reg_run [.plain, .plain, .plain] 3 [(0, [], Value.int .u8 n_), (1, [], Value.slice blocks.ptr blocks.len blocks.cap), (5, [], Value.pointer d), (7, [], Value.slice want1.ptr want1.len want1.cap), (8, [], Value.int .i64 (IntKind.i64.wrap (asked + 1))), (9, [], Value.int .i64 i)] (by kernel_rfl) (by kernel_rfl) ?_
                refine reg_end [(0, Value.int .u8 n_), (1, Value.slice blocks.ptr blocks.len blocks.cap), (5, Value.pointer d), (7, Value.slice want1.ptr want1.len want1.cap), (8, Value.int .i64 (IntKind.i64.wrap (asked + 1))), (9, Value.int .i64 i)] (by kernel_rfl) (by kernel_rfl) ?_
                change WpE _ _ c_towpathlaw04_DiskCuts_90 _ _ _
                refine wpE_seq (x := c_towpathlaw04_DiskCuts_91) (y := c_towpathlaw04_DiskCuts_93) (by kernel_rfl) ?_
                refine wpE_region (id := 22) (ops := r_towpathlaw04_DiskCuts_91) (by kernel_rfl) ?_
                refine reg_run [.plain] 1 [(0, [], Value.int .u8 n_), (1, [], Value.slice blocks.ptr blocks.len blocks.cap), (5, [], Value.pointer d), (7, [], Value.slice want1.ptr want1.len want1.cap), (8, [], Value.int .i64 (IntKind.i64.wrap (asked + 1))), (9, [], Value.int .i64 i), (78, [], Value.pointer d)] (by kernel_rfl) (by kernel_rfl) ?_
                refine reg_enter (op := (Go.Op.call (Go.Call.mk (Go.Callee.value (Go.Operand.func 29)) #[(Go.Operand.tmp 78), (Go.Operand.const (Go.Value.int Go.IntKind.i64 1))] #[47, 3]))) (ty := 61) (dst := some 79) 29 #[Value.pointer d, Value.int .i64 1] (by kernel_rfl) (fun ww => by kernel_rfl) (Calls.mono h ?_)
                rintro _ w9 ⟨got, g, rfl, h⟩
                refine ⟨_, rfl, ?_⟩
                refine reg_run [.plain, .plain, .plain, .plain, .plain] 7 [(0, [], Value.int .u8 n_), (1, [], Value.slice blocks.ptr blocks.len blocks.cap), (5, [], Value.pointer d), (7, [], Value.slice want1.ptr want1.len want1.cap), (8, [], Value.int .i64 (IntKind.i64.wrap (asked + 1))), (9, [], Value.int .i64 i), (12, [], Value.slice got.ptr got.len got.cap), (13, [], Value.int .i64 g)] (by kernel_rfl) (by kernel_rfl) ?_
                refine reg_end [(0, Value.int .u8 n_), (1, Value.slice blocks.ptr blocks.len blocks.cap), (5, Value.pointer d), (7, Value.slice want1.ptr want1.len want1.cap), (8, Value.int .i64 (IntKind.i64.wrap (asked + 1))), (9, Value.int .i64 i), (12, Value.slice got.ptr got.len got.cap), (13, Value.int .i64 g)] (by kernel_rfl) (by kernel_rfl) ?_
                change WpE _ _ c_towpathlaw04_DiskCuts_93 _ _ _
                refine wpE_seq_cut (x := c_towpathlaw04_DiskCuts_94) (y := c_towpathlaw04_DiskCuts_96) (by kernel_rfl) (fun l w => ∃ (t89 : Bool), l = [(0, Value.int .u8 n_), (1, Value.slice blocks.ptr blocks.len blocks.cap), (5, Value.pointer d), (7, Value.slice want1.ptr want1.len want1.cap), (8, Value.int .i64 (IntKind.i64.wrap (asked + 1))), (9, Value.int .i64 i), (89, Value.bool t89)] ∧ F_towpathlaw04_DiskCuts_k4 R asked i again_ want1 t89 w) ?_ ?_
                · refine wpE_region (id := 23) (ops := r_towpathlaw04_DiskCuts_94) (by kernel_rfl) ?_
                  refine reg_run [.plain, .plain, .plain, .plain, .plain] 5 [(0, [], Value.int .u8 n_), (1, [], Value.slice blocks.ptr blocks.len blocks.cap), (5, [], Value.pointer d), (7, [], Value.slice want1.ptr want1.len want1.cap), (8, [], Value.int .i64 (IntKind.i64.wrap (asked + 1))), (9, [], Value.int .i64 i), (84, [], Value.bool (g != 0)), (85, [(84, false)], Value.slice got.ptr got.len got.cap), (86, [(84, false)], Value.slice want1.ptr want1.len want1.cap)] (by kernel_rfl) (by kernel_rfl) ?_
                  refine reg_split 84 (g != 0) (by kernel_rfl) (fun hb => ?_) (fun hb => ?_)
                  · replace h := h.1 hb
                    refine reg_run [] 5 [(0, [], Value.int .u8 n_), (1, [], Value.slice blocks.ptr blocks.len blocks.cap), (5, [], Value.pointer d), (7, [], Value.slice want1.ptr want1.len want1.cap), (8, [], Value.int .i64 (IntKind.i64.wrap (asked + 1))), (9, [], Value.int .i64 i), (84, [], Value.bool true), (85, [], undef), (86, [], undef)] (by kernel_rfl) (by kernel_rfl) ?_
                    refine reg_run [.skip, .skip, .plain] 8 [(0, [], Value.int .u8 n_), (1, [], Value.slice blocks.ptr blocks.len blocks.cap), (5, [], Value.pointer d), (7, [], Value.slice want1.ptr want1.len want1.cap), (8, [], Value.int .i64 (IntKind.i64.wrap (asked + 1))), (9, [], Value.int .i64 i), (89, [], Value.bool true)] (by kernel_rfl) (by kernel_rfl) ?_
                    refine reg_end [(0, Value.int .u8 n_), (1, Value.slice blocks.ptr blocks.len blocks.cap), (5, Value.pointer d), (7, Value.slice want1.ptr want1.len want1.cap), (8, Value.int .i64 (IntKind.i64.wrap (asked + 1))), (9, Value.int .i64 i), (89, Value.bool true)] (by kernel_rfl) (by kernel_rfl) ?_
                    exact ⟨[(0, Value.int .u8 n_), (1, Value.slice blocks.ptr blocks.len blocks.cap), (5, Value.pointer d), (7, Value.slice want1.ptr want1.len want1.cap), (8, Value.int .i64 (IntKind.i64.wrap (asked + 1))), (9, Value.int .i64 i), (89, Value.bool true)], Sub.mk (by kernel_rfl), true, rfl, h⟩
                  · replace h := h.2 hb
                    refine reg_run [] 5 [(0, [], Value.int .u8 n_), (1, [], Value.slice blocks.ptr blocks.len blocks.cap), (5, [], Value.pointer d), (7, [], Value.slice want1.ptr want1.len want1.cap), (8, [], Value.int .i64 (IntKind.i64.wrap (asked + 1))), (9, [], Value.int .i64 i), (84, [], Value.bool false), (85, [], Value.slice got.ptr got.len got.cap), (86, [], Value.slice want1.ptr want1.len want1.cap)] (by kernel_rfl) (by kernel_rfl) ?_
                    refine reg_run [] 5 [(0, [], Value.int .u8 n_), (1, [], Value.slice blocks.ptr blocks.len blocks.cap), (5, [], Value.pointer d), (7, [], Value.slice want1.ptr want1.len want1.cap), (8, [], Value.int .i64 (IntKind.i64.wrap (asked + 1))), (9, [], Value.int .i64 i), (84, [], Value.bool false), (85, [], Value.slice got.ptr got.len got.cap), (86, [], Value.slice want1.ptr want1.len want1.cap)] (by kernel_rfl) (by kernel_rfl) ?_
                    refine reg_enter (op := (Go.Op.call (Go.Call.mk (Go.Callee.value (Go.Operand.func 30)) #[(Go.Operand.tmp 85), (Go.Operand.tmp 86)] #[22, 22]))) (ty := 4) (dst := some 87) 30 #[Value.slice got.ptr got.len got.cap, Value.slice want1.ptr want1.len want1.cap] (by kernel_rfl) (fun ww => by kernel_rfl) (Calls.mono h ?_)
                    rintro _ w11 ⟨v87, rfl, h⟩
                    refine ⟨_, rfl, ?_⟩
                    refine reg_run [.sure, .plain] 8 [(0, [], Value.int .u8 n_), (1, [], Value.slice blocks.ptr blocks.len blocks.cap), (5, [], Value.pointer d), (7, [], Value.slice want1.ptr want1.len want1.cap), (8, [], Value.int .i64 (IntKind.i64.wrap (asked + 1))), (9, [], Value.int .i64 i), (89, [], Value.bool (!v87))] (by kernel_rfl) (by kernel_rfl) ?_
                    refine reg_end [(0, Value.int .u8 n_), (1, Value.slice blocks.ptr blocks.len blocks.cap), (5, Value.pointer d), (7, Value.slice want1.ptr want1.len want1.cap), (8, Value.int .i64 (IntKind.i64.wrap (asked + 1))), (9, Value.int .i64 i), (89, Value.bool (!v87))] (by kernel_rfl) (by kernel_rfl) ?_
                    exact ⟨[(0, Value.int .u8 n_), (1, Value.slice blocks.ptr blocks.len blocks.cap), (5, Value.pointer d), (7, Value.slice want1.ptr want1.len want1.cap), (8, Value.int .i64 (IntKind.i64.wrap (asked + 1))), (9, Value.int .i64 i), (89, Value.bool (!v87))], Sub.mk (by kernel_rfl), (!v87), rfl, h⟩
                · rintro _ w10 ⟨t89, rfl, h⟩
                  unfold F_towpathlaw04_DiskCuts_k4 at h
                  refine wpE_cond (o := (Operand.tmp 89)) (b := t89) (x := c_towpathlaw04_DiskCuts_97) (y := c_towpathlaw04_DiskCuts_101) (by kernel_rfl) (by kernel_rfl) (fun hb => ?_) (fun hb => ?_)
                  · replace h := h.1 hb
                    refine wpE_seq (x := c_towpathlaw04_DiskCuts_98) (y := c_towpathlaw04_DiskCuts_100) (by kernel_rfl) ?_
                    refine wpE_region (id := 24) (ops := r_towpathlaw04_DiskCuts_98) (by kernel_rfl) ?_
                    refine reg_run [.plain] 1 [(4, [], Value.bool false)] (by kernel_rfl) (by kernel_rfl) ?_
                    refine reg_end [(4, Value.bool false)] (by kernel_rfl) (by kernel_rfl) ?_
                    change WpE _ _ c_towpathlaw04_DiskCuts_100 _ _ _
                    refine wpE_ret (by kernel_rfl) ?_
                    repeat (first | refine seqQ_ret ?_ | refine blockQ_ret ?_ | refine loopQ_ret ?_ | refine cutQ_ret ?_)
                    exact retS (rs := [(Go.ResultVar.tmp 4)]) (v := Value.bool false) (by kernel_rfl) (⟨by kernel_rfl, trivial⟩) ⟨false, rfl, h⟩
                  · replace h := h.2 hb
                    refine wpE_skip (by kernel_rfl) ?_
                    change WpE _ _ c_towpathlaw04_DiskCuts_102 _ _ _
                    refine wpE_region (id := 10) (ops := r_towpathlaw04_DiskCuts_102) (by kernel_rfl) ?_
                    refine reg_run [.plain, .plain, .plain] 3 [(0, [], Value.int .u8 n_), (1, [], Value.slice blocks.ptr blocks.len blocks.cap), (5, [], Value.pointer d), (7, [], Value.slice want1.ptr want1.len want1.cap), (8, [], Value.int .i64 (IntKind.i64.wrap (asked + 1))), (9, [], Value.int .i64 (IntKind.i64.wrap (i + 1)))] (by kernel_rfl) (by kernel_rfl) ?_
                    refine reg_end [(0, Value.int .u8 n_), (1, Value.slice blocks.ptr blocks.len blocks.cap), (5, Value.pointer d), (7, Value.slice want1.ptr want1.len want1.cap), (8, Value.int .i64 (IntKind.i64.wrap (asked + 1))), (9, Value.int .i64 (IntKind.i64.wrap (i + 1)))] (by kernel_rfl) (by kernel_rfl) ?_
                    have hb_ := again__h _ _ _ _ h
                    exact ⟨_, hb_.2, [(0, Value.int .u8 n_), (1, Value.slice blocks.ptr blocks.len blocks.cap), (5, Value.pointer d), (7, Value.slice want1.ptr want1.len want1.cap), (8, Value.int .i64 (IntKind.i64.wrap (asked + 1))), (9, Value.int .i64 (IntKind.i64.wrap (i + 1)))], Sub.mk (by kernel_rfl), want1, (IntKind.i64.wrap (asked + 1)), (IntKind.i64.wrap (i + 1)), rfl, hb_.1, rfl⟩
          · replace h := h.2 hb
            refine wpE_exit (id := 0) (by kernel_rfl) ?_
            change WpE _ _ c_towpathlaw04_DiskCuts_104 _ _ _
            refine wpE_seq (x := c_towpathlaw04_DiskCuts_105) (y := c_towpathlaw04_DiskCuts_107) (by kernel_rfl) ?_
            refine wpE_region (id := 25) (ops := r_towpathlaw04_DiskCuts_105) (by kernel_rfl) ?_
            refine reg_run [.plain] 1 [(0, [], Value.int .u8 n_), (5, [], Value.pointer d), (8, [], Value.int .i64 asked), (90, [], Value.pointer d)] (by kernel_rfl) (by kernel_rfl) ?_
            refine reg_enter (op := (Go.Op.call (Go.Call.mk (Go.Callee.value (Go.Operand.func 31)) #[(Go.Operand.tmp 90)] #[47]))) (ty := 3) (dst := some 91) 31 #[Value.pointer d] (by kernel_rfl) (fun ww => by kernel_rfl) (Calls.mono h ?_)
            rintro _ w17 ⟨v91, rfl, h⟩
            refine ⟨_, rfl, ?_⟩
            refine reg_run [.plain, .plain, .plain, .plain, .plain, .plain, .plain] 9 [(0, [], Value.int .u8 n_), (5, [], Value.pointer d), (8, [], Value.int .i64 asked), (97, [], Value.bool (v91 == (if (IntKind.i64.wrap n_) < asked then (IntKind.i64.wrap n_) else asked))), (98, [(97, true)], Value.pointer d)] (by kernel_rfl) (by kernel_rfl) ?_
            refine reg_split 97 (v91 == (if (IntKind.i64.wrap n_) < asked then (IntKind.i64.wrap n_) else asked)) (by kernel_rfl) (fun hb => ?_) (fun hb => ?_)
            · replace h := h.1 hb
              refine reg_run [] 9 [(0, [], Value.int .u8 n_), (5, [], Value.pointer d), (8, [], Value.int .i64 asked), (97, [], Value.bool true), (98, [], Value.pointer d)] (by kernel_rfl) (by kernel_rfl) ?_
              refine reg_run [] 9 [(0, [], Value.int .u8 n_), (5, [], Value.pointer d), (8, [], Value.int .i64 asked), (97, [], Value.bool true), (98, [], Value.pointer d)] (by kernel_rfl) (by kernel_rfl) ?_
              refine reg_enter (op := (Go.Op.call (Go.Call.mk (Go.Callee.value (Go.Operand.func 32)) #[(Go.Operand.tmp 98)] #[47]))) (ty := 30) (dst := some 99) 32 #[Value.pointer d] (by kernel_rfl) (fun ww => by kernel_rfl) (Calls.mono h ?_)
              rintro _ w18 ⟨v99, rfl, h⟩
              refine ⟨_, rfl, ?_⟩
              refine reg_run [.sure, .plain, .plain, .plain] 14 [(0, [], Value.int .u8 n_), (5, [], Value.pointer d), (8, [], Value.int .i64 asked), (102, [], Value.bool (v99 == 0)), (103, [(102, true)], Value.pointer d)] (by kernel_rfl) (by kernel_rfl) ?_
              refine reg_split 102 (v99 == 0) (by kernel_rfl) (fun hb => ?_) (fun hb => ?_)
              · replace h := h.1 hb
                refine reg_run [] 14 [(0, [], Value.int .u8 n_), (5, [], Value.pointer d), (8, [], Value.int .i64 asked), (102, [], Value.bool true), (103, [], Value.pointer d)] (by kernel_rfl) (by kernel_rfl) ?_
                refine reg_run [] 14 [(0, [], Value.int .u8 n_), (5, [], Value.pointer d), (8, [], Value.int .i64 asked), (102, [], Value.bool true), (103, [], Value.pointer d)] (by kernel_rfl) (by kernel_rfl) ?_
                refine reg_new (op := (Go.Op.buildSlice 22 1 #[(0, (Go.Operand.const (Go.Value.int Go.IntKind.u8 120)))])) (ty := 22) (dst := some 104) (fun bb => Value.slice (some ⟨bb, 0, none⟩) 1 1) (Obj.cells ([Value.int .u8 120]).toArray ty_uint8 (0, 0)) (by kernel_rfl) (by kernel_rfl) (fun b_2 w19 hb hw => ?_)
                replace h := h b_2 w19 hb hw
                clear hb hw
                refine reg_run [] 15 [(0, [], Value.int .u8 n_), (5, [], Value.pointer d), (8, [], Value.int .i64 asked), (102, [], Value.bool true), (103, [], Value.pointer d), (104, [], Value.slice (some ⟨b_2, 0, none⟩) 1 1)] (by kernel_rfl) (by kernel_rfl) ?_
                obtain ⟨T_, k_, hs, h⟩ := h
                refine reg_convMark (t := 22) (e := 5) (x := (Go.Operand.tmp 104)) (b := b_2) (o := 0) (l := 1) (c := 1) (ty := 22) (dst := some 105) (by kernel_rfl) (by kernel_rfl) (by kernel_rfl) (by kernel_rfl) ⟨T_, k_, hs, fun w20 hw => ?_⟩
                replace h := h w20 hw
                clear hw hs
                refine reg_run [] 16 [(0, [], Value.int .u8 n_), (5, [], Value.pointer d), (8, [], Value.int .i64 asked), (102, [], Value.bool true), (103, [], Value.pointer d), (105, [], Value.slice (some ⟨b_2, 0, none⟩) 1 1)] (by kernel_rfl) (by kernel_rfl) ?_
                refine reg_enter (op := (Go.Op.call (Go.Call.mk (Go.Callee.value (Go.Operand.func 27)) #[(Go.Operand.tmp 103), (Go.Operand.const (Go.Value.int Go.IntKind.i64 0)), (Go.Operand.const (Go.Value.int Go.IntKind.i64 0)), (Go.Operand.tmp 105)] #[47, 3, 3, 22]))) (ty := 30) (dst := some 106) 27 #[Value.pointer d, Value.int .i64 0, Value.int .i64 0, Value.slice (some ⟨b_2, 0, none⟩) 1 1] (by kernel_rfl) (fun ww => by kernel_rfl) (Calls.mono h ?_)
                rintro _ w21 ⟨v106, rfl, h⟩
                refine ⟨_, rfl, ?_⟩
                refine reg_run [.sure, .plain, .plain, .plain] 21 [(0, [], Value.int .u8 n_), (8, [], Value.int .i64 asked), (109, [], Value.bool (v106 == 0)), (110, [(109, true)], Value.pointer d)] (by kernel_rfl) (by kernel_rfl) ?_
                refine reg_split 109 (v106 == 0) (by kernel_rfl) (fun hb => ?_) (fun hb => ?_)
                · replace h := h.1 hb
                  refine reg_run [] 21 [(0, [], Value.int .u8 n_), (8, [], Value.int .i64 asked), (109, [], Value.bool true), (110, [], Value.pointer d)] (by kernel_rfl) (by kernel_rfl) ?_
                  refine reg_run [] 21 [(0, [], Value.int .u8 n_), (8, [], Value.int .i64 asked), (109, [], Value.bool true), (110, [], Value.pointer d)] (by kernel_rfl) (by kernel_rfl) ?_
                  refine reg_enter (op := (Go.Op.call (Go.Call.mk (Go.Callee.value (Go.Operand.func 31)) #[(Go.Operand.tmp 110)] #[47]))) (ty := 3) (dst := some 111) 31 #[Value.pointer d] (by kernel_rfl) (fun ww => by kernel_rfl) (Calls.mono h ?_)
                  rintro _ w22 ⟨v111, rfl, h⟩
                  refine ⟨_, rfl, ?_⟩
                  refine reg_run [.sure, .sure, .sure, .sure, .sure, .sure, .plain, .plain] 30 [(4, [], Value.bool (v111 == (IntKind.i64.wrap ((if (IntKind.i64.wrap n_) < asked then (IntKind.i64.wrap n_) else asked) + 1))))] (by kernel_rfl) (by kernel_rfl) ?_
                  refine reg_end [(4, Value.bool (v111 == (IntKind.i64.wrap ((if (IntKind.i64.wrap n_) < asked then (IntKind.i64.wrap n_) else asked) + 1))))] (by kernel_rfl) (by kernel_rfl) ?_
                  change WpE _ _ c_towpathlaw04_DiskCuts_107 _ _ _
                  refine wpE_ret (by kernel_rfl) ?_
                  repeat (first | refine seqQ_ret ?_ | refine blockQ_ret ?_ | refine loopQ_ret ?_ | refine cutQ_ret ?_)
                  exact retS (rs := [(Go.ResultVar.tmp 4)]) (v := Value.bool (v111 == (IntKind.i64.wrap ((if (IntKind.i64.wrap n_) < asked then (IntKind.i64.wrap n_) else asked) + 1)))) (by kernel_rfl) (⟨by kernel_rfl, trivial⟩) ⟨(v111 == (IntKind.i64.wrap ((if (IntKind.i64.wrap n_) < asked then (IntKind.i64.wrap n_) else asked) + 1))), rfl, h⟩
                · replace h := h.2 hb
                  refine reg_run [] 21 [(0, [], Value.int .u8 n_), (8, [], Value.int .i64 asked), (109, [], Value.bool false), (110, [], undef)] (by kernel_rfl) (by kernel_rfl) ?_
                  refine reg_run [.skip, .skip, .skip, .skip, .skip, .skip, .skip, .plain, .plain] 30 [(4, [], Value.bool false)] (by kernel_rfl) (by kernel_rfl) ?_
                  refine reg_end [(4, Value.bool false)] (by kernel_rfl) (by kernel_rfl) ?_
                  change WpE _ _ c_towpathlaw04_DiskCuts_107 _ _ _
                  refine wpE_ret (by kernel_rfl) ?_
                  repeat (first | refine seqQ_ret ?_ | refine blockQ_ret ?_ | refine loopQ_ret ?_ | refine cutQ_ret ?_)
                  exact retS (rs := [(Go.ResultVar.tmp 4)]) (v := Value.bool false) (by kernel_rfl) (⟨by kernel_rfl, trivial⟩) ⟨false, rfl, h⟩
              · replace h := h.2 hb
                refine reg_run [] 14 [(0, [], Value.int .u8 n_), (5, [], Value.pointer d), (8, [], Value.int .i64 asked), (102, [], Value.bool false), (103, [], undef)] (by kernel_rfl) (by kernel_rfl) ?_
                refine reg_run [.skip, .skip, .skip, .skip, .plain, .plain, .skip, .skip, .skip, .skip, .skip, .skip, .skip, .skip, .plain, .plain] 30 [(4, [], Value.bool false)] (by kernel_rfl) (by kernel_rfl) ?_
                refine reg_end [(4, Value.bool false)] (by kernel_rfl) (by kernel_rfl) ?_
                change WpE _ _ c_towpathlaw04_DiskCuts_107 _ _ _
                refine wpE_ret (by kernel_rfl) ?_
                repeat (first | refine seqQ_ret ?_ | refine blockQ_ret ?_ | refine loopQ_ret ?_ | refine cutQ_ret ?_)
                exact retS (rs := [(Go.ResultVar.tmp 4)]) (v := Value.bool false) (by kernel_rfl) (⟨by kernel_rfl, trivial⟩) ⟨false, rfl, h⟩
            · replace h := h.2 hb
              refine reg_run [] 9 [(0, [], Value.int .u8 n_), (5, [], Value.pointer d), (8, [], Value.int .i64 asked), (97, [], Value.bool false), (98, [], undef)] (by kernel_rfl) (by kernel_rfl) ?_
              refine reg_run [.skip, .skip, .plain, .plain, .skip, .skip, .skip, .skip, .skip, .plain, .plain, .skip, .skip, .skip, .skip, .skip, .skip, .skip, .skip, .plain, .plain] 30 [(4, [], Value.bool false)] (by kernel_rfl) (by kernel_rfl) ?_
              refine reg_end [(4, Value.bool false)] (by kernel_rfl) (by kernel_rfl) ?_
              change WpE _ _ c_towpathlaw04_DiskCuts_107 _ _ _
              refine wpE_ret (by kernel_rfl) ?_
              repeat (first | refine seqQ_ret ?_ | refine blockQ_ret ?_ | refine loopQ_ret ?_ | refine cutQ_ret ?_)
              exact retS (rs := [(Go.ResultVar.tmp 4)]) (v := Value.bool false) (by kernel_rfl) (⟨by kernel_rfl, trivial⟩) ⟨false, rfl, h⟩
  · rintro e w' ⟨v, rfl, r0, rfl, h⟩; exact ⟨r0, rfl, h⟩
end Go.Proofs.Ytckmganidgbpgaa
