/- WRITTEN BY PROGRAM (dec.py): for each Go function the clean formula F, the call's contract C, and the proof S that F gives C. -/
import Derived.Test.YtpdegdnigcnjiaaRows
import Derived.Test.YtpdegdnigcnjiaaGF
namespace Go.Proofs.Ytpdegdnigcnjiaa
open Go
set_option linter.unusedVariables false

/-! ### towpath/towpathlaw06.LogfileSpoils (function 6) -/
noncomputable def c_towpathlaw06_LogfileSpoils_0 : Code := (Try.f6.body).getD Code.skip
noncomputable def c_towpathlaw06_LogfileSpoils_1 : Code := Code.l c_towpathlaw06_LogfileSpoils_0
noncomputable def r_towpathlaw06_LogfileSpoils_1 : Array Oper := Code.ops c_towpathlaw06_LogfileSpoils_1
noncomputable def c_towpathlaw06_LogfileSpoils_3 : Code := Code.r c_towpathlaw06_LogfileSpoils_0
noncomputable def c_towpathlaw06_LogfileSpoils_4 : Code := Code.l c_towpathlaw06_LogfileSpoils_3
noncomputable def c_towpathlaw06_LogfileSpoils_5 : Code := Code.l c_towpathlaw06_LogfileSpoils_4
noncomputable def r_towpathlaw06_LogfileSpoils_5 : Array Oper := Code.ops c_towpathlaw06_LogfileSpoils_5
noncomputable def c_towpathlaw06_LogfileSpoils_7 : Code := Code.r c_towpathlaw06_LogfileSpoils_4
noncomputable def c_towpathlaw06_LogfileSpoils_8 : Code := Code.l c_towpathlaw06_LogfileSpoils_7
noncomputable def c_towpathlaw06_LogfileSpoils_9 : Code := Code.l c_towpathlaw06_LogfileSpoils_8
noncomputable def r_towpathlaw06_LogfileSpoils_9 : Array Oper := Code.ops c_towpathlaw06_LogfileSpoils_9
noncomputable def c_towpathlaw06_LogfileSpoils_11 : Code := Code.r c_towpathlaw06_LogfileSpoils_8
noncomputable def c_towpathlaw06_LogfileSpoils_12 : Code := Code.r c_towpathlaw06_LogfileSpoils_7
noncomputable def c_towpathlaw06_LogfileSpoils_13 : Code := Code.r c_towpathlaw06_LogfileSpoils_3
noncomputable def c_towpathlaw06_LogfileSpoils_14 : Code := Code.l c_towpathlaw06_LogfileSpoils_13
noncomputable def r_towpathlaw06_LogfileSpoils_14 : Array Oper := Code.ops c_towpathlaw06_LogfileSpoils_14
noncomputable def c_towpathlaw06_LogfileSpoils_16 : Code := Code.r c_towpathlaw06_LogfileSpoils_13
noncomputable def c_towpathlaw06_LogfileSpoils_17 : Code := Code.l c_towpathlaw06_LogfileSpoils_16
noncomputable def c_towpathlaw06_LogfileSpoils_18 : Code := Code.l c_towpathlaw06_LogfileSpoils_17
noncomputable def r_towpathlaw06_LogfileSpoils_18 : Array Oper := Code.ops c_towpathlaw06_LogfileSpoils_18
noncomputable def c_towpathlaw06_LogfileSpoils_20 : Code := Code.r c_towpathlaw06_LogfileSpoils_17
noncomputable def c_towpathlaw06_LogfileSpoils_21 : Code := Code.l c_towpathlaw06_LogfileSpoils_20
noncomputable def c_towpathlaw06_LogfileSpoils_22 : Code := Code.l c_towpathlaw06_LogfileSpoils_21
noncomputable def r_towpathlaw06_LogfileSpoils_22 : Array Oper := Code.ops c_towpathlaw06_LogfileSpoils_22
noncomputable def c_towpathlaw06_LogfileSpoils_24 : Code := Code.r c_towpathlaw06_LogfileSpoils_21
noncomputable def c_towpathlaw06_LogfileSpoils_25 : Code := Code.r c_towpathlaw06_LogfileSpoils_20
noncomputable def c_towpathlaw06_LogfileSpoils_26 : Code := Code.r c_towpathlaw06_LogfileSpoils_16
noncomputable def c_towpathlaw06_LogfileSpoils_27 : Code := Code.l c_towpathlaw06_LogfileSpoils_26
noncomputable def r_towpathlaw06_LogfileSpoils_27 : Array Oper := Code.ops c_towpathlaw06_LogfileSpoils_27
noncomputable def c_towpathlaw06_LogfileSpoils_29 : Code := Code.r c_towpathlaw06_LogfileSpoils_26
noncomputable def c_towpathlaw06_LogfileSpoils_30 : Code := Code.l c_towpathlaw06_LogfileSpoils_29
noncomputable def c_towpathlaw06_LogfileSpoils_31 : Code := Code.l c_towpathlaw06_LogfileSpoils_30
noncomputable def r_towpathlaw06_LogfileSpoils_31 : Array Oper := Code.ops c_towpathlaw06_LogfileSpoils_31
noncomputable def c_towpathlaw06_LogfileSpoils_33 : Code := Code.r c_towpathlaw06_LogfileSpoils_30
noncomputable def c_towpathlaw06_LogfileSpoils_34 : Code := Code.l c_towpathlaw06_LogfileSpoils_33
noncomputable def c_towpathlaw06_LogfileSpoils_35 : Code := Code.l c_towpathlaw06_LogfileSpoils_34
noncomputable def r_towpathlaw06_LogfileSpoils_35 : Array Oper := Code.ops c_towpathlaw06_LogfileSpoils_35
noncomputable def c_towpathlaw06_LogfileSpoils_37 : Code := Code.r c_towpathlaw06_LogfileSpoils_34
noncomputable def c_towpathlaw06_LogfileSpoils_38 : Code := Code.r c_towpathlaw06_LogfileSpoils_33
noncomputable def c_towpathlaw06_LogfileSpoils_39 : Code := Code.r c_towpathlaw06_LogfileSpoils_29
noncomputable def c_towpathlaw06_LogfileSpoils_40 : Code := Code.l c_towpathlaw06_LogfileSpoils_39
noncomputable def r_towpathlaw06_LogfileSpoils_40 : Array Oper := Code.ops c_towpathlaw06_LogfileSpoils_40
noncomputable def c_towpathlaw06_LogfileSpoils_42 : Code := Code.r c_towpathlaw06_LogfileSpoils_39
noncomputable def c_towpathlaw06_LogfileSpoils_43 : Code := Code.l c_towpathlaw06_LogfileSpoils_42
noncomputable def c_towpathlaw06_LogfileSpoils_44 : Code := Code.l c_towpathlaw06_LogfileSpoils_43
noncomputable def c_towpathlaw06_LogfileSpoils_45 : Code := Code.l c_towpathlaw06_LogfileSpoils_44
noncomputable def c_towpathlaw06_LogfileSpoils_46 : Code := Code.l c_towpathlaw06_LogfileSpoils_45
noncomputable def c_towpathlaw06_LogfileSpoils_47 : Code := Code.l c_towpathlaw06_LogfileSpoils_46
noncomputable def r_towpathlaw06_LogfileSpoils_47 : Array Oper := Code.ops c_towpathlaw06_LogfileSpoils_47
noncomputable def c_towpathlaw06_LogfileSpoils_49 : Code := Code.r c_towpathlaw06_LogfileSpoils_46
noncomputable def c_towpathlaw06_LogfileSpoils_50 : Code := Code.l c_towpathlaw06_LogfileSpoils_49
noncomputable def c_towpathlaw06_LogfileSpoils_51 : Code := Code.r c_towpathlaw06_LogfileSpoils_49
noncomputable def c_towpathlaw06_LogfileSpoils_52 : Code := Code.r c_towpathlaw06_LogfileSpoils_45
noncomputable def c_towpathlaw06_LogfileSpoils_53 : Code := Code.l c_towpathlaw06_LogfileSpoils_52
noncomputable def c_towpathlaw06_LogfileSpoils_54 : Code := Code.l c_towpathlaw06_LogfileSpoils_53
noncomputable def r_towpathlaw06_LogfileSpoils_54 : Array Oper := Code.ops c_towpathlaw06_LogfileSpoils_54
noncomputable def c_towpathlaw06_LogfileSpoils_56 : Code := Code.r c_towpathlaw06_LogfileSpoils_53
noncomputable def c_towpathlaw06_LogfileSpoils_57 : Code := Code.l c_towpathlaw06_LogfileSpoils_56
noncomputable def c_towpathlaw06_LogfileSpoils_58 : Code := Code.l c_towpathlaw06_LogfileSpoils_57
noncomputable def r_towpathlaw06_LogfileSpoils_58 : Array Oper := Code.ops c_towpathlaw06_LogfileSpoils_58
noncomputable def c_towpathlaw06_LogfileSpoils_60 : Code := Code.r c_towpathlaw06_LogfileSpoils_57
noncomputable def c_towpathlaw06_LogfileSpoils_61 : Code := Code.l c_towpathlaw06_LogfileSpoils_60
noncomputable def c_towpathlaw06_LogfileSpoils_62 : Code := Code.l c_towpathlaw06_LogfileSpoils_61
noncomputable def r_towpathlaw06_LogfileSpoils_62 : Array Oper := Code.ops c_towpathlaw06_LogfileSpoils_62
noncomputable def c_towpathlaw06_LogfileSpoils_64 : Code := Code.r c_towpathlaw06_LogfileSpoils_61
noncomputable def c_towpathlaw06_LogfileSpoils_65 : Code := Code.r c_towpathlaw06_LogfileSpoils_60
noncomputable def c_towpathlaw06_LogfileSpoils_66 : Code := Code.r c_towpathlaw06_LogfileSpoils_56
noncomputable def c_towpathlaw06_LogfileSpoils_67 : Code := Code.l c_towpathlaw06_LogfileSpoils_66
noncomputable def c_towpathlaw06_LogfileSpoils_68 : Code := Code.l c_towpathlaw06_LogfileSpoils_67
noncomputable def r_towpathlaw06_LogfileSpoils_68 : Array Oper := Code.ops c_towpathlaw06_LogfileSpoils_68
noncomputable def c_towpathlaw06_LogfileSpoils_70 : Code := Code.r c_towpathlaw06_LogfileSpoils_67
noncomputable def c_towpathlaw06_LogfileSpoils_71 : Code := Code.l c_towpathlaw06_LogfileSpoils_70
noncomputable def c_towpathlaw06_LogfileSpoils_72 : Code := Code.r c_towpathlaw06_LogfileSpoils_70
noncomputable def c_towpathlaw06_LogfileSpoils_73 : Code := Code.r c_towpathlaw06_LogfileSpoils_66
noncomputable def c_towpathlaw06_LogfileSpoils_74 : Code := Code.l c_towpathlaw06_LogfileSpoils_73
noncomputable def r_towpathlaw06_LogfileSpoils_74 : Array Oper := Code.ops c_towpathlaw06_LogfileSpoils_74
noncomputable def c_towpathlaw06_LogfileSpoils_76 : Code := Code.r c_towpathlaw06_LogfileSpoils_73
noncomputable def r_towpathlaw06_LogfileSpoils_76 : Array Oper := Code.ops c_towpathlaw06_LogfileSpoils_76
noncomputable def c_towpathlaw06_LogfileSpoils_78 : Code := Code.r c_towpathlaw06_LogfileSpoils_42
noncomputable def c_towpathlaw06_LogfileSpoils_79 : Code := Code.l c_towpathlaw06_LogfileSpoils_78
noncomputable def r_towpathlaw06_LogfileSpoils_79 : Array Oper := Code.ops c_towpathlaw06_LogfileSpoils_79
noncomputable def c_towpathlaw06_LogfileSpoils_81 : Code := Code.r c_towpathlaw06_LogfileSpoils_78
noncomputable def c_towpathlaw06_LogfileSpoils_82 : Code := Code.l c_towpathlaw06_LogfileSpoils_81
noncomputable def r_towpathlaw06_LogfileSpoils_82 : Array Oper := Code.ops c_towpathlaw06_LogfileSpoils_82
noncomputable def c_towpathlaw06_LogfileSpoils_84 : Code := Code.r c_towpathlaw06_LogfileSpoils_81
noncomputable def c_towpathlaw06_LogfileSpoils_85 : Code := Code.l c_towpathlaw06_LogfileSpoils_84
noncomputable def c_towpathlaw06_LogfileSpoils_86 : Code := Code.l c_towpathlaw06_LogfileSpoils_85
noncomputable def r_towpathlaw06_LogfileSpoils_86 : Array Oper := Code.ops c_towpathlaw06_LogfileSpoils_86
noncomputable def c_towpathlaw06_LogfileSpoils_88 : Code := Code.r c_towpathlaw06_LogfileSpoils_85
noncomputable def c_towpathlaw06_LogfileSpoils_89 : Code := Code.l c_towpathlaw06_LogfileSpoils_88
noncomputable def c_towpathlaw06_LogfileSpoils_90 : Code := Code.l c_towpathlaw06_LogfileSpoils_89
noncomputable def r_towpathlaw06_LogfileSpoils_90 : Array Oper := Code.ops c_towpathlaw06_LogfileSpoils_90
noncomputable def c_towpathlaw06_LogfileSpoils_92 : Code := Code.r c_towpathlaw06_LogfileSpoils_89
noncomputable def c_towpathlaw06_LogfileSpoils_93 : Code := Code.r c_towpathlaw06_LogfileSpoils_88
noncomputable def c_towpathlaw06_LogfileSpoils_94 : Code := Code.r c_towpathlaw06_LogfileSpoils_84
noncomputable def c_towpathlaw06_LogfileSpoils_95 : Code := Code.l c_towpathlaw06_LogfileSpoils_94
noncomputable def r_towpathlaw06_LogfileSpoils_95 : Array Oper := Code.ops c_towpathlaw06_LogfileSpoils_95
noncomputable def c_towpathlaw06_LogfileSpoils_97 : Code := Code.r c_towpathlaw06_LogfileSpoils_94
def o_towpathlaw06_LogfileSpoils_86 : List Nat := [0, 1, 2, 3, 4, 5, 6, 7, 8, 9, 10, 11, 12, 13, 14, 15, 16, 17, 18, 19, 20, 21, 22, 23, 24]
def o_towpathlaw06_LogfileSpoils_95 : List Nat := [0, 1, 2, 3, 4, 5, 6, 7, 8, 9, 10, 11, 12, 13, 14, 15, 16]

set_option maxRecDepth 100000 in
set_option maxHeartbeats 4000000 in
theorem S_towpathlaw06_LogfileSpoils {l_ : Slc} {at_ : Int} {other : Int} {w : World} {R : Bool → World → Prop} (h : F_towpathlaw06_LogfileSpoils l_ at_ other R w) : C_towpathlaw06_LogfileSpoils l_ at_ other w R := by
  unfold F_towpathlaw06_LogfileSpoils at h
  unfold C_towpathlaw06_LogfileSpoils
  refine Calls.mono (calls_of_wpE (args := [Value.slice l_.ptr l_.len l_.cap, Value.int .u32 at_, Value.int .u8 other]) (R := fun v w' => ∃ (r0 : Bool), v = Value.bool r0 ∧ R r0 w') Try.func6 (c := c_towpathlaw06_LogfileSpoils_0) (by kernel_rfl) 126 (by kernel_rfl) (by kernel_rfl) [(0, Value.slice l_.ptr l_.len l_.cap), (1, Value.int .u32 at_), (2, Value.int .u8 other)] (by kernel_rfl) ?_) ?_
  · refine wpE_seq (x := c_towpathlaw06_LogfileSpoils_1) (y := c_towpathlaw06_LogfileSpoils_3) (by kernel_rfl) ?_
    refine wpE_region (id := 0) (ops := r_towpathlaw06_LogfileSpoils_1) (by kernel_rfl) ?_
    refine reg_run [.plain] 1 [(0, [], Value.slice l_.ptr l_.len l_.cap), (1, [], Value.int .u32 at_), (2, [], Value.int .u8 other)] (by kernel_rfl) (by kernel_rfl) ?_
    refine reg_end [(0, Value.slice l_.ptr l_.len l_.cap), (1, Value.int .u32 at_), (2, Value.int .u8 other)] (by kernel_rfl) (by kernel_rfl) ?_
    change WpE _ _ c_towpathlaw06_LogfileSpoils_3 _ _ _
    refine wpE_seq (x := c_towpathlaw06_LogfileSpoils_4) (y := c_towpathlaw06_LogfileSpoils_13) (by kernel_rfl) ?_
    refine wpE_seq_cut (x := c_towpathlaw06_LogfileSpoils_5) (y := c_towpathlaw06_LogfileSpoils_7) (by kernel_rfl) (fun l w => ∃ (t24 : Bool), l = [(0, Value.slice l_.ptr l_.len l_.cap), (1, Value.int .u32 at_), (2, Value.int .u8 other), (24, Value.bool t24)] ∧ F_towpathlaw06_LogfileSpoils_k0 l_ at_ other R t24 w) ?_ ?_
    · refine wpE_region (id := 1) (ops := r_towpathlaw06_LogfileSpoils_5) (by kernel_rfl) ?_
      refine reg_run [] 0 [(0, [], Value.slice l_.ptr l_.len l_.cap), (1, [], Value.int .u32 at_), (2, [], Value.int .u8 other)] (by kernel_rfl) (by kernel_rfl) ?_
      refine reg_enter (op := (Go.Op.call (Go.Call.mk (Go.Callee.value (Go.Operand.func 15)) #[] #[]))) (ty := 4) (dst := some 17) 15 #[] (by kernel_rfl) (fun ww => by kernel_rfl) (Calls.mono h ?_)
      rintro _ w15 ⟨v17, rfl, h⟩
      refine ⟨_, rfl, ?_⟩
      refine reg_run [.plain, .plain, .plain] 4 [(0, [], Value.slice l_.ptr l_.len l_.cap), (1, [], Value.int .u32 at_), (2, [], Value.int .u8 other), (19, [], Value.bool (!v17)), (20, [(19, false)], Value.slice l_.ptr l_.len l_.cap)] (by kernel_rfl) (by kernel_rfl) ?_
      refine reg_split 19 (!v17) (by kernel_rfl) (fun hb => ?_) (fun hb => ?_)
      · replace h := h.1 hb
        refine reg_run [] 4 [(0, [], Value.slice l_.ptr l_.len l_.cap), (1, [], Value.int .u32 at_), (2, [], Value.int .u8 other), (19, [], Value.bool true), (20, [], undef)] (by kernel_rfl) (by kernel_rfl) ?_
        refine reg_run [.skip, .skip, .skip, .plain] 8 [(0, [], Value.slice l_.ptr l_.len l_.cap), (1, [], Value.int .u32 at_), (2, [], Value.int .u8 other), (24, [], Value.bool true)] (by kernel_rfl) (by kernel_rfl) ?_
        refine reg_end [(0, Value.slice l_.ptr l_.len l_.cap), (1, Value.int .u32 at_), (2, Value.int .u8 other), (24, Value.bool true)] (by kernel_rfl) (by kernel_rfl) ?_
        exact ⟨[(0, Value.slice l_.ptr l_.len l_.cap), (1, Value.int .u32 at_), (2, Value.int .u8 other), (24, Value.bool true)], Sub.mk (by kernel_rfl), true, rfl, h⟩
      · replace h := h.2 hb
        refine reg_run [] 4 [(0, [], Value.slice l_.ptr l_.len l_.cap), (1, [], Value.int .u32 at_), (2, [], Value.int .u8 other), (19, [], Value.bool false), (20, [], Value.slice l_.ptr l_.len l_.cap)] (by kernel_rfl) (by kernel_rfl) ?_
        refine reg_run [] 4 [(0, [], Value.slice l_.ptr l_.len l_.cap), (1, [], Value.int .u32 at_), (2, [], Value.int .u8 other), (19, [], Value.bool false), (20, [], Value.slice l_.ptr l_.len l_.cap)] (by kernel_rfl) (by kernel_rfl) ?_
        refine reg_enter (op := (Go.Op.call (Go.Call.mk (Go.Callee.value (Go.Operand.func 16)) #[(Go.Operand.tmp 20)] #[37]))) (ty := 3) (dst := some 21) 16 #[Value.slice l_.ptr l_.len l_.cap] (by kernel_rfl) (fun ww => by kernel_rfl) (Calls.mono h ?_)
        rintro _ w16 ⟨v21, rfl, h⟩
        refine ⟨_, rfl, ?_⟩
        refine reg_run [] 5 [(0, [], Value.slice l_.ptr l_.len l_.cap), (1, [], Value.int .u32 at_), (2, [], Value.int .u8 other), (19, [], Value.bool false), (21, [], Value.int .i64 v21)] (by kernel_rfl) (by kernel_rfl) ?_
        refine reg_new (op := (Go.Op.buildSlice 25 1 #[(0, (Go.Operand.tmp 21))])) (ty := 25) (dst := some 22) (fun bb => Value.slice (some ⟨bb, 0, none⟩) 1 1) (Obj.cells ([Value.int .i64 v21]).toArray ty_int (0, 0)) (by kernel_rfl) (by kernel_rfl) (fun b_1 w17 hb hw => ?_)
        replace h := h b_1 w17 hb hw
        clear hb hw
        refine reg_run [] 6 [(0, [], Value.slice l_.ptr l_.len l_.cap), (1, [], Value.int .u32 at_), (2, [], Value.int .u8 other), (19, [], Value.bool false), (22, [], Value.slice (some ⟨b_1, 0, none⟩) 1 1)] (by kernel_rfl) (by kernel_rfl) ?_
        refine reg_enter (op := (Go.Op.call (Go.Call.mk (Go.Callee.value (Go.Operand.func 10)) #[(Go.Operand.tmp 22)] #[25]))) (ty := 4) (dst := some 23) 10 #[Value.slice (some ⟨b_1, 0, none⟩) 1 1] (by kernel_rfl) (fun ww => by kernel_rfl) (Calls.mono h ?_)
        rintro _ w18 ⟨v23, rfl, h⟩
        refine ⟨_, rfl, ?_⟩
        refine reg_run [.plain] 8 [(0, [], Value.slice l_.ptr l_.len l_.cap), (1, [], Value.int .u32 at_), (2, [], Value.int .u8 other), (24, [], Value.bool v23)] (by kernel_rfl) (by kernel_rfl) ?_
        refine reg_end [(0, Value.slice l_.ptr l_.len l_.cap), (1, Value.int .u32 at_), (2, Value.int .u8 other), (24, Value.bool v23)] (by kernel_rfl) (by kernel_rfl) ?_
        exact ⟨[(0, Value.slice l_.ptr l_.len l_.cap), (1, Value.int .u32 at_), (2, Value.int .u8 other), (24, Value.bool v23)], Sub.mk (by kernel_rfl), v23, rfl, h⟩
    · rintro _ w1 ⟨t24, rfl, h⟩
      unfold F_towpathlaw06_LogfileSpoils_k0 at h
      refine wpE_cond (o := (Operand.tmp 24)) (b := t24) (x := c_towpathlaw06_LogfileSpoils_8) (y := c_towpathlaw06_LogfileSpoils_12) (by kernel_rfl) (by kernel_rfl) (fun hb => ?_) (fun hb => ?_)
      · replace h := h.1 hb
        refine wpE_seq (x := c_towpathlaw06_LogfileSpoils_9) (y := c_towpathlaw06_LogfileSpoils_11) (by kernel_rfl) ?_
        refine wpE_region (id := 2) (ops := r_towpathlaw06_LogfileSpoils_9) (by kernel_rfl) ?_
        refine reg_run [] 0 [] (by kernel_rfl) (by kernel_rfl) ?_
        refine reg_enter (op := (Go.Op.call (Go.Call.mk (Go.Callee.value (Go.Operand.func 15)) #[] #[]))) (ty := 4) (dst := some 25) 15 #[] (by kernel_rfl) (fun ww => by kernel_rfl) (Calls.mono h ?_)
        rintro _ w2 ⟨v25, rfl, h⟩
        refine ⟨_, rfl, ?_⟩
        refine reg_run [.plain] 2 [(6, [], Value.bool v25)] (by kernel_rfl) (by kernel_rfl) ?_
        refine reg_end [(6, Value.bool v25)] (by kernel_rfl) (by kernel_rfl) ?_
        change WpE _ _ c_towpathlaw06_LogfileSpoils_11 _ _ _
        refine wpE_ret (by kernel_rfl) ?_
        repeat (first | refine seqQ_ret ?_ | refine blockQ_ret ?_ | refine loopQ_ret ?_ | refine cutQ_ret ?_)
        exact retS (rs := [(Go.ResultVar.tmp 6)]) (v := Value.bool v25) (by kernel_rfl) (⟨by kernel_rfl, trivial⟩) ⟨v25, rfl, h⟩
      · replace h := h.2 hb
        refine wpE_skip (by kernel_rfl) ?_
        change WpE _ _ c_towpathlaw06_LogfileSpoils_13 _ _ _
        refine wpE_seq (x := c_towpathlaw06_LogfileSpoils_14) (y := c_towpathlaw06_LogfileSpoils_16) (by kernel_rfl) ?_
        refine wpE_region (id := 3) (ops := r_towpathlaw06_LogfileSpoils_14) (by kernel_rfl) ?_
        refine reg_run [.plain] 1 [(0, [], Value.slice l_.ptr l_.len l_.cap), (1, [], Value.int .u32 at_), (2, [], Value.int .u8 other), (27, [], Value.slice l_.ptr l_.len l_.cap)] (by kernel_rfl) (by kernel_rfl) ?_
        refine reg_enter (op := (Go.Op.call (Go.Call.mk (Go.Callee.value (Go.Operand.func 17)) #[(Go.Operand.tmp 27)] #[37]))) (ty := 32) (dst := some 28) 17 #[Value.slice l_.ptr l_.len l_.cap] (by kernel_rfl) (fun ww => by kernel_rfl) (Calls.mono h ?_)
        rintro _ w3 ⟨b_, e, rfl, h⟩
        refine ⟨_, rfl, ?_⟩
        refine reg_run [.plain, .plain, .plain, .plain, .plain] 7 [(0, [], Value.slice l_.ptr l_.len l_.cap), (1, [], Value.int .u32 at_), (2, [], Value.int .u8 other), (7, [], Value.slice b_.ptr b_.len b_.cap), (8, [], Value.int .i64 e)] (by kernel_rfl) (by kernel_rfl) ?_
        refine reg_end [(0, Value.slice l_.ptr l_.len l_.cap), (1, Value.int .u32 at_), (2, Value.int .u8 other), (7, Value.slice b_.ptr b_.len b_.cap), (8, Value.int .i64 e)] (by kernel_rfl) (by kernel_rfl) ?_
        change WpE _ _ c_towpathlaw06_LogfileSpoils_16 _ _ _
        refine wpE_seq (x := c_towpathlaw06_LogfileSpoils_17) (y := c_towpathlaw06_LogfileSpoils_26) (by kernel_rfl) ?_
        refine wpE_seq (x := c_towpathlaw06_LogfileSpoils_18) (y := c_towpathlaw06_LogfileSpoils_20) (by kernel_rfl) ?_
        refine wpE_region (id := 4) (ops := r_towpathlaw06_LogfileSpoils_18) (by kernel_rfl) ?_
        refine reg_run [.plain, .plain, .plain, .plain, .plain, .plain, .pick] 7 [(0, [], Value.slice l_.ptr l_.len l_.cap), (1, [], Value.int .u32 at_), (2, [], Value.int .u8 other), (7, [], Value.slice b_.ptr b_.len b_.cap), (8, [], Value.int .i64 e), (37, [], Value.bool ((e != 0) || (((b_.len : Nat) : Int) == 0)))] (by kernel_rfl) (by kernel_rfl) ?_
        refine reg_end [(0, Value.slice l_.ptr l_.len l_.cap), (1, Value.int .u32 at_), (2, Value.int .u8 other), (7, Value.slice b_.ptr b_.len b_.cap), (8, Value.int .i64 e), (37, Value.bool ((e != 0) || (((b_.len : Nat) : Int) == 0)))] (by kernel_rfl) (by kernel_rfl) ?_
        change WpE _ _ c_towpathlaw06_LogfileSpoils_20 _ _ _
        refine wpE_cond (o := (Operand.tmp 37)) (b := ((e != 0) || (((b_.len : Nat) : Int) == 0))) (x := c_towpathlaw06_LogfileSpoils_21) (y := c_towpathlaw06_LogfileSpoils_25) (by kernel_rfl) (by kernel_rfl) (fun hb => ?_) (fun hb => ?_)
        · replace h := h.1 hb
          refine wpE_seq (x := c_towpathlaw06_LogfileSpoils_22) (y := c_towpathlaw06_LogfileSpoils_24) (by kernel_rfl) ?_
          refine wpE_region (id := 5) (ops := r_towpathlaw06_LogfileSpoils_22) (by kernel_rfl) ?_
          refine reg_run [.plain, .plain] 2 [(38, [], Value.int .i64 e), (39, [], Value.slice l_.ptr l_.len l_.cap)] (by kernel_rfl) (by kernel_rfl) ?_
          refine reg_enter (op := (Go.Op.call (Go.Call.mk (Go.Callee.value (Go.Operand.func 18)) #[(Go.Operand.tmp 39)] #[37]))) (ty := 29) (dst := some 40) 18 #[Value.slice l_.ptr l_.len l_.cap] (by kernel_rfl) (fun ww => by kernel_rfl) (Calls.mono h ?_)
          rintro _ w4 ⟨v40, rfl, h⟩
          refine ⟨_, rfl, ?_⟩
          refine reg_run [.plain, .plain] 5 [(6, [], Value.bool (e == v40))] (by kernel_rfl) (by kernel_rfl) ?_
          refine reg_end [(6, Value.bool (e == v40))] (by kernel_rfl) (by kernel_rfl) ?_
          change WpE _ _ c_towpathlaw06_LogfileSpoils_24 _ _ _
          refine wpE_ret (by kernel_rfl) ?_
          repeat (first | refine seqQ_ret ?_ | refine blockQ_ret ?_ | refine loopQ_ret ?_ | refine cutQ_ret ?_)
          exact retS (rs := [(Go.ResultVar.tmp 6)]) (v := Value.bool (e == v40)) (by kernel_rfl) (⟨by kernel_rfl, trivial⟩) ⟨(e == v40), rfl, h⟩
        · replace h := h.2 hb
          refine wpE_skip (by kernel_rfl) ?_
          change WpE _ _ c_towpathlaw06_LogfileSpoils_26 _ _ _
          refine wpE_seq (x := c_towpathlaw06_LogfileSpoils_27) (y := c_towpathlaw06_LogfileSpoils_29) (by kernel_rfl) ?_
          refine wpE_region (id := 6) (ops := r_towpathlaw06_LogfileSpoils_27) (by kernel_rfl) ?_
          refine reg_run [.plain, .plain, .plain, .plain] 4 [(0, [], Value.slice l_.ptr l_.len l_.cap), (2, [], Value.int .u8 other), (7, [], Value.slice b_.ptr b_.len b_.cap), (43, [], Value.int .i64 (IntKind.i64.wrap at_)), (45, [], Value.int .i64 ((b_.len : Nat) : Int))] (by kernel_rfl) (by kernel_rfl) ?_
          obtain ⟨h0, h⟩ := h
          refine reg_val (op := (Go.Op.binOp Go.BinOp.rem 3 (Go.Operand.tmp 43) (Go.Operand.tmp 45) 3)) (ty := 3) (dst := some 46) (Value.int .i64 (Int.tmod (IntKind.i64.wrap at_) ((b_.len : Nat) : Int))) (by kernel_rfl) (fun ww => run_rem (by kernel_rfl) (by kernel_rfl) h0 ww) ?_
          refine reg_run [.plain] 6 [(0, [], Value.slice l_.ptr l_.len l_.cap), (2, [], Value.int .u8 other), (7, [], Value.slice b_.ptr b_.len b_.cap), (9, [], Value.int .i64 (Int.tmod (IntKind.i64.wrap at_) ((b_.len : Nat) : Int)))] (by kernel_rfl) (by kernel_rfl) ?_
          refine reg_end [(0, Value.slice l_.ptr l_.len l_.cap), (2, Value.int .u8 other), (7, Value.slice b_.ptr b_.len b_.cap), (9, Value.int .i64 (Int.tmod (IntKind.i64.wrap at_) ((b_.len : Nat) : Int)))] (by kernel_rfl) (by kernel_rfl) ?_
          change WpE _ _ c_towpathlaw06_LogfileSpoils_29 _ _ _
          refine wpE_seq (x := c_towpathlaw06_LogfileSpoils_30) (y := c_towpathlaw06_LogfileSpoils_39) (by kernel_rfl) ?_
          refine wpE_seq (x := c_towpathlaw06_LogfileSpoils_31) (y := c_towpathlaw06_LogfileSpoils_33) (by kernel_rfl) ?_
          refine wpE_region (id := 7) (ops := r_towpathlaw06_LogfileSpoils_31) (by kernel_rfl) ?_
          refine reg_run [.plain, .plain] 2 [(0, [], Value.slice l_.ptr l_.len l_.cap), (2, [], Value.int .u8 other), (7, [], Value.slice b_.ptr b_.len b_.cap), (9, [], Value.int .i64 (Int.tmod (IntKind.i64.wrap at_) ((b_.len : Nat) : Int))), (47, [], Value.slice b_.ptr b_.len b_.cap), (48, [], Value.int .i64 (Int.tmod (IntKind.i64.wrap at_) ((b_.len : Nat) : Int)))] (by kernel_rfl) (by kernel_rfl) ?_
          obtain ⟨hp_3, h⟩ := h
          refine reg_conv [(0, [], Value.slice l_.ptr l_.len l_.cap), (2, [], Value.int .u8 other), (7, [], Value.slice b_.ptr b_.len b_.cap), (9, [], Value.int .i64 (Int.tmod (IntKind.i64.wrap at_) ((b_.len : Nat) : Int))), (47, [], Value.slice (some ⟨(pblk b_.ptr), (poff b_.ptr), none⟩) b_.len b_.cap), (48, [], Value.int .i64 (Int.tmod (IntKind.i64.wrap at_) ((b_.len : Nat) : Int)))] (congrArg (fun pp => ([(0, [], Value.slice l_.ptr l_.len l_.cap), (2, [], Value.int .u8 other), (7, [], Value.slice b_.ptr b_.len b_.cap), (9, [], Value.int .i64 (Int.tmod (IntKind.i64.wrap at_) ((b_.len : Nat) : Int))), (47, [], Value.slice pp b_.len b_.cap), (48, [], Value.int .i64 (Int.tmod (IntKind.i64.wrap at_) ((b_.len : Nat) : Int)))] : GEnv)) hp_3) ?_
          obtain ⟨h0, h1, h⟩ := h
          refine reg_indexS1 (t := 22) (e := 5) (x := (Go.Operand.tmp 47)) (ix := (Go.Operand.tmp 48)) (b := (pblk b_.ptr)) (o := (poff b_.ptr)) (l := b_.len) (c := b_.cap) (k := .i64) (j := (Int.tmod (IntKind.i64.wrap at_) ((b_.len : Nat) : Int))) (ty := 0) (dst := some 49) (by kernel_rfl) (by kernel_rfl) (by kernel_rfl) (by kernel_rfl) (by kernel_rfl) h0 h1 ?_
          refine reg_run [] 3 [(0, [], Value.slice l_.ptr l_.len l_.cap), (2, [], Value.int .u8 other), (7, [], Value.slice b_.ptr b_.len b_.cap), (9, [], Value.int .i64 (Int.tmod (IntKind.i64.wrap at_) ((b_.len : Nat) : Int))), (49, [], Value.pointer (some ⟨(pblk b_.ptr), (poff b_.ptr) + (Int.tmod (IntKind.i64.wrap at_) ((b_.len : Nat) : Int)).toNat, none⟩))] (by kernel_rfl) (by kernel_rfl) ?_
          obtain ⟨v50, hc, h⟩ := h
          refine reg_load1 (t := 5) (a := (Go.Operand.tmp 49)) (b := (pblk b_.ptr)) (o := ((poff b_.ptr) + (Int.tmod (IntKind.i64.wrap at_) ((b_.len : Nat) : Int)).toNat)) (ty := 5) (dst := some 50) (by kernel_rfl) (by kernel_rfl) (by kernel_rfl) hc ?_
          refine reg_run [.plain, .plain] 6 [(0, [], Value.slice l_.ptr l_.len l_.cap), (2, [], Value.int .u8 other), (7, [], Value.slice b_.ptr b_.len b_.cap), (9, [], Value.int .i64 (Int.tmod (IntKind.i64.wrap at_) ((b_.len : Nat) : Int))), (52, [], Value.bool (v50 == other))] (by kernel_rfl) (by kernel_rfl) ?_
          refine reg_end [(0, Value.slice l_.ptr l_.len l_.cap), (2, Value.int .u8 other), (7, Value.slice b_.ptr b_.len b_.cap), (9, Value.int .i64 (Int.tmod (IntKind.i64.wrap at_) ((b_.len : Nat) : Int))), (52, Value.bool (v50 == other))] (by kernel_rfl) (by kernel_rfl) ?_
          change WpE _ _ c_towpathlaw06_LogfileSpoils_33 _ _ _
          refine wpE_cond (o := (Operand.tmp 52)) (b := (v50 == other)) (x := c_towpathlaw06_LogfileSpoils_34) (y := c_towpathlaw06_LogfileSpoils_38) (by kernel_rfl) (by kernel_rfl) (fun hb => ?_) (fun hb => ?_)
          · replace h := h.1 hb
            refine wpE_seq (x := c_towpathlaw06_LogfileSpoils_35) (y := c_towpathlaw06_LogfileSpoils_37) (by kernel_rfl) ?_
            refine wpE_region (id := 8) (ops := r_towpathlaw06_LogfileSpoils_35) (by kernel_rfl) ?_
            refine reg_run [.plain] 1 [(6, [], Value.bool true)] (by kernel_rfl) (by kernel_rfl) ?_
            refine reg_end [(6, Value.bool true)] (by kernel_rfl) (by kernel_rfl) ?_
            change WpE _ _ c_towpathlaw06_LogfileSpoils_37 _ _ _
            refine wpE_ret (by kernel_rfl) ?_
            repeat (first | refine seqQ_ret ?_ | refine blockQ_ret ?_ | refine loopQ_ret ?_ | refine cutQ_ret ?_)
            exact retS (rs := [(Go.ResultVar.tmp 6)]) (v := Value.bool true) (by kernel_rfl) (⟨by kernel_rfl, trivial⟩) ⟨true, rfl, h⟩
          · replace h := h.2 hb
            refine wpE_skip (by kernel_rfl) ?_
            change WpE _ _ c_towpathlaw06_LogfileSpoils_39 _ _ _
            refine wpE_seq (x := c_towpathlaw06_LogfileSpoils_40) (y := c_towpathlaw06_LogfileSpoils_42) (by kernel_rfl) ?_
            refine wpE_region (id := 9) (ops := r_towpathlaw06_LogfileSpoils_40) (by kernel_rfl) ?_
            refine reg_run [.plain, .plain] 2 [(0, [], Value.slice l_.ptr l_.len l_.cap), (2, [], Value.int .u8 other), (7, [], Value.slice b_.ptr b_.len b_.cap), (9, [], Value.int .i64 (Int.tmod (IntKind.i64.wrap at_) ((b_.len : Nat) : Int))), (10, [], Value.int .i64 0), (11, [], Value.int .i64 0)] (by kernel_rfl) (by kernel_rfl) ?_
            refine reg_end [(0, Value.slice l_.ptr l_.len l_.cap), (2, Value.int .u8 other), (7, Value.slice b_.ptr b_.len b_.cap), (9, Value.int .i64 (Int.tmod (IntKind.i64.wrap at_) ((b_.len : Nat) : Int))), (10, Value.int .i64 0), (11, Value.int .i64 0)] (by kernel_rfl) (by kernel_rfl) ?_
            change WpE _ _ c_towpathlaw06_LogfileSpoils_42 _ _ _
            refine wpE_seq_cut (x := c_towpathlaw06_LogfileSpoils_43) (y := c_towpathlaw06_LogfileSpoils_78) (by kernel_rfl) (fun l w => ∃ (ends : Int) (whole : Int), l = [(0, Value.slice l_.ptr l_.len l_.cap), (2, Value.int .u8 other), (7, Value.slice b_.ptr b_.len b_.cap), (9, Value.int .i64 (Int.tmod (IntKind.i64.wrap at_) ((b_.len : Nat) : Int))), (10, Value.int .i64 ends), (11, Value.int .i64 whole)] ∧ F_towpathlaw06_LogfileSpoils_k1 l_ at_ other R b_ ends whole w) ?_ ?_
            · refine wpE_block (id := 0) (x := c_towpathlaw06_LogfileSpoils_44) (by kernel_rfl) ?_
              obtain ⟨I, μ, h0, hr⟩ := h
              refine wpE_loop (x := c_towpathlaw06_LogfileSpoils_45) (by kernel_rfl) (fun m l w => ∃ (ends1 : Int) (whole1 : Int), l = [(0, Value.slice l_.ptr l_.len l_.cap), (2, Value.int .u8 other), (7, Value.slice b_.ptr b_.len b_.cap), (9, Value.int .i64 (Int.tmod (IntKind.i64.wrap at_) ((b_.len : Nat) : Int))), (10, Value.int .i64 ends1), (11, Value.int .i64 whole1)] ∧ I ends1 whole1 w ∧ μ ends1 whole1 w = m) (l' := [(0, Value.slice l_.ptr l_.len l_.cap), (2, Value.int .u8 other), (7, Value.slice b_.ptr b_.len b_.cap), (9, Value.int .i64 (Int.tmod (IntKind.i64.wrap at_) ((b_.len : Nat) : Int))), (10, Value.int .i64 0), (11, Value.int .i64 0)]) (Sub.mk (by kernel_rfl)) ⟨0, 0, rfl, h0, rfl⟩ ?_
              rintro _ _ w13 ⟨ends1, whole1, rfl, hI, rfl⟩
              obtain ⟨again_, again__h, h⟩ : ∃ again_ : Int → Int → World → Prop, (∀ ends1' whole1' w', again_ ends1' whole1' w' → I ends1' whole1' w' ∧ μ ends1' whole1' w' < μ ends1 whole1 w13) ∧ F_towpathlaw06_LogfileSpoils_L3 l_ at_ other R b_ again_ ends1 whole1 w13 := ⟨_, fun _ _ _ h => h, hr ends1 whole1 w13 hI⟩
              clear h0 hI
              unfold F_towpathlaw06_LogfileSpoils_L3 at h
              refine wpE_seq (x := c_towpathlaw06_LogfileSpoils_46) (y := c_towpathlaw06_LogfileSpoils_52) (by kernel_rfl) ?_
              refine wpE_seq (x := c_towpathlaw06_LogfileSpoils_47) (y := c_towpathlaw06_LogfileSpoils_49) (by kernel_rfl) ?_
              refine wpE_region (id := 10) (ops := r_towpathlaw06_LogfileSpoils_47) (by kernel_rfl) ?_
              refine reg_run [.plain, .plain, .plain, .plain] 4 [(0, [], Value.slice l_.ptr l_.len l_.cap), (2, [], Value.int .u8 other), (7, [], Value.slice b_.ptr b_.len b_.cap), (9, [], Value.int .i64 (Int.tmod (IntKind.i64.wrap at_) ((b_.len : Nat) : Int))), (10, [], Value.int .i64 ends1), (11, [], Value.int .i64 whole1), (56, [], Value.bool (decide (whole1 < ((l_.len : Nat) : Int))))] (by kernel_rfl) (by kernel_rfl) ?_
              refine reg_end [(0, Value.slice l_.ptr l_.len l_.cap), (2, Value.int .u8 other), (7, Value.slice b_.ptr b_.len b_.cap), (9, Value.int .i64 (Int.tmod (IntKind.i64.wrap at_) ((b_.len : Nat) : Int))), (10, Value.int .i64 ends1), (11, Value.int .i64 whole1), (56, Value.bool (decide (whole1 < ((l_.len : Nat) : Int))))] (by kernel_rfl) (by kernel_rfl) ?_
              change WpE _ _ c_towpathlaw06_LogfileSpoils_49 _ _ _
              refine wpE_cond (o := (Operand.tmp 56)) (b := (decide (whole1 < ((l_.len : Nat) : Int)))) (x := c_towpathlaw06_LogfileSpoils_50) (y := c_towpathlaw06_LogfileSpoils_51) (by kernel_rfl) (by kernel_rfl) (fun hb => ?_) (fun hb => ?_)
              · replace h := h.1 hb
                refine wpE_skip (by kernel_rfl) ?_
                change WpE _ _ c_towpathlaw06_LogfileSpoils_52 _ _ _
                refine wpE_block (id := 1) (x := c_towpathlaw06_LogfileSpoils_53) (by kernel_rfl) ?_
                refine wpE_seq (x := c_towpathlaw06_LogfileSpoils_54) (y := c_towpathlaw06_LogfileSpoils_56) (by kernel_rfl) ?_
                refine wpE_region (id := 11) (ops := r_towpathlaw06_LogfileSpoils_54) (by kernel_rfl) ?_
                refine reg_run [.plain, .plain, .plain] 3 [(0, [], Value.slice l_.ptr l_.len l_.cap), (2, [], Value.int .u8 other), (7, [], Value.slice b_.ptr b_.len b_.cap), (9, [], Value.int .i64 (Int.tmod (IntKind.i64.wrap at_) ((b_.len : Nat) : Int))), (10, [], Value.int .i64 ends1), (11, [], Value.int .i64 whole1), (58, [], Value.slice l_.ptr l_.len l_.cap), (60, [], Value.int .i64 (IntKind.i64.wrap (whole1 + 1)))] (by kernel_rfl) (by kernel_rfl) ?_
                obtain ⟨h0, h1, h⟩ := h
                refine reg_sliceHi (t := 37) (e := 49) (x := (Go.Operand.tmp 58)) (hi := (Go.Operand.tmp 60)) (p := l_.ptr) (l := l_.len) (c := l_.cap) (sz := 2) (k := .i64) (j := (IntKind.i64.wrap (whole1 + 1))) (ty := 37) (dst := some 61) (by kernel_rfl) (by kernel_rfl) (by kernel_rfl) (by kernel_rfl) (by kernel_rfl) h0 h1 ?_
                refine reg_run [] 4 [(0, [], Value.slice l_.ptr l_.len l_.cap), (2, [], Value.int .u8 other), (7, [], Value.slice b_.ptr b_.len b_.cap), (9, [], Value.int .i64 (Int.tmod (IntKind.i64.wrap at_) ((b_.len : Nat) : Int))), (10, [], Value.int .i64 ends1), (11, [], Value.int .i64 whole1), (61, [], Value.slice l_.ptr ((IntKind.i64.wrap (whole1 + 1)).toNat) l_.cap)] (by kernel_rfl) (by kernel_rfl) ?_
                refine reg_enter (op := (Go.Op.call (Go.Call.mk (Go.Callee.value (Go.Operand.func 17)) #[(Go.Operand.tmp 61)] #[37]))) (ty := 32) (dst := some 62) 17 #[Value.slice l_.ptr ((IntKind.i64.wrap (whole1 + 1)).toNat) l_.cap] (by kernel_rfl) (fun ww => by kernel_rfl) (Calls.mono h ?_)
                rintro _ w14 ⟨c, f, rfl, h⟩
                refine ⟨_, rfl, ?_⟩
                refine reg_run [.plain, .plain, .plain, .plain, .plain] 10 [(0, [], Value.slice l_.ptr l_.len l_.cap), (2, [], Value.int .u8 other), (7, [], Value.slice b_.ptr b_.len b_.cap), (9, [], Value.int .i64 (Int.tmod (IntKind.i64.wrap at_) ((b_.len : Nat) : Int))), (10, [], Value.int .i64 ends1), (11, [], Value.int .i64 whole1), (12, [], Value.slice c.ptr c.len c.cap), (13, [], Value.int .i64 f)] (by kernel_rfl) (by kernel_rfl) ?_
                refine reg_end [(0, Value.slice l_.ptr l_.len l_.cap), (2, Value.int .u8 other), (7, Value.slice b_.ptr b_.len b_.cap), (9, Value.int .i64 (Int.tmod (IntKind.i64.wrap at_) ((b_.len : Nat) : Int))), (10, Value.int .i64 ends1), (11, Value.int .i64 whole1), (12, Value.slice c.ptr c.len c.cap), (13, Value.int .i64 f)] (by kernel_rfl) (by kernel_rfl) ?_
                change WpE _ _ c_towpathlaw06_LogfileSpoils_56 _ _ _
                refine wpE_seq (x := c_towpathlaw06_LogfileSpoils_57) (y := c_towpathlaw06_LogfileSpoils_66) (by kernel_rfl) ?_
                refine wpE_seq (x := c_towpathlaw06_LogfileSpoils_58) (y := c_towpathlaw06_LogfileSpoils_60) (by kernel_rfl) ?_
                refine wpE_region (id := 12) (ops := r_towpathlaw06_LogfileSpoils_58) (by kernel_rfl) ?_
                refine reg_run [.plain, .plain] 2 [(0, [], Value.slice l_.ptr l_.len l_.cap), (2, [], Value.int .u8 other), (7, [], Value.slice b_.ptr b_.len b_.cap), (9, [], Value.int .i64 (Int.tmod (IntKind.i64.wrap at_) ((b_.len : Nat) : Int))), (10, [], Value.int .i64 ends1), (11, [], Value.int .i64 whole1), (12, [], Value.slice c.ptr c.len c.cap), (66, [], Value.bool (f != 0))] (by kernel_rfl) (by kernel_rfl) ?_
                refine reg_end [(0, Value.slice l_.ptr l_.len l_.cap), (2, Value.int .u8 other), (7, Value.slice b_.ptr b_.len b_.cap), (9, Value.int .i64 (Int.tmod (IntKind.i64.wrap at_) ((b_.len : Nat) : Int))), (10, Value.int .i64 ends1), (11, Value.int .i64 whole1), (12, Value.slice c.ptr c.len c.cap), (66, Value.bool (f != 0))] (by kernel_rfl) (by kernel_rfl) ?_
                change WpE _ _ c_towpathlaw06_LogfileSpoils_60 _ _ _
                refine wpE_cond (o := (Operand.tmp 66)) (b := (f != 0)) (x := c_towpathlaw06_LogfileSpoils_61) (y := c_towpathlaw06_LogfileSpoils_65) (by kernel_rfl) (by kernel_rfl) (fun hb => ?_) (fun hb => ?_)
                · replace h := h.1 hb
                  refine wpE_seq (x := c_towpathlaw06_LogfileSpoils_62) (y := c_towpathlaw06_LogfileSpoils_64) (by kernel_rfl) ?_
                  refine wpE_region (id := 13) (ops := r_towpathlaw06_LogfileSpoils_62) (by kernel_rfl) ?_
                  refine reg_run [.plain] 1 [(6, [], Value.bool false)] (by kernel_rfl) (by kernel_rfl) ?_
                  refine reg_end [(6, Value.bool false)] (by kernel_rfl) (by kernel_rfl) ?_
                  change WpE _ _ c_towpathlaw06_LogfileSpoils_64 _ _ _
                  refine wpE_ret (by kernel_rfl) ?_
                  repeat (first | refine seqQ_ret ?_ | refine blockQ_ret ?_ | refine loopQ_ret ?_ | refine cutQ_ret ?_)
                  exact retS (rs := [(Go.ResultVar.tmp 6)]) (v := Value.bool false) (by kernel_rfl) (⟨by kernel_rfl, trivial⟩) ⟨false, rfl, h⟩
                · replace h := h.2 hb
                  refine wpE_skip (by kernel_rfl) ?_
                  change WpE _ _ c_towpathlaw06_LogfileSpoils_66 _ _ _
                  refine wpE_seq (x := c_towpathlaw06_LogfileSpoils_67) (y := c_towpathlaw06_LogfileSpoils_73) (by kernel_rfl) ?_
                  refine wpE_seq (x := c_towpathlaw06_LogfileSpoils_68) (y := c_towpathlaw06_LogfileSpoils_70) (by kernel_rfl) ?_
                  refine wpE_region (id := 14) (ops := r_towpathlaw06_LogfileSpoils_68) (by kernel_rfl) ?_
                  refine reg_run [.plain, .plain, .plain, .plain] 4 [(0, [], Value.slice l_.ptr l_.len l_.cap), (2, [], Value.int .u8 other), (7, [], Value.slice b_.ptr b_.len b_.cap), (9, [], Value.int .i64 (Int.tmod (IntKind.i64.wrap at_) ((b_.len : Nat) : Int))), (10, [], Value.int .i64 ends1), (11, [], Value.int .i64 whole1), (12, [], Value.slice c.ptr c.len c.cap), (70, [], Value.bool (decide (((c.len : Nat) : Int) > (Int.tmod (IntKind.i64.wrap at_) ((b_.len : Nat) : Int)))))] (by kernel_rfl) (by kernel_rfl) ?_
                  refine reg_end [(0, Value.slice l_.ptr l_.len l_.cap), (2, Value.int .u8 other), (7, Value.slice b_.ptr b_.len b_.cap), (9, Value.int .i64 (Int.tmod (IntKind.i64.wrap at_) ((b_.len : Nat) : Int))), (10, Value.int .i64 ends1), (11, Value.int .i64 whole1), (12, Value.slice c.ptr c.len c.cap), (70, Value.bool (decide (((c.len : Nat) : Int) > (Int.tmod (IntKind.i64.wrap at_) ((b_.len : Nat) : Int)))))] (by kernel_rfl) (by kernel_rfl) ?_
                  change WpE _ _ c_towpathlaw06_LogfileSpoils_70 _ _ _
                  refine wpE_cond (o := (Operand.tmp 70)) (b := (decide (((c.len : Nat) : Int) > (Int.tmod (IntKind.i64.wrap at_) ((b_.len : Nat) : Int))))) (x := c_towpathlaw06_LogfileSpoils_71) (y := c_towpathlaw06_LogfileSpoils_72) (by kernel_rfl) (by kernel_rfl) (fun hb => ?_) (fun hb => ?_)
                  · replace h := h.1 hb
                    refine wpE_exit (id := 0) (by kernel_rfl) ?_
                    exact ⟨[(0, Value.slice l_.ptr l_.len l_.cap), (2, Value.int .u8 other), (7, Value.slice b_.ptr b_.len b_.cap), (9, Value.int .i64 (Int.tmod (IntKind.i64.wrap at_) ((b_.len : Nat) : Int))), (10, Value.int .i64 ends1), (11, Value.int .i64 whole1)], Sub.mk (by kernel_rfl), ends1, whole1, rfl, h⟩
                  · replace h := h.2 hb
                    refine wpE_skip (by kernel_rfl) ?_
                    change WpE _ _ c_towpathlaw06_LogfileSpoils_73 _ _ _
                    refine wpE_seq (x := c_towpathlaw06_LogfileSpoils_74) (y := c_towpathlaw06_LogfileSpoils_76) (by kernel_rfl) ?_
                    refine wpE_region (id := 15) (ops := r_towpathlaw06_LogfileSpoils_74) (by kernel_rfl) ?_
                    refine reg_run [.plain, .plain, .plain] 3 [(0, [], Value.slice l_.ptr l_.len l_.cap), (2, [], Value.int .u8 other), (7, [], Value.slice b_.ptr b_.len b_.cap), (9, [], Value.int .i64 (Int.tmod (IntKind.i64.wrap at_) ((b_.len : Nat) : Int))), (10, [], Value.int .i64 ((c.len : Nat) : Int)), (11, [], Value.int .i64 whole1)] (by kernel_rfl) (by kernel_rfl) ?_
                    refine reg_end [(0, Value.slice l_.ptr l_.len l_.cap), (2, Value.int .u8 other), (7, Value.slice b_.ptr b_.len b_.cap), (9, Value.int .i64 (Int.tmod (IntKind.i64.wrap at_) ((b_.len : Nat) : Int))), (10, Value.int .i64 ((c.len : Nat) : Int)), (11, Value.int .i64 whole1)] (by kernel_rfl) (by kernel_rfl) ?_
                    change WpE _ _ c_towpathlaw06_LogfileSpoils_76 _ _ _
                    refine wpE_region (id := 16) (ops := r_towpathlaw06_LogfileSpoils_76) (by kernel_rfl) ?_
                    refine reg_run [.plain, .plain, .plain] 3 [(0, [], Value.slice l_.ptr l_.len l_.cap), (2, [], Value.int .u8 other), (7, [], Value.slice b_.ptr b_.len b_.cap), (9, [], Value.int .i64 (Int.tmod (IntKind.i64.wrap at_) ((b_.len : Nat) : Int))), (10, [], Value.int .i64 ((c.len : Nat) : Int)), (11, [], Value.int .i64 (IntKind.i64.wrap (whole1 + 1)))] (by kernel_rfl) (by kernel_rfl) ?_
                    refine reg_end [(0, Value.slice l_.ptr l_.len l_.cap), (2, Value.int .u8 other), (7, Value.slice b_.ptr b_.len b_.cap), (9, Value.int .i64 (Int.tmod (IntKind.i64.wrap at_) ((b_.len : Nat) : Int))), (10, Value.int .i64 ((c.len : Nat) : Int)), (11, Value.int .i64 (IntKind.i64.wrap (whole1 + 1)))] (by kernel_rfl) (by kernel_rfl) ?_
                    have hb_ := again__h _ _ _ h
                    exact ⟨_, hb_.2, [(0, Value.slice l_.ptr l_.len l_.cap), (2, Value.int .u8 other), (7, Value.slice b_.ptr b_.len b_.cap), (9, Value.int .i64 (Int.tmod (IntKind.i64.wrap at_) ((b_.len : Nat) : Int))), (10, Value.int .i64 ((c.len : Nat) : Int)), (11, Value.int .i64 (IntKind.i64.wrap (whole1 + 1)))], Sub.mk (by kernel_rfl), ((c.len : Nat) : Int), (IntKind.i64.wrap (whole1 + 1)), rfl, hb_.1, rfl⟩
              · replace h := h.2 hb
                refine wpE_exit (id := 0) (by kernel_rfl) ?_
                exact ⟨[(0, Value.slice l_.ptr l_.len l_.cap), (2, Value.int .u8 other), (7, Value.slice b_.ptr b_.len b_.cap), (9, Value.int .i64 (Int.tmod (IntKind.i64.wrap at_) ((b_.len : Nat) : Int))), (10, Value.int .i64 ends1), (11, Value.int .i64 whole1)], Sub.mk (by kernel_rfl), ends1, whole1, rfl, h⟩
            · rintro _ w5 ⟨ends, whole, rfl, h⟩
              unfold F_towpathlaw06_LogfileSpoils_k1 at h
              refine wpE_seq (x := c_towpathlaw06_LogfileSpoils_79) (y := c_towpathlaw06_LogfileSpoils_81) (by kernel_rfl) ?_
              refine wpE_region (id := 17) (ops := r_towpathlaw06_LogfileSpoils_79) (by kernel_rfl) ?_
              refine reg_run [.plain, .plain, .plain] 3 [(0, [], Value.slice l_.ptr l_.len l_.cap), (7, [], Value.slice b_.ptr b_.len b_.cap), (10, [], Value.int .i64 ends), (11, [], Value.int .i64 whole), (75, [], Value.slice b_.ptr b_.len b_.cap), (76, [], Value.int .i64 (Int.tmod (IntKind.i64.wrap at_) ((b_.len : Nat) : Int))), (77, [], Value.int .u8 other)] (by kernel_rfl) (by kernel_rfl) ?_
              obtain ⟨hp_5, h⟩ := h
              refine reg_conv [(0, [], Value.slice l_.ptr l_.len l_.cap), (7, [], Value.slice b_.ptr b_.len b_.cap), (10, [], Value.int .i64 ends), (11, [], Value.int .i64 whole), (75, [], Value.slice (some ⟨(pblk b_.ptr), (poff b_.ptr), none⟩) b_.len b_.cap), (76, [], Value.int .i64 (Int.tmod (IntKind.i64.wrap at_) ((b_.len : Nat) : Int))), (77, [], Value.int .u8 other)] (congrArg (fun pp => ([(0, [], Value.slice l_.ptr l_.len l_.cap), (7, [], Value.slice b_.ptr b_.len b_.cap), (10, [], Value.int .i64 ends), (11, [], Value.int .i64 whole), (75, [], Value.slice pp b_.len b_.cap), (76, [], Value.int .i64 (Int.tmod (IntKind.i64.wrap at_) ((b_.len : Nat) : Int))), (77, [], Value.int .u8 other)] : GEnv)) hp_5) ?_
              obtain ⟨h0, h1, h⟩ := h
              refine reg_indexS1 (t := 22) (e := 5) (x := (Go.Operand.tmp 75)) (ix := (Go.Operand.tmp 76)) (b := (pblk b_.ptr)) (o := (poff b_.ptr)) (l := b_.len) (c := b_.cap) (k := .i64) (j := (Int.tmod (IntKind.i64.wrap at_) ((b_.len : Nat) : Int))) (ty := 0) (dst := some 78) (by kernel_rfl) (by kernel_rfl) (by kernel_rfl) (by kernel_rfl) (by kernel_rfl) h0 h1 ?_
              refine reg_run [] 4 [(0, [], Value.slice l_.ptr l_.len l_.cap), (7, [], Value.slice b_.ptr b_.len b_.cap), (10, [], Value.int .i64 ends), (11, [], Value.int .i64 whole), (77, [], Value.int .u8 other), (78, [], Value.pointer (some ⟨(pblk b_.ptr), (poff b_.ptr) + (Int.tmod (IntKind.i64.wrap at_) ((b_.len : Nat) : Int)).toNat, none⟩))] (by kernel_rfl) (by kernel_rfl) ?_
              obtain ⟨hc, h⟩ := h
              refine reg_store (t := 5) (a := (Go.Operand.tmp 78)) (x := (Go.Operand.tmp 77)) (b := (pblk b_.ptr)) (o := ((poff b_.ptr) + (Int.tmod (IntKind.i64.wrap at_) ((b_.len : Nat) : Int)).toNat)) (ty := 0) (dst := none) [Value.int .u8 other] (by kernel_rfl) (by kernel_rfl) (by kernel_rfl) (k := 1) (by kernel_rfl) (by kernel_rfl) (by kernel_rfl) hc (fun w6 hw => ?_)
              replace h := h w6 hw
              clear hw
              refine reg_end [(0, Value.slice l_.ptr l_.len l_.cap), (7, Value.slice b_.ptr b_.len b_.cap), (10, Value.int .i64 ends), (11, Value.int .i64 whole)] (by kernel_rfl) (by kernel_rfl) ?_
              change WpE _ _ c_towpathlaw06_LogfileSpoils_81 _ _ _
              refine wpE_seq (x := c_towpathlaw06_LogfileSpoils_82) (y := c_towpathlaw06_LogfileSpoils_84) (by kernel_rfl) ?_
              refine wpE_region (id := 18) (ops := r_towpathlaw06_LogfileSpoils_82) (by kernel_rfl) ?_
              refine reg_run [.plain] 1 [(0, [], Value.slice l_.ptr l_.len l_.cap), (10, [], Value.int .i64 ends), (11, [], Value.int .i64 whole), (80, [], Value.slice b_.ptr b_.len b_.cap)] (by kernel_rfl) (by kernel_rfl) ?_
              refine reg_enter (op := (Go.Op.call (Go.Call.mk (Go.Callee.value (Go.Operand.func 19)) #[(Go.Operand.tmp 80)] #[22]))) (ty := 42) (dst := some 81) 19 #[Value.slice b_.ptr b_.len b_.cap] (by kernel_rfl) (fun ww => by kernel_rfl) (Calls.mono h ?_)
              rintro _ w7 ⟨x, good, v81_2, rfl, h⟩
              refine ⟨_, rfl, ?_⟩
              refine reg_run [.plain, .plain, .plain, .plain, .plain, .plain, .plain] 9 [(0, [], Value.slice l_.ptr l_.len l_.cap), (10, [], Value.int .i64 ends), (11, [], Value.int .i64 whole), (14, [], Value.slice x.ptr x.len x.cap), (15, [], Value.int .i64 good)] (by kernel_rfl) (by kernel_rfl) ?_
              refine reg_end [(0, Value.slice l_.ptr l_.len l_.cap), (10, Value.int .i64 ends), (11, Value.int .i64 whole), (14, Value.slice x.ptr x.len x.cap), (15, Value.int .i64 good)] (by kernel_rfl) (by kernel_rfl) ?_
              change WpE _ _ c_towpathlaw06_LogfileSpoils_84 _ _ _
              refine wpE_seq (x := c_towpathlaw06_LogfileSpoils_85) (y := c_towpathlaw06_LogfileSpoils_94) (by kernel_rfl) ?_
              refine wpE_seq_cut (x := c_towpathlaw06_LogfileSpoils_86) (y := c_towpathlaw06_LogfileSpoils_88) (by kernel_rfl) (fun l w => ∃ (t109 : Bool), l = [(0, Value.slice l_.ptr l_.len l_.cap), (11, Value.int .i64 whole), (14, Value.slice x.ptr x.len x.cap), (109, Value.bool t109)] ∧ F_towpathlaw06_LogfileSpoils_k2 l_ R whole x t109 w) ?_ ?_
              · refine wpE_mixregion (id := 19) (ops := r_towpathlaw06_LogfileSpoils_86) o_towpathlaw06_LogfileSpoils_86 (by kernel_rfl) (by kernel_rfl) (by kernel_rfl) (by kernel_rfl) (fun w11 hw => ?_)
                replace h := h w11 hw
                clear hw
                refine mreg_run [.plain, .plain, .plain, .plain, .plain, .plain, .plain] 7 [(0, [], Value.slice l_.ptr l_.len l_.cap), (10, [], Value.int .i64 ends), (11, [], Value.int .i64 whole), (14, [], Value.slice x.ptr x.len x.cap), (15, [], Value.int .i64 good), (89, [], Value.bool (decide (((x.len : Nat) : Int) < whole))), (90, [(89, false)], Value.slice x.ptr x.len x.cap), (91, [(89, false)], Value.int .i64 whole)] (by kernel_rfl) (by kernel_rfl) ?_
                refine mreg_split 89 (decide (((x.len : Nat) : Int) < whole)) (by kernel_rfl) (fun hb => ?_) (fun hb => ?_)
                · replace h := h.1 hb
                  refine mreg_run [] 7 [(0, [], Value.slice l_.ptr l_.len l_.cap), (10, [], Value.int .i64 ends), (11, [], Value.int .i64 whole), (14, [], Value.slice x.ptr x.len x.cap), (15, [], Value.int .i64 good), (89, [], Value.bool true), (90, [], undef), (91, [], undef)] (by kernel_rfl) (by kernel_rfl) ?_
                  refine mreg_run [.skip, .skip, .skip, .skip, .skip, .skip, .plain, .plain, .skip, .skip, .skip, .plain, .plain, .skip, .skip, .skip, .skip, .plain] 25 [(0, [], Value.slice l_.ptr l_.len l_.cap), (11, [], Value.int .i64 whole), (14, [], Value.slice x.ptr x.len x.cap), (109, [], Value.bool true)] (by kernel_rfl) (by kernel_rfl) ?_
                  refine mreg_end [(0, Value.slice l_.ptr l_.len l_.cap), (11, Value.int .i64 whole), (14, Value.slice x.ptr x.len x.cap), (109, Value.bool true)] (by kernel_rfl) (by kernel_rfl) (by kernel_rfl) ?_
                  exact ⟨[(0, Value.slice l_.ptr l_.len l_.cap), (11, Value.int .i64 whole), (14, Value.slice x.ptr x.len x.cap), (109, Value.bool true)], Sub.mk (by kernel_rfl), true, rfl, h⟩
                · replace h := h.2 hb
                  refine mreg_run [] 7 [(0, [], Value.slice l_.ptr l_.len l_.cap), (10, [], Value.int .i64 ends), (11, [], Value.int .i64 whole), (14, [], Value.slice x.ptr x.len x.cap), (15, [], Value.int .i64 good), (89, [], Value.bool false), (90, [], Value.slice x.ptr x.len x.cap), (91, [], Value.int .i64 whole)] (by kernel_rfl) (by kernel_rfl) ?_
                  refine mreg_run [] 7 [(0, [], Value.slice l_.ptr l_.len l_.cap), (10, [], Value.int .i64 ends), (11, [], Value.int .i64 whole), (14, [], Value.slice x.ptr x.len x.cap), (15, [], Value.int .i64 good), (89, [], Value.bool false), (90, [], Value.slice x.ptr x.len x.cap), (91, [], Value.int .i64 whole)] (by kernel_rfl) (by kernel_rfl) ?_
                  obtain ⟨h0, h1, h⟩ := h
                  refine mreg_sliceHi (i := 7) (by kernel_rfl) (t := 37) (e := 49) (x := (Go.Operand.tmp 90)) (hi := (Go.Operand.tmp 91)) (p := x.ptr) (l := x.len) (c := x.cap) (sz := 2) (k := .i64) (j := whole) (ty := 37) (dst := some 92) (by kernel_rfl) (by kernel_rfl) (by kernel_rfl) (by kernel_rfl) (by kernel_rfl) h0 h1 ?_
                  refine mreg_run [.sure, .sure] 10 [(0, [], Value.slice l_.ptr l_.len l_.cap), (10, [], Value.int .i64 ends), (11, [], Value.int .i64 whole), (14, [], Value.slice x.ptr x.len x.cap), (15, [], Value.int .i64 good), (89, [], Value.bool false), (92, [], Value.slice x.ptr whole.toNat x.cap), (93, [], Value.slice l_.ptr l_.len l_.cap), (94, [], Value.int .i64 whole)] (by kernel_rfl) (by kernel_rfl) ?_
                  obtain ⟨h0, h1, h⟩ := h
                  refine mreg_sliceHi (i := 10) (by kernel_rfl) (t := 37) (e := 49) (x := (Go.Operand.tmp 93)) (hi := (Go.Operand.tmp 94)) (p := l_.ptr) (l := l_.len) (c := l_.cap) (sz := 2) (k := .i64) (j := whole) (ty := 37) (dst := some 95) (by kernel_rfl) (by kernel_rfl) (by kernel_rfl) (by kernel_rfl) (by kernel_rfl) h0 h1 ?_
                  refine mreg_run [] 11 [(0, [], Value.slice l_.ptr l_.len l_.cap), (10, [], Value.int .i64 ends), (11, [], Value.int .i64 whole), (14, [], Value.slice x.ptr x.len x.cap), (15, [], Value.int .i64 good), (89, [], Value.bool false), (92, [], Value.slice x.ptr whole.toNat x.cap), (95, [], Value.slice l_.ptr whole.toNat l_.cap)] (by kernel_rfl) (by kernel_rfl) ?_
                  refine mreg_enter (op := (Go.Op.call (Go.Call.mk (Go.Callee.value (Go.Operand.func 20)) #[(Go.Operand.tmp 92), (Go.Operand.tmp 95)] #[37, 37]))) (ty := 4) (dst := some 96) 11 [4, 7, 10, 3, 5, 6, 8, 9, 1, 2, 0] [] 20 #[Value.slice x.ptr whole.toNat x.cap, Value.slice l_.ptr whole.toNat l_.cap] (by kernel_rfl) (by kernel_rfl) (by kernel_rfl) (by kernel_rfl) (by kernel_rfl) (fun ww => by kernel_rfl) (Calls.mono h ?_)
                  rintro _ w12 ⟨v96, rfl, h⟩
                  refine ⟨_, rfl, trivial, ?_⟩
                  refine mreg_run [.sure, .plain, .plain, .plain, .plain, .plain, .pick, .plain, .plain, .plain, .plain, .plain, .pick] 25 [(0, [], Value.slice l_.ptr l_.len l_.cap), (11, [], Value.int .i64 whole), (14, [], Value.slice x.ptr x.len x.cap), (109, [], Value.bool (((!v96) || (decide (good < ends))) || (decide (whole ≥ ((l_.len : Nat) : Int)))))] (by kernel_rfl) (by kernel_rfl) ?_
                  refine mreg_end [(0, Value.slice l_.ptr l_.len l_.cap), (11, Value.int .i64 whole), (14, Value.slice x.ptr x.len x.cap), (109, Value.bool (((!v96) || (decide (good < ends))) || (decide (whole ≥ ((l_.len : Nat) : Int)))))] (by kernel_rfl) (by kernel_rfl) (by kernel_rfl) ?_
                  exact ⟨[(0, Value.slice l_.ptr l_.len l_.cap), (11, Value.int .i64 whole), (14, Value.slice x.ptr x.len x.cap), (109, Value.bool (((!v96) || (decide (good < ends))) || (decide (whole ≥ ((l_.len : Nat) : Int)))))], Sub.mk (by kernel_rfl), (((!v96) || (decide (good < ends))) || (decide (whole ≥ ((l_.len : Nat) : Int)))), rfl, h⟩
              · rintro _ w8 ⟨t109, rfl, h⟩
                unfold F_towpathlaw06_LogfileSpoils_k2 at h
                refine wpE_cond (o := (Operand.tmp 109)) (b := t109) (x := c_towpathlaw06_LogfileSpoils_89) (y := c_towpathlaw06_LogfileSpoils_93) (by kernel_rfl) (by kernel_rfl) (fun hb => ?_) (fun hb => ?_)
                · replace h := h.1 hb
                  refine wpE_seq (x := c_towpathlaw06_LogfileSpoils_90) (y := c_towpathlaw06_LogfileSpoils_92) (by kernel_rfl) ?_
                  refine wpE_region (id := 20) (ops := r_towpathlaw06_LogfileSpoils_90) (by kernel_rfl) ?_
                  refine reg_run [.plain] 1 [(6, [], Value.bool false)] (by kernel_rfl) (by kernel_rfl) ?_
                  refine reg_end [(6, Value.bool false)] (by kernel_rfl) (by kernel_rfl) ?_
                  change WpE _ _ c_towpathlaw06_LogfileSpoils_92 _ _ _
                  refine wpE_ret (by kernel_rfl) ?_
                  repeat (first | refine seqQ_ret ?_ | refine blockQ_ret ?_ | refine loopQ_ret ?_ | refine cutQ_ret ?_)
                  exact retS (rs := [(Go.ResultVar.tmp 6)]) (v := Value.bool false) (by kernel_rfl) (⟨by kernel_rfl, trivial⟩) ⟨false, rfl, h⟩
                · replace h := h.2 hb
                  refine wpE_skip (by kernel_rfl) ?_
                  change WpE _ _ c_towpathlaw06_LogfileSpoils_94 _ _ _
                  refine wpE_seq (x := c_towpathlaw06_LogfileSpoils_95) (y := c_towpathlaw06_LogfileSpoils_97) (by kernel_rfl) ?_
                  refine wpE_mixregion (id := 21) (ops := r_towpathlaw06_LogfileSpoils_95) o_towpathlaw06_LogfileSpoils_95 (by kernel_rfl) (by kernel_rfl) (by kernel_rfl) (by kernel_rfl) (fun w9 hw => ?_)
                  replace h := h w9 hw
                  clear hw
                  refine mreg_run [.plain, .plain, .plain, .plain, .plain, .plain, .plain] 7 [(0, [], Value.slice l_.ptr l_.len l_.cap), (11, [], Value.int .i64 whole), (114, [], Value.bool (((x.len : Nat) : Int) == whole)), (115, [(114, false)], Value.slice x.ptr x.len x.cap), (116, [(114, false)], Value.int .i64 whole)] (by kernel_rfl) (by kernel_rfl) ?_
                  refine mreg_split 114 (((x.len : Nat) : Int) == whole) (by kernel_rfl) (fun hb => ?_) (fun hb => ?_)
                  · replace h := h.1 hb
                    refine mreg_run [] 7 [(0, [], Value.slice l_.ptr l_.len l_.cap), (11, [], Value.int .i64 whole), (114, [], Value.bool true), (115, [], undef), (116, [], undef)] (by kernel_rfl) (by kernel_rfl) ?_
                    refine mreg_run [.skip, .skip, .skip, .skip, .skip, .skip, .skip, .skip, .plain, .plain] 17 [(6, [], Value.bool true)] (by kernel_rfl) (by kernel_rfl) ?_
                    refine mreg_end [(6, Value.bool true)] (by kernel_rfl) (by kernel_rfl) (by kernel_rfl) ?_
                    change WpE _ _ c_towpathlaw06_LogfileSpoils_97 _ _ _
                    refine wpE_ret (by kernel_rfl) ?_
                    repeat (first | refine seqQ_ret ?_ | refine blockQ_ret ?_ | refine loopQ_ret ?_ | refine cutQ_ret ?_)
                    exact retS (rs := [(Go.ResultVar.tmp 6)]) (v := Value.bool true) (by kernel_rfl) (⟨by kernel_rfl, trivial⟩) ⟨true, rfl, h⟩
                  · replace h := h.2 hb
                    refine mreg_run [] 7 [(0, [], Value.slice l_.ptr l_.len l_.cap), (11, [], Value.int .i64 whole), (114, [], Value.bool false), (115, [], Value.slice x.ptr x.len x.cap), (116, [], Value.int .i64 whole)] (by kernel_rfl) (by kernel_rfl) ?_
                    refine mreg_run [] 7 [(0, [], Value.slice l_.ptr l_.len l_.cap), (11, [], Value.int .i64 whole), (114, [], Value.bool false), (115, [], Value.slice x.ptr x.len x.cap), (116, [], Value.int .i64 whole)] (by kernel_rfl) (by kernel_rfl) ?_
                    obtain ⟨hp_6, h⟩ := h
                    refine mreg_conv [(0, [], Value.slice l_.ptr l_.len l_.cap), (11, [], Value.int .i64 whole), (114, [], Value.bool false), (115, [], Value.slice (some ⟨(pblk x.ptr), (poff x.ptr), none⟩) x.len x.cap), (116, [], Value.int .i64 whole)] (congrArg (fun pp => ([(0, [], Value.slice l_.ptr l_.len l_.cap), (11, [], Value.int .i64 whole), (114, [], Value.bool false), (115, [], Value.slice pp x.len x.cap), (116, [], Value.int .i64 whole)] : GEnv)) hp_6) ?_
                    obtain ⟨h0, h1, h⟩ := h
                    refine mreg_indexS (i := 7) (by kernel_rfl) (t := 37) (e := 49) (x := (Go.Operand.tmp 115)) (ix := (Go.Operand.tmp 116)) (b := (pblk x.ptr)) (o := (poff x.ptr)) (l := x.len) (c := x.cap) (k := .i64) (j := whole) (ty := 0) (dst := some 117) (sz := 2) (by kernel_rfl) (by kernel_rfl) (by kernel_rfl) (by kernel_rfl) (by kernel_rfl) h0 h1 ?_
                    refine mreg_run [] 8 [(0, [], Value.slice l_.ptr l_.len l_.cap), (11, [], Value.int .i64 whole), (114, [], Value.bool false), (117, [], Value.pointer (some ⟨(pblk x.ptr), (poff x.ptr) + whole.toNat * 2, none⟩))] (by kernel_rfl) (by kernel_rfl) ?_
                    obtain ⟨v118, hc, h⟩ := h
                    refine mreg_loadN (i := 8) (by kernel_rfl) (t := 49) (a := (Go.Operand.tmp 117)) (b := (pblk x.ptr)) (o := ((poff x.ptr) + whole.toNat * 2)) (ty := 49) (dst := some 118) [Value.int .i64 v118.Number, Value.slice v118.Writes.ptr v118.Writes.len v118.Writes.cap] (by kernel_rfl) (by kernel_rfl) (by kernel_rfl) (k := 2) (by kernel_rfl) (by kernel_rfl) hc ?_
                    refine mreg_run [.sure, .sure] 11 [(114, [], Value.bool false), (118, [], Value.agg #[Value.int .i64 v118.Number, Value.slice v118.Writes.ptr v118.Writes.len v118.Writes.cap]), (119, [], Value.slice l_.ptr l_.len l_.cap), (120, [], Value.int .i64 whole)] (by kernel_rfl) (by kernel_rfl) ?_
                    obtain ⟨hp_7, h⟩ := h
                    refine mreg_conv [(114, [], Value.bool false), (118, [], Value.agg #[Value.int .i64 v118.Number, Value.slice v118.Writes.ptr v118.Writes.len v118.Writes.cap]), (119, [], Value.slice (some ⟨(pblk l_.ptr), (poff l_.ptr), none⟩) l_.len l_.cap), (120, [], Value.int .i64 whole)] (congrArg (fun pp => ([(114, [], Value.bool false), (118, [], Value.agg #[Value.int .i64 v118.Number, Value.slice v118.Writes.ptr v118.Writes.len v118.Writes.cap]), (119, [], Value.slice pp l_.len l_.cap), (120, [], Value.int .i64 whole)] : GEnv)) hp_7) ?_
                    obtain ⟨h0, h1, h⟩ := h
                    refine mreg_indexS (i := 11) (by kernel_rfl) (t := 37) (e := 49) (x := (Go.Operand.tmp 119)) (ix := (Go.Operand.tmp 120)) (b := (pblk l_.ptr)) (o := (poff l_.ptr)) (l := l_.len) (c := l_.cap) (k := .i64) (j := whole) (ty := 0) (dst := some 121) (sz := 2) (by kernel_rfl) (by kernel_rfl) (by kernel_rfl) (by kernel_rfl) (by kernel_rfl) h0 h1 ?_
                    refine mreg_run [] 12 [(114, [], Value.bool false), (118, [], Value.agg #[Value.int .i64 v118.Number, Value.slice v118.Writes.ptr v118.Writes.len v118.Writes.cap]), (121, [], Value.pointer (some ⟨(pblk l_.ptr), (poff l_.ptr) + whole.toNat * 2, none⟩))] (by kernel_rfl) (by kernel_rfl) ?_
                    obtain ⟨v122, hc, h⟩ := h
                    refine mreg_loadN (i := 12) (by kernel_rfl) (t := 49) (a := (Go.Operand.tmp 121)) (b := (pblk l_.ptr)) (o := ((poff l_.ptr) + whole.toNat * 2)) (ty := 49) (dst := some 122) [Value.int .i64 v122.Number, Value.slice v122.Writes.ptr v122.Writes.len v122.Writes.cap] (by kernel_rfl) (by kernel_rfl) (by kernel_rfl) (k := 2) (by kernel_rfl) (by kernel_rfl) hc ?_
                    refine mreg_run [] 13 [(114, [], Value.bool false), (118, [], Value.agg #[Value.int .i64 v118.Number, Value.slice v118.Writes.ptr v118.Writes.len v118.Writes.cap]), (122, [], Value.agg #[Value.int .i64 v122.Number, Value.slice v122.Writes.ptr v122.Writes.len v122.Writes.cap])] (by kernel_rfl) (by kernel_rfl) ?_
                    refine mreg_enter (op := (Go.Op.call (Go.Call.mk (Go.Callee.value (Go.Operand.func 23)) #[(Go.Operand.tmp 118), (Go.Operand.tmp 122)] #[49, 49]))) (ty := 4) (dst := some 123) 13 [4, 8, 12, 3, 7, 11, 1, 2, 5, 6, 9, 10, 0] [] 23 #[Value.agg #[Value.int .i64 v118.Number, Value.slice v118.Writes.ptr v118.Writes.len v118.Writes.cap], Value.agg #[Value.int .i64 v122.Number, Value.slice v122.Writes.ptr v122.Writes.len v122.Writes.cap]] (by kernel_rfl) (by kernel_rfl) (by kernel_rfl) (by kernel_rfl) (by kernel_rfl) (fun ww => by kernel_rfl) (Calls.mono h ?_)
                    rintro _ w10 ⟨v123, rfl, h⟩
                    refine ⟨_, rfl, trivial, ?_⟩
                    refine mreg_run [.sure, .plain, .plain] 17 [(6, [], Value.bool (!v123))] (by kernel_rfl) (by kernel_rfl) ?_
                    refine mreg_end [(6, Value.bool (!v123))] (by kernel_rfl) (by kernel_rfl) (by kernel_rfl) ?_
                    change WpE _ _ c_towpathlaw06_LogfileSpoils_97 _ _ _
                    refine wpE_ret (by kernel_rfl) ?_
                    repeat (first | refine seqQ_ret ?_ | refine blockQ_ret ?_ | refine loopQ_ret ?_ | refine cutQ_ret ?_)
                    exact retS (rs := [(Go.ResultVar.tmp 6)]) (v := Value.bool (!v123)) (by kernel_rfl) (⟨by kernel_rfl, trivial⟩) ⟨(!v123), rfl, h⟩
  · rintro e w' ⟨v, rfl, r0, rfl, h⟩; exact ⟨r0, rfl, h⟩
end Go.Proofs.Ytpdegdnigcnjiaa
