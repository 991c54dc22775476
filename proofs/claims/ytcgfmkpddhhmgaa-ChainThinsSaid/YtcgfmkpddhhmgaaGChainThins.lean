/- WRITTEN BY PROGRAM (dec.py): for each Go function the clean formula F, the call's contract C, and the proof S that F gives C. -/
import Derived.Test.YtcgfmkpddhhmgaaRows
import Derived.Test.YtcgfmkpddhhmgaaGF
namespace Go.Proofs.Ytcgfmkpddhhmgaa
open Go
set_option linter.unusedVariables false

/-! ### towpath/towpathlaw08.ChainThins (function 4) -/
noncomputable def c_towpathlaw08_ChainThins_0 : Code := (Try.f4.body).getD Code.skip
noncomputable def c_towpathlaw08_ChainThins_1 : Code := Code.l c_towpathlaw08_ChainThins_0
noncomputable def r_towpathlaw08_ChainThins_1 : Array Oper := Code.ops c_towpathlaw08_ChainThins_1
noncomputable def c_towpathlaw08_ChainThins_3 : Code := Code.r c_towpathlaw08_ChainThins_0
noncomputable def c_towpathlaw08_ChainThins_4 : Code := Code.l c_towpathlaw08_ChainThins_3
noncomputable def c_towpathlaw08_ChainThins_5 : Code := Code.l c_towpathlaw08_ChainThins_4
noncomputable def r_towpathlaw08_ChainThins_5 : Array Oper := Code.ops c_towpathlaw08_ChainThins_5
noncomputable def c_towpathlaw08_ChainThins_7 : Code := Code.r c_towpathlaw08_ChainThins_4
noncomputable def c_towpathlaw08_ChainThins_8 : Code := Code.l c_towpathlaw08_ChainThins_7
noncomputable def c_towpathlaw08_ChainThins_9 : Code := Code.l c_towpathlaw08_ChainThins_8
noncomputable def r_towpathlaw08_ChainThins_9 : Array Oper := Code.ops c_towpathlaw08_ChainThins_9
noncomputable def c_towpathlaw08_ChainThins_11 : Code := Code.r c_towpathlaw08_ChainThins_8
noncomputable def c_towpathlaw08_ChainThins_12 : Code := Code.r c_towpathlaw08_ChainThins_7
noncomputable def c_towpathlaw08_ChainThins_13 : Code := Code.r c_towpathlaw08_ChainThins_3
noncomputable def c_towpathlaw08_ChainThins_14 : Code := Code.l c_towpathlaw08_ChainThins_13
noncomputable def r_towpathlaw08_ChainThins_14 : Array Oper := Code.ops c_towpathlaw08_ChainThins_14
noncomputable def c_towpathlaw08_ChainThins_16 : Code := Code.r c_towpathlaw08_ChainThins_13
noncomputable def c_towpathlaw08_ChainThins_17 : Code := Code.l c_towpathlaw08_ChainThins_16
noncomputable def c_towpathlaw08_ChainThins_18 : Code := Code.l c_towpathlaw08_ChainThins_17
noncomputable def r_towpathlaw08_ChainThins_18 : Array Oper := Code.ops c_towpathlaw08_ChainThins_18
noncomputable def c_towpathlaw08_ChainThins_20 : Code := Code.r c_towpathlaw08_ChainThins_17
noncomputable def c_towpathlaw08_ChainThins_21 : Code := Code.l c_towpathlaw08_ChainThins_20
noncomputable def c_towpathlaw08_ChainThins_22 : Code := Code.l c_towpathlaw08_ChainThins_21
noncomputable def r_towpathlaw08_ChainThins_22 : Array Oper := Code.ops c_towpathlaw08_ChainThins_22
noncomputable def c_towpathlaw08_ChainThins_24 : Code := Code.r c_towpathlaw08_ChainThins_21
noncomputable def c_towpathlaw08_ChainThins_25 : Code := Code.r c_towpathlaw08_ChainThins_20
noncomputable def c_towpathlaw08_ChainThins_26 : Code := Code.r c_towpathlaw08_ChainThins_16
noncomputable def c_towpathlaw08_ChainThins_27 : Code := Code.l c_towpathlaw08_ChainThins_26
noncomputable def r_towpathlaw08_ChainThins_27 : Array Oper := Code.ops c_towpathlaw08_ChainThins_27
noncomputable def c_towpathlaw08_ChainThins_29 : Code := Code.r c_towpathlaw08_ChainThins_26
noncomputable def c_towpathlaw08_ChainThins_30 : Code := Code.l c_towpathlaw08_ChainThins_29
noncomputable def c_towpathlaw08_ChainThins_31 : Code := Code.l c_towpathlaw08_ChainThins_30
noncomputable def r_towpathlaw08_ChainThins_31 : Array Oper := Code.ops c_towpathlaw08_ChainThins_31
noncomputable def c_towpathlaw08_ChainThins_33 : Code := Code.r c_towpathlaw08_ChainThins_30
noncomputable def c_towpathlaw08_ChainThins_34 : Code := Code.l c_towpathlaw08_ChainThins_33
noncomputable def c_towpathlaw08_ChainThins_35 : Code := Code.l c_towpathlaw08_ChainThins_34
noncomputable def c_towpathlaw08_ChainThins_36 : Code := Code.l c_towpathlaw08_ChainThins_35
noncomputable def c_towpathlaw08_ChainThins_37 : Code := Code.l c_towpathlaw08_ChainThins_36
noncomputable def r_towpathlaw08_ChainThins_37 : Array Oper := Code.ops c_towpathlaw08_ChainThins_37
noncomputable def c_towpathlaw08_ChainThins_39 : Code := Code.r c_towpathlaw08_ChainThins_36
noncomputable def c_towpathlaw08_ChainThins_40 : Code := Code.l c_towpathlaw08_ChainThins_39
noncomputable def c_towpathlaw08_ChainThins_41 : Code := Code.r c_towpathlaw08_ChainThins_39
noncomputable def c_towpathlaw08_ChainThins_42 : Code := Code.r c_towpathlaw08_ChainThins_35
noncomputable def c_towpathlaw08_ChainThins_43 : Code := Code.l c_towpathlaw08_ChainThins_42
noncomputable def c_towpathlaw08_ChainThins_44 : Code := Code.l c_towpathlaw08_ChainThins_43
noncomputable def c_towpathlaw08_ChainThins_45 : Code := Code.l c_towpathlaw08_ChainThins_44
noncomputable def r_towpathlaw08_ChainThins_45 : Array Oper := Code.ops c_towpathlaw08_ChainThins_45
noncomputable def c_towpathlaw08_ChainThins_47 : Code := Code.r c_towpathlaw08_ChainThins_44
noncomputable def c_towpathlaw08_ChainThins_48 : Code := Code.l c_towpathlaw08_ChainThins_47
noncomputable def r_towpathlaw08_ChainThins_48 : Array Oper := Code.ops c_towpathlaw08_ChainThins_48
noncomputable def c_towpathlaw08_ChainThins_50 : Code := Code.r c_towpathlaw08_ChainThins_47
noncomputable def c_towpathlaw08_ChainThins_51 : Code := Code.r c_towpathlaw08_ChainThins_42
noncomputable def r_towpathlaw08_ChainThins_51 : Array Oper := Code.ops c_towpathlaw08_ChainThins_51
noncomputable def c_towpathlaw08_ChainThins_53 : Code := Code.r c_towpathlaw08_ChainThins_29
noncomputable def c_towpathlaw08_ChainThins_54 : Code := Code.l c_towpathlaw08_ChainThins_53
noncomputable def r_towpathlaw08_ChainThins_54 : Array Oper := Code.ops c_towpathlaw08_ChainThins_54
noncomputable def c_towpathlaw08_ChainThins_56 : Code := Code.r c_towpathlaw08_ChainThins_53
noncomputable def c_towpathlaw08_ChainThins_57 : Code := Code.l c_towpathlaw08_ChainThins_56
noncomputable def c_towpathlaw08_ChainThins_58 : Code := Code.l c_towpathlaw08_ChainThins_57
noncomputable def r_towpathlaw08_ChainThins_58 : Array Oper := Code.ops c_towpathlaw08_ChainThins_58
noncomputable def c_towpathlaw08_ChainThins_60 : Code := Code.r c_towpathlaw08_ChainThins_57
noncomputable def c_towpathlaw08_ChainThins_61 : Code := Code.l c_towpathlaw08_ChainThins_60
noncomputable def c_towpathlaw08_ChainThins_62 : Code := Code.l c_towpathlaw08_ChainThins_61
noncomputable def r_towpathlaw08_ChainThins_62 : Array Oper := Code.ops c_towpathlaw08_ChainThins_62
noncomputable def c_towpathlaw08_ChainThins_64 : Code := Code.r c_towpathlaw08_ChainThins_61
noncomputable def c_towpathlaw08_ChainThins_65 : Code := Code.r c_towpathlaw08_ChainThins_60
noncomputable def c_towpathlaw08_ChainThins_66 : Code := Code.r c_towpathlaw08_ChainThins_56
noncomputable def c_towpathlaw08_ChainThins_67 : Code := Code.l c_towpathlaw08_ChainThins_66
noncomputable def r_towpathlaw08_ChainThins_67 : Array Oper := Code.ops c_towpathlaw08_ChainThins_67
noncomputable def c_towpathlaw08_ChainThins_69 : Code := Code.r c_towpathlaw08_ChainThins_66
noncomputable def c_towpathlaw08_ChainThins_70 : Code := Code.l c_towpathlaw08_ChainThins_69
noncomputable def c_towpathlaw08_ChainThins_71 : Code := Code.l c_towpathlaw08_ChainThins_70
noncomputable def r_towpathlaw08_ChainThins_71 : Array Oper := Code.ops c_towpathlaw08_ChainThins_71
noncomputable def c_towpathlaw08_ChainThins_73 : Code := Code.r c_towpathlaw08_ChainThins_70
noncomputable def c_towpathlaw08_ChainThins_74 : Code := Code.l c_towpathlaw08_ChainThins_73
noncomputable def r_towpathlaw08_ChainThins_74 : Array Oper := Code.ops c_towpathlaw08_ChainThins_74
noncomputable def c_towpathlaw08_ChainThins_76 : Code := Code.r c_towpathlaw08_ChainThins_73
noncomputable def c_towpathlaw08_ChainThins_77 : Code := Code.r c_towpathlaw08_ChainThins_69
noncomputable def c_towpathlaw08_ChainThins_78 : Code := Code.l c_towpathlaw08_ChainThins_77
noncomputable def r_towpathlaw08_ChainThins_78 : Array Oper := Code.ops c_towpathlaw08_ChainThins_78
noncomputable def c_towpathlaw08_ChainThins_80 : Code := Code.r c_towpathlaw08_ChainThins_77
noncomputable def c_towpathlaw08_ChainThins_81 : Code := Code.l c_towpathlaw08_ChainThins_80
noncomputable def r_towpathlaw08_ChainThins_81 : Array Oper := Code.ops c_towpathlaw08_ChainThins_81
noncomputable def c_towpathlaw08_ChainThins_83 : Code := Code.r c_towpathlaw08_ChainThins_80
noncomputable def c_towpathlaw08_ChainThins_84 : Code := Code.l c_towpathlaw08_ChainThins_83
noncomputable def r_towpathlaw08_ChainThins_84 : Array Oper := Code.ops c_towpathlaw08_ChainThins_84
noncomputable def c_towpathlaw08_ChainThins_86 : Code := Code.r c_towpathlaw08_ChainThins_83

set_option maxRecDepth 100000 in
set_option maxHeartbeats 4000000 in
theorem S_towpathlaw08_ChainThins {l_ : Slc} {least : Int} {mark : Int} {w : World} {R : Bool → World → Prop} (h : F_towpathlaw08_ChainThins l_ least mark R w) : C_towpathlaw08_ChainThins l_ least mark w R := by
  unfold F_towpathlaw08_ChainThins at h
  unfold C_towpathlaw08_ChainThins
  refine Calls.mono (calls_of_wpE (args := [Value.slice l_.ptr l_.len l_.cap, Value.int .i64 least, Value.int .u16 mark]) (R := fun v w' => ∃ (r0 : Bool), v = Value.bool r0 ∧ R r0 w') Try.func4 (c := c_towpathlaw08_ChainThins_0) (by kernel_rfl) 133 (by kernel_rfl) (by kernel_rfl) [(0, Value.slice l_.ptr l_.len l_.cap), (1, Value.int .i64 least), (2, Value.int .u16 mark)] (by kernel_rfl) ?_) ?_
  · refine wpE_seq (x := c_towpathlaw08_ChainThins_1) (y := c_towpathlaw08_ChainThins_3) (by kernel_rfl) ?_
    refine wpE_region (id := 0) (ops := r_towpathlaw08_ChainThins_1) (by kernel_rfl) ?_
    refine reg_run [.plain] 1 [(0, [], Value.slice l_.ptr l_.len l_.cap), (1, [], Value.int .i64 least), (2, [], Value.int .u16 mark)] (by kernel_rfl) (by kernel_rfl) ?_
    refine reg_end [(0, Value.slice l_.ptr l_.len l_.cap), (1, Value.int .i64 least), (2, Value.int .u16 mark)] (by kernel_rfl) (by kernel_rfl) ?_
    change WpE _ _ c_towpathlaw08_ChainThins_3 _ _ _
    refine wpE_seq (x := c_towpathlaw08_ChainThins_4) (y := c_towpathlaw08_ChainThins_13) (by kernel_rfl) ?_
    refine wpE_seq_cut (x := c_towpathlaw08_ChainThins_5) (y := c_towpathlaw08_ChainThins_7) (by kernel_rfl) (fun l w => ∃ (t34 : Bool), l = [(0, Value.slice l_.ptr l_.len l_.cap), (1, Value.int .i64 least), (2, Value.int .u16 mark), (34, Value.bool t34)] ∧ F_towpathlaw08_ChainThins_k0 l_ least mark R t34 w) ?_ ?_
    · refine wpE_region (id := 1) (ops := r_towpathlaw08_ChainThins_5) (by kernel_rfl) ?_
      refine reg_run [] 0 [(0, [], Value.slice l_.ptr l_.len l_.cap), (1, [], Value.int .i64 least), (2, [], Value.int .u16 mark)] (by kernel_rfl) (by kernel_rfl) ?_
      refine reg_enter (op := (Go.Op.call (Go.Call.mk (Go.Callee.value (Go.Operand.func 7)) #[] #[]))) (ty := 4) (dst := some 22) 7 #[] (by kernel_rfl) (fun ww => by kernel_rfl) (Calls.mono h ?_)
      rintro _ w18 ⟨v22, rfl, h⟩
      refine ⟨_, rfl, ?_⟩
      refine reg_run [.plain, .plain, .plain] 4 [(0, [], Value.slice l_.ptr l_.len l_.cap), (1, [], Value.int .i64 least), (2, [], Value.int .u16 mark), (24, [], Value.bool (!v22)), (25, [(24, false)], Value.slice l_.ptr l_.len l_.cap)] (by kernel_rfl) (by kernel_rfl) ?_
      refine reg_split 24 (!v22) (by kernel_rfl) (fun hb => ?_) (fun hb => ?_)
      · replace h := h.1 hb
        refine reg_run [] 4 [(0, [], Value.slice l_.ptr l_.len l_.cap), (1, [], Value.int .i64 least), (2, [], Value.int .u16 mark), (24, [], Value.bool true), (25, [], undef)] (by kernel_rfl) (by kernel_rfl) ?_
        refine reg_run [.skip, .skip, .plain, .plain, .skip, .skip, .skip, .skip, .plain] 13 [(0, [], Value.slice l_.ptr l_.len l_.cap), (1, [], Value.int .i64 least), (2, [], Value.int .u16 mark), (34, [], Value.bool true)] (by kernel_rfl) (by kernel_rfl) ?_
        refine reg_end [(0, Value.slice l_.ptr l_.len l_.cap), (1, Value.int .i64 least), (2, Value.int .u16 mark), (34, Value.bool true)] (by kernel_rfl) (by kernel_rfl) ?_
        exact ⟨[(0, Value.slice l_.ptr l_.len l_.cap), (1, Value.int .i64 least), (2, Value.int .u16 mark), (34, Value.bool true)], Sub.mk (by kernel_rfl), true, rfl, h⟩
      · replace h := h.2 hb
        refine reg_run [] 4 [(0, [], Value.slice l_.ptr l_.len l_.cap), (1, [], Value.int .i64 least), (2, [], Value.int .u16 mark), (24, [], Value.bool false), (25, [], Value.slice l_.ptr l_.len l_.cap)] (by kernel_rfl) (by kernel_rfl) ?_
        refine reg_run [] 4 [(0, [], Value.slice l_.ptr l_.len l_.cap), (1, [], Value.int .i64 least), (2, [], Value.int .u16 mark), (24, [], Value.bool false), (25, [], Value.slice l_.ptr l_.len l_.cap)] (by kernel_rfl) (by kernel_rfl) ?_
        refine reg_enter (op := (Go.Op.call (Go.Call.mk (Go.Callee.value (Go.Operand.func 11)) #[(Go.Operand.tmp 25)] #[22]))) (ty := 26) (dst := some 26) 11 #[Value.slice l_.ptr l_.len l_.cap] (by kernel_rfl) (fun ww => by kernel_rfl) (Calls.mono h ?_)
        rintro _ w19 ⟨v26, rfl, h⟩
        refine ⟨_, rfl, ?_⟩
        refine reg_run [.sure, .plain, .plain, .plain] 9 [(0, [], Value.slice l_.ptr l_.len l_.cap), (1, [], Value.int .i64 least), (2, [], Value.int .u16 mark), (29, [], Value.bool (v26 != 0)), (30, [(29, false)], Value.slice l_.ptr l_.len l_.cap)] (by kernel_rfl) (by kernel_rfl) ?_
        refine reg_split 29 (v26 != 0) (by kernel_rfl) (fun hb => ?_) (fun hb => ?_)
        · replace h := h.1 hb
          refine reg_run [] 9 [(0, [], Value.slice l_.ptr l_.len l_.cap), (1, [], Value.int .i64 least), (2, [], Value.int .u16 mark), (29, [], Value.bool true), (30, [], undef)] (by kernel_rfl) (by kernel_rfl) ?_
          refine reg_run [.skip, .skip, .skip, .plain] 13 [(0, [], Value.slice l_.ptr l_.len l_.cap), (1, [], Value.int .i64 least), (2, [], Value.int .u16 mark), (34, [], Value.bool true)] (by kernel_rfl) (by kernel_rfl) ?_
          refine reg_end [(0, Value.slice l_.ptr l_.len l_.cap), (1, Value.int .i64 least), (2, Value.int .u16 mark), (34, Value.bool true)] (by kernel_rfl) (by kernel_rfl) ?_
          exact ⟨[(0, Value.slice l_.ptr l_.len l_.cap), (1, Value.int .i64 least), (2, Value.int .u16 mark), (34, Value.bool true)], Sub.mk (by kernel_rfl), true, rfl, h⟩
        · replace h := h.2 hb
          refine reg_run [] 9 [(0, [], Value.slice l_.ptr l_.len l_.cap), (1, [], Value.int .i64 least), (2, [], Value.int .u16 mark), (29, [], Value.bool false), (30, [], Value.slice l_.ptr l_.len l_.cap)] (by kernel_rfl) (by kernel_rfl) ?_
          refine reg_run [] 9 [(0, [], Value.slice l_.ptr l_.len l_.cap), (1, [], Value.int .i64 least), (2, [], Value.int .u16 mark), (29, [], Value.bool false), (30, [], Value.slice l_.ptr l_.len l_.cap)] (by kernel_rfl) (by kernel_rfl) ?_
          refine reg_enter (op := (Go.Op.call (Go.Call.mk (Go.Callee.value (Go.Operand.func 9)) #[(Go.Operand.tmp 30)] #[22]))) (ty := 3) (dst := some 31) 9 #[Value.slice l_.ptr l_.len l_.cap] (by kernel_rfl) (fun ww => by kernel_rfl) (Calls.mono h ?_)
          rintro _ w20 ⟨v31, rfl, h⟩
          refine ⟨_, rfl, ?_⟩
          refine reg_run [] 10 [(0, [], Value.slice l_.ptr l_.len l_.cap), (1, [], Value.int .i64 least), (2, [], Value.int .u16 mark), (29, [], Value.bool false), (31, [], Value.int .i64 v31)] (by kernel_rfl) (by kernel_rfl) ?_
          refine reg_new (op := (Go.Op.buildSlice 41 1 #[(0, (Go.Operand.tmp 31))])) (ty := 41) (dst := some 32) (fun bb => Value.slice (some ⟨bb, 0, none⟩) 1 1) (Obj.cells ([Value.int .i64 v31]).toArray ty_int (0, 0)) (by kernel_rfl) (by kernel_rfl) (fun b_2 w21 hb hw => ?_)
          replace h := h b_2 w21 hb hw
          clear hb hw
          refine reg_run [] 11 [(0, [], Value.slice l_.ptr l_.len l_.cap), (1, [], Value.int .i64 least), (2, [], Value.int .u16 mark), (29, [], Value.bool false), (32, [], Value.slice (some ⟨b_2, 0, none⟩) 1 1)] (by kernel_rfl) (by kernel_rfl) ?_
          refine reg_enter (op := (Go.Op.call (Go.Call.mk (Go.Callee.value (Go.Operand.func 8)) #[(Go.Operand.tmp 32)] #[41]))) (ty := 4) (dst := some 33) 8 #[Value.slice (some ⟨b_2, 0, none⟩) 1 1] (by kernel_rfl) (fun ww => by kernel_rfl) (Calls.mono h ?_)
          rintro _ w22 ⟨v33, rfl, h⟩
          refine ⟨_, rfl, ?_⟩
          refine reg_run [.plain] 13 [(0, [], Value.slice l_.ptr l_.len l_.cap), (1, [], Value.int .i64 least), (2, [], Value.int .u16 mark), (34, [], Value.bool v33)] (by kernel_rfl) (by kernel_rfl) ?_
          refine reg_end [(0, Value.slice l_.ptr l_.len l_.cap), (1, Value.int .i64 least), (2, Value.int .u16 mark), (34, Value.bool v33)] (by kernel_rfl) (by kernel_rfl) ?_
          exact ⟨[(0, Value.slice l_.ptr l_.len l_.cap), (1, Value.int .i64 least), (2, Value.int .u16 mark), (34, Value.bool v33)], Sub.mk (by kernel_rfl), v33, rfl, h⟩
    · rintro _ w1 ⟨t34, rfl, h⟩
      unfold F_towpathlaw08_ChainThins_k0 at h
      refine wpE_cond (o := (Operand.tmp 34)) (b := t34) (x := c_towpathlaw08_ChainThins_8) (y := c_towpathlaw08_ChainThins_12) (by kernel_rfl) (by kernel_rfl) (fun hb => ?_) (fun hb => ?_)
      · replace h := h.1 hb
        refine wpE_seq (x := c_towpathlaw08_ChainThins_9) (y := c_towpathlaw08_ChainThins_11) (by kernel_rfl) ?_
        refine wpE_region (id := 2) (ops := r_towpathlaw08_ChainThins_9) (by kernel_rfl) ?_
        refine reg_run [] 0 [] (by kernel_rfl) (by kernel_rfl) ?_
        refine reg_enter (op := (Go.Op.call (Go.Call.mk (Go.Callee.value (Go.Operand.func 7)) #[] #[]))) (ty := 4) (dst := some 35) 7 #[] (by kernel_rfl) (fun ww => by kernel_rfl) (Calls.mono h ?_)
        rintro _ w2 ⟨v35, rfl, h⟩
        refine ⟨_, rfl, ?_⟩
        refine reg_run [.plain] 2 [(6, [], Value.bool v35)] (by kernel_rfl) (by kernel_rfl) ?_
        refine reg_end [(6, Value.bool v35)] (by kernel_rfl) (by kernel_rfl) ?_
        change WpE _ _ c_towpathlaw08_ChainThins_11 _ _ _
        refine wpE_ret (by kernel_rfl) ?_
        repeat (first | refine seqQ_ret ?_ | refine blockQ_ret ?_ | refine loopQ_ret ?_ | refine cutQ_ret ?_)
        exact retS (rs := [(Go.ResultVar.tmp 6)]) (v := Value.bool v35) (by kernel_rfl) (⟨by kernel_rfl, trivial⟩) ⟨v35, rfl, h⟩
      · replace h := h.2 hb
        refine wpE_skip (by kernel_rfl) ?_
        change WpE _ _ c_towpathlaw08_ChainThins_13 _ _ _
        refine wpE_seq (x := c_towpathlaw08_ChainThins_14) (y := c_towpathlaw08_ChainThins_16) (by kernel_rfl) ?_
        refine wpE_region (id := 3) (ops := r_towpathlaw08_ChainThins_14) (by kernel_rfl) ?_
        refine reg_run [.plain, .plain] 2 [(0, [], Value.slice l_.ptr l_.len l_.cap), (1, [], Value.int .i64 least), (2, [], Value.int .u16 mark), (37, [], Value.slice l_.ptr l_.len l_.cap), (38, [], Value.int .i64 least)] (by kernel_rfl) (by kernel_rfl) ?_
        refine reg_enter (op := (Go.Op.call (Go.Call.mk (Go.Callee.value (Go.Operand.func 14)) #[(Go.Operand.tmp 37), (Go.Operand.tmp 38)] #[22, 3]))) (ty := 37) (dst := some 39) 14 #[Value.slice l_.ptr l_.len l_.cap, Value.int .i64 least] (by kernel_rfl) (fun ww => by kernel_rfl) (Calls.mono h ?_)
        rintro _ w3 ⟨x, n_, e, rfl, h⟩
        refine ⟨_, rfl, ?_⟩
        refine reg_run [.plain, .plain, .plain, .plain, .plain, .plain, .plain] 10 [(0, [], Value.slice l_.ptr l_.len l_.cap), (1, [], Value.int .i64 least), (2, [], Value.int .u16 mark), (7, [], Value.slice x.ptr x.len x.cap), (8, [], Value.int .i64 n_), (9, [], Value.int .i64 e)] (by kernel_rfl) (by kernel_rfl) ?_
        refine reg_end [(0, Value.slice l_.ptr l_.len l_.cap), (1, Value.int .i64 least), (2, Value.int .u16 mark), (7, Value.slice x.ptr x.len x.cap), (8, Value.int .i64 n_), (9, Value.int .i64 e)] (by kernel_rfl) (by kernel_rfl) ?_
        change WpE _ _ c_towpathlaw08_ChainThins_16 _ _ _
        refine wpE_seq (x := c_towpathlaw08_ChainThins_17) (y := c_towpathlaw08_ChainThins_26) (by kernel_rfl) ?_
        refine wpE_seq_cut (x := c_towpathlaw08_ChainThins_18) (y := c_towpathlaw08_ChainThins_20) (by kernel_rfl) (fun l w => ∃ (t58 : Bool), l = [(0, Value.slice l_.ptr l_.len l_.cap), (1, Value.int .i64 least), (2, Value.int .u16 mark), (7, Value.slice x.ptr x.len x.cap), (58, Value.bool t58)] ∧ F_towpathlaw08_ChainThins_k1 l_ least mark R x t58 w) ?_ ?_
        · refine wpE_region (id := 4) (ops := r_towpathlaw08_ChainThins_18) (by kernel_rfl) ?_
          refine reg_run [.plain, .plain, .plain, .plain, .plain, .plain, .plain, .plain, .plain, .plain, .pick, .plain, .plain] 13 [(0, [], Value.slice l_.ptr l_.len l_.cap), (1, [], Value.int .i64 least), (2, [], Value.int .u16 mark), (7, [], Value.slice x.ptr x.len x.cap), (54, [], Value.bool ((e != 0) || ((IntKind.i64.wrap (((x.len : Nat) : Int) + n_)) != ((l_.len : Nat) : Int)))), (55, [(54, false)], Value.slice x.ptr x.len x.cap)] (by kernel_rfl) (by kernel_rfl) ?_
          refine reg_split 54 ((e != 0) || ((IntKind.i64.wrap (((x.len : Nat) : Int) + n_)) != ((l_.len : Nat) : Int))) (by kernel_rfl) (fun hb => ?_) (fun hb => ?_)
          · replace h := h.1 hb
            refine reg_run [] 13 [(0, [], Value.slice l_.ptr l_.len l_.cap), (1, [], Value.int .i64 least), (2, [], Value.int .u16 mark), (7, [], Value.slice x.ptr x.len x.cap), (54, [], Value.bool true), (55, [], undef)] (by kernel_rfl) (by kernel_rfl) ?_
            refine reg_run [.skip, .skip, .plain] 16 [(0, [], Value.slice l_.ptr l_.len l_.cap), (1, [], Value.int .i64 least), (2, [], Value.int .u16 mark), (7, [], Value.slice x.ptr x.len x.cap), (58, [], Value.bool true)] (by kernel_rfl) (by kernel_rfl) ?_
            refine reg_end [(0, Value.slice l_.ptr l_.len l_.cap), (1, Value.int .i64 least), (2, Value.int .u16 mark), (7, Value.slice x.ptr x.len x.cap), (58, Value.bool true)] (by kernel_rfl) (by kernel_rfl) ?_
            exact ⟨[(0, Value.slice l_.ptr l_.len l_.cap), (1, Value.int .i64 least), (2, Value.int .u16 mark), (7, Value.slice x.ptr x.len x.cap), (58, Value.bool true)], Sub.mk (by kernel_rfl), true, rfl, h⟩
          · replace h := h.2 hb
            refine reg_run [] 13 [(0, [], Value.slice l_.ptr l_.len l_.cap), (1, [], Value.int .i64 least), (2, [], Value.int .u16 mark), (7, [], Value.slice x.ptr x.len x.cap), (54, [], Value.bool false), (55, [], Value.slice x.ptr x.len x.cap)] (by kernel_rfl) (by kernel_rfl) ?_
            refine reg_run [] 13 [(0, [], Value.slice l_.ptr l_.len l_.cap), (1, [], Value.int .i64 least), (2, [], Value.int .u16 mark), (7, [], Value.slice x.ptr x.len x.cap), (54, [], Value.bool false), (55, [], Value.slice x.ptr x.len x.cap)] (by kernel_rfl) (by kernel_rfl) ?_
            refine reg_enter (op := (Go.Op.call (Go.Call.mk (Go.Callee.value (Go.Operand.func 11)) #[(Go.Operand.tmp 55)] #[22]))) (ty := 26) (dst := some 56) 11 #[Value.slice x.ptr x.len x.cap] (by kernel_rfl) (fun ww => by kernel_rfl) (Calls.mono h ?_)
            rintro _ w17 ⟨v56, rfl, h⟩
            refine ⟨_, rfl, ?_⟩
            refine reg_run [.sure, .plain] 16 [(0, [], Value.slice l_.ptr l_.len l_.cap), (1, [], Value.int .i64 least), (2, [], Value.int .u16 mark), (7, [], Value.slice x.ptr x.len x.cap), (58, [], Value.bool (v56 != 0))] (by kernel_rfl) (by kernel_rfl) ?_
            refine reg_end [(0, Value.slice l_.ptr l_.len l_.cap), (1, Value.int .i64 least), (2, Value.int .u16 mark), (7, Value.slice x.ptr x.len x.cap), (58, Value.bool (v56 != 0))] (by kernel_rfl) (by kernel_rfl) ?_
            exact ⟨[(0, Value.slice l_.ptr l_.len l_.cap), (1, Value.int .i64 least), (2, Value.int .u16 mark), (7, Value.slice x.ptr x.len x.cap), (58, Value.bool (v56 != 0))], Sub.mk (by kernel_rfl), (v56 != 0), rfl, h⟩
        · rintro _ w4 ⟨t58, rfl, h⟩
          unfold F_towpathlaw08_ChainThins_k1 at h
          refine wpE_cond (o := (Operand.tmp 58)) (b := t58) (x := c_towpathlaw08_ChainThins_21) (y := c_towpathlaw08_ChainThins_25) (by kernel_rfl) (by kernel_rfl) (fun hb => ?_) (fun hb => ?_)
          · replace h := h.1 hb
            refine wpE_seq (x := c_towpathlaw08_ChainThins_22) (y := c_towpathlaw08_ChainThins_24) (by kernel_rfl) ?_
            refine wpE_region (id := 5) (ops := r_towpathlaw08_ChainThins_22) (by kernel_rfl) ?_
            refine reg_run [.plain] 1 [(6, [], Value.bool false)] (by kernel_rfl) (by kernel_rfl) ?_
            refine reg_end [(6, Value.bool false)] (by kernel_rfl) (by kernel_rfl) ?_
            change WpE _ _ c_towpathlaw08_ChainThins_24 _ _ _
            refine wpE_ret (by kernel_rfl) ?_
            repeat (first | refine seqQ_ret ?_ | refine blockQ_ret ?_ | refine loopQ_ret ?_ | refine cutQ_ret ?_)
            exact retS (rs := [(Go.ResultVar.tmp 6)]) (v := Value.bool false) (by kernel_rfl) (⟨by kernel_rfl, trivial⟩) ⟨false, rfl, h⟩
          · replace h := h.2 hb
            refine wpE_skip (by kernel_rfl) ?_
            change WpE _ _ c_towpathlaw08_ChainThins_26 _ _ _
            refine wpE_seq (x := c_towpathlaw08_ChainThins_27) (y := c_towpathlaw08_ChainThins_29) (by kernel_rfl) ?_
            refine wpE_region (id := 6) (ops := r_towpathlaw08_ChainThins_27) (by kernel_rfl) ?_
            refine reg_run [.plain] 1 [(0, [], Value.slice l_.ptr l_.len l_.cap), (1, [], Value.int .i64 least), (2, [], Value.int .u16 mark), (7, [], Value.slice x.ptr x.len x.cap), (10, [], Value.int .i64 0)] (by kernel_rfl) (by kernel_rfl) ?_
            refine reg_end [(0, Value.slice l_.ptr l_.len l_.cap), (1, Value.int .i64 least), (2, Value.int .u16 mark), (7, Value.slice x.ptr x.len x.cap), (10, Value.int .i64 0)] (by kernel_rfl) (by kernel_rfl) ?_
            change WpE _ _ c_towpathlaw08_ChainThins_29 _ _ _
            refine wpE_seq (x := c_towpathlaw08_ChainThins_30) (y := c_towpathlaw08_ChainThins_53) (by kernel_rfl) ?_
            refine wpE_seq (x := c_towpathlaw08_ChainThins_31) (y := c_towpathlaw08_ChainThins_33) (by kernel_rfl) ?_
            refine wpE_region (id := 7) (ops := r_towpathlaw08_ChainThins_31) (by kernel_rfl) ?_
            refine reg_run [.plain] 1 [(0, [], Value.slice l_.ptr l_.len l_.cap), (1, [], Value.int .i64 least), (2, [], Value.int .u16 mark), (7, [], Value.slice x.ptr x.len x.cap), (10, [], Value.int .i64 0), (11, [], Value.int .i64 0)] (by kernel_rfl) (by kernel_rfl) ?_
            refine reg_end [(0, Value.slice l_.ptr l_.len l_.cap), (1, Value.int .i64 least), (2, Value.int .u16 mark), (7, Value.slice x.ptr x.len x.cap), (10, Value.int .i64 0), (11, Value.int .i64 0)] (by kernel_rfl) (by kernel_rfl) ?_
            change WpE _ _ c_towpathlaw08_ChainThins_33 _ _ _
            refine wpE_block (id := 0) (x := c_towpathlaw08_ChainThins_34) (by kernel_rfl) ?_
            obtain ⟨I, μ, h0, hr⟩ := h
            refine wpE_loop (x := c_towpathlaw08_ChainThins_35) (by kernel_rfl) (fun m l w => ∃ (low : Int) (i : Int), l = [(0, Value.slice l_.ptr l_.len l_.cap), (1, Value.int .i64 least), (2, Value.int .u16 mark), (7, Value.slice x.ptr x.len x.cap), (10, Value.int .i64 low), (11, Value.int .i64 i)] ∧ I low i w ∧ μ low i w = m) (l' := [(0, Value.slice l_.ptr l_.len l_.cap), (1, Value.int .i64 least), (2, Value.int .u16 mark), (7, Value.slice x.ptr x.len x.cap), (10, Value.int .i64 0), (11, Value.int .i64 0)]) (Sub.mk (by kernel_rfl)) ⟨0, 0, rfl, h0, rfl⟩ ?_
            rintro _ _ w5 ⟨low, i, rfl, hI, rfl⟩
            obtain ⟨again_, again__h, h⟩ : ∃ again_ : Int → Int → World → Prop, (∀ low' i' w', again_ low' i' w' → I low' i' w' ∧ μ low' i' w' < μ low i w5) ∧ F_towpathlaw08_ChainThins_L2 l_ least mark R x again_ low i w5 := ⟨_, fun _ _ _ h => h, hr low i w5 hI⟩
            clear h0 hI
            unfold F_towpathlaw08_ChainThins_L2 at h
            refine wpE_seq (x := c_towpathlaw08_ChainThins_36) (y := c_towpathlaw08_ChainThins_42) (by kernel_rfl) ?_
            refine wpE_seq (x := c_towpathlaw08_ChainThins_37) (y := c_towpathlaw08_ChainThins_39) (by kernel_rfl) ?_
            refine wpE_region (id := 8) (ops := r_towpathlaw08_ChainThins_37) (by kernel_rfl) ?_
            refine reg_run [.plain, .plain, .plain, .plain] 4 [(0, [], Value.slice l_.ptr l_.len l_.cap), (1, [], Value.int .i64 least), (2, [], Value.int .u16 mark), (7, [], Value.slice x.ptr x.len x.cap), (10, [], Value.int .i64 low), (11, [], Value.int .i64 i), (62, [], Value.bool (decide (i < ((x.len : Nat) : Int))))] (by kernel_rfl) (by kernel_rfl) ?_
            refine reg_end [(0, Value.slice l_.ptr l_.len l_.cap), (1, Value.int .i64 least), (2, Value.int .u16 mark), (7, Value.slice x.ptr x.len x.cap), (10, Value.int .i64 low), (11, Value.int .i64 i), (62, Value.bool (decide (i < ((x.len : Nat) : Int))))] (by kernel_rfl) (by kernel_rfl) ?_
            change WpE _ _ c_towpathlaw08_ChainThins_39 _ _ _
            refine wpE_cond (o := (Operand.tmp 62)) (b := (decide (i < ((x.len : Nat) : Int)))) (x := c_towpathlaw08_ChainThins_40) (y := c_towpathlaw08_ChainThins_41) (by kernel_rfl) (by kernel_rfl) (fun hb => ?_) (fun hb => ?_)
            · replace h := h.1 hb
              refine wpE_skip (by kernel_rfl) ?_
              change WpE _ _ c_towpathlaw08_ChainThins_42 _ _ _
              refine wpE_seq_cut (x := c_towpathlaw08_ChainThins_43) (y := c_towpathlaw08_ChainThins_51) (by kernel_rfl) (fun l w => ∃ (low1 : Int), l = [(0, Value.slice l_.ptr l_.len l_.cap), (1, Value.int .i64 least), (2, Value.int .u16 mark), (7, Value.slice x.ptr x.len x.cap), (10, Value.int .i64 low1), (11, Value.int .i64 i)] ∧ F_towpathlaw08_ChainThins_k3 i again_ low1 w) ?_ ?_
              · refine wpE_block (id := 1) (x := c_towpathlaw08_ChainThins_44) (by kernel_rfl) ?_
                refine wpE_seq (x := c_towpathlaw08_ChainThins_45) (y := c_towpathlaw08_ChainThins_47) (by kernel_rfl) ?_
                refine wpE_region (id := 10) (ops := r_towpathlaw08_ChainThins_45) (by kernel_rfl) ?_
                refine reg_run [.plain, .plain] 2 [(0, [], Value.slice l_.ptr l_.len l_.cap), (1, [], Value.int .i64 least), (2, [], Value.int .u16 mark), (7, [], Value.slice x.ptr x.len x.cap), (10, [], Value.int .i64 low), (11, [], Value.int .i64 i), (65, [], Value.slice x.ptr x.len x.cap), (66, [], Value.int .i64 i)] (by kernel_rfl) (by kernel_rfl) ?_
                obtain ⟨hp_7, h⟩ := h
                refine reg_conv [(0, [], Value.slice l_.ptr l_.len l_.cap), (1, [], Value.int .i64 least), (2, [], Value.int .u16 mark), (7, [], Value.slice x.ptr x.len x.cap), (10, [], Value.int .i64 low), (11, [], Value.int .i64 i), (65, [], Value.slice (some ⟨(pblk x.ptr), (poff x.ptr), none⟩) x.len x.cap), (66, [], Value.int .i64 i)] (congrArg (fun pp => ([(0, [], Value.slice l_.ptr l_.len l_.cap), (1, [], Value.int .i64 least), (2, [], Value.int .u16 mark), (7, [], Value.slice x.ptr x.len x.cap), (10, [], Value.int .i64 low), (11, [], Value.int .i64 i), (65, [], Value.slice pp x.len x.cap), (66, [], Value.int .i64 i)] : GEnv)) hp_7) ?_
                obtain ⟨h0, h1, h⟩ := h
                refine reg_indexS (t := 22) (e := 30) (x := (Go.Operand.tmp 65)) (ix := (Go.Operand.tmp 66)) (b := (pblk x.ptr)) (o := (poff x.ptr)) (l := x.len) (c := x.cap) (k := .i64) (j := i) (ty := 0) (dst := some 67) (sz := 3) (by kernel_rfl) (by kernel_rfl) (by kernel_rfl) (by kernel_rfl) (by kernel_rfl) h0 h1 ?_
                refine reg_run [.plain] 4 [(0, [], Value.slice l_.ptr l_.len l_.cap), (1, [], Value.int .i64 least), (2, [], Value.int .u16 mark), (7, [], Value.slice x.ptr x.len x.cap), (10, [], Value.int .i64 low), (11, [], Value.int .i64 i), (68, [], Value.pointer (some ⟨(pblk x.ptr), (poff x.ptr) + i.toNat * 3, none⟩))] (by kernel_rfl) (by kernel_rfl) ?_
                obtain ⟨v69, hc, h⟩ := h
                refine reg_load1 (t := 3) (a := (Go.Operand.tmp 68)) (b := (pblk x.ptr)) (o := ((poff x.ptr) + i.toNat * 3)) (ty := 3) (dst := some 69) (by kernel_rfl) (by kernel_rfl) (by kernel_rfl) hc ?_
                refine reg_run [.plain, .plain] 7 [(0, [], Value.slice l_.ptr l_.len l_.cap), (1, [], Value.int .i64 least), (2, [], Value.int .u16 mark), (7, [], Value.slice x.ptr x.len x.cap), (10, [], Value.int .i64 low), (11, [], Value.int .i64 i), (71, [], Value.bool (decide (v69 ≤ least)))] (by kernel_rfl) (by kernel_rfl) ?_
                refine reg_end [(0, Value.slice l_.ptr l_.len l_.cap), (1, Value.int .i64 least), (2, Value.int .u16 mark), (7, Value.slice x.ptr x.len x.cap), (10, Value.int .i64 low), (11, Value.int .i64 i), (71, Value.bool (decide (v69 ≤ least)))] (by kernel_rfl) (by kernel_rfl) ?_
                change WpE _ _ c_towpathlaw08_ChainThins_47 _ _ _
                refine wpE_cond (o := (Operand.tmp 71)) (b := (decide (v69 ≤ least))) (x := c_towpathlaw08_ChainThins_48) (y := c_towpathlaw08_ChainThins_50) (by kernel_rfl) (by kernel_rfl) (fun hb => ?_) (fun hb => ?_)
                · replace h := h.1 hb
                  refine wpE_region (id := 11) (ops := r_towpathlaw08_ChainThins_48) (by kernel_rfl) ?_
                  refine reg_run [.plain, .plain, .plain] 3 [(0, [], Value.slice l_.ptr l_.len l_.cap), (1, [], Value.int .i64 least), (2, [], Value.int .u16 mark), (7, [], Value.slice x.ptr x.len x.cap), (10, [], Value.int .i64 (IntKind.i64.wrap (low + 1))), (11, [], Value.int .i64 i)] (by kernel_rfl) (by kernel_rfl) ?_
                  refine reg_end [(0, Value.slice l_.ptr l_.len l_.cap), (1, Value.int .i64 least), (2, Value.int .u16 mark), (7, Value.slice x.ptr x.len x.cap), (10, Value.int .i64 (IntKind.i64.wrap (low + 1))), (11, Value.int .i64 i)] (by kernel_rfl) (by kernel_rfl) ?_
                  exact ⟨[(0, Value.slice l_.ptr l_.len l_.cap), (1, Value.int .i64 least), (2, Value.int .u16 mark), (7, Value.slice x.ptr x.len x.cap), (10, Value.int .i64 (IntKind.i64.wrap (low + 1))), (11, Value.int .i64 i)], Sub.mk (by kernel_rfl), (IntKind.i64.wrap (low + 1)), rfl, h⟩
                · replace h := h.2 hb
                  refine wpE_skip (by kernel_rfl) ?_
                  exact ⟨[(0, Value.slice l_.ptr l_.len l_.cap), (1, Value.int .i64 least), (2, Value.int .u16 mark), (7, Value.slice x.ptr x.len x.cap), (10, Value.int .i64 low), (11, Value.int .i64 i)], Sub.mk (by kernel_rfl), low, rfl, h⟩
              · rintro _ w6 ⟨low1, rfl, h⟩
                unfold F_towpathlaw08_ChainThins_k3 at h
                refine wpE_region (id := 9) (ops := r_towpathlaw08_ChainThins_51) (by kernel_rfl) ?_
                refine reg_run [.plain, .plain, .plain] 3 [(0, [], Value.slice l_.ptr l_.len l_.cap), (1, [], Value.int .i64 least), (2, [], Value.int .u16 mark), (7, [], Value.slice x.ptr x.len x.cap), (10, [], Value.int .i64 low1), (11, [], Value.int .i64 (IntKind.i64.wrap (i + 1)))] (by kernel_rfl) (by kernel_rfl) ?_
                refine reg_end [(0, Value.slice l_.ptr l_.len l_.cap), (1, Value.int .i64 least), (2, Value.int .u16 mark), (7, Value.slice x.ptr x.len x.cap), (10, Value.int .i64 low1), (11, Value.int .i64 (IntKind.i64.wrap (i + 1)))] (by kernel_rfl) (by kernel_rfl) ?_
                have hb_ := again__h _ _ _ h
                exact ⟨_, hb_.2, [(0, Value.slice l_.ptr l_.len l_.cap), (1, Value.int .i64 least), (2, Value.int .u16 mark), (7, Value.slice x.ptr x.len x.cap), (10, Value.int .i64 low1), (11, Value.int .i64 (IntKind.i64.wrap (i + 1)))], Sub.mk (by kernel_rfl), low1, (IntKind.i64.wrap (i + 1)), rfl, hb_.1, rfl⟩
            · replace h := h.2 hb
              refine wpE_exit (id := 0) (by kernel_rfl) ?_
              change WpE _ _ c_towpathlaw08_ChainThins_53 _ _ _
              refine wpE_seq (x := c_towpathlaw08_ChainThins_54) (y := c_towpathlaw08_ChainThins_56) (by kernel_rfl) ?_
              refine wpE_region (id := 12) (ops := r_towpathlaw08_ChainThins_54) (by kernel_rfl) ?_
              refine reg_run [.plain, .plain] 2 [(0, [], Value.slice l_.ptr l_.len l_.cap), (1, [], Value.int .i64 least), (2, [], Value.int .u16 mark), (7, [], Value.slice x.ptr x.len x.cap), (10, [], Value.int .i64 low), (75, [], Value.slice x.ptr x.len x.cap), (76, [], Value.int .i64 least)] (by kernel_rfl) (by kernel_rfl) ?_
              refine reg_enter (op := (Go.Op.call (Go.Call.mk (Go.Callee.value (Go.Operand.func 14)) #[(Go.Operand.tmp 75), (Go.Operand.tmp 76)] #[22, 3]))) (ty := 37) (dst := some 77) 14 #[Value.slice x.ptr x.len x.cap, Value.int .i64 least] (by kernel_rfl) (fun ww => by kernel_rfl) (Calls.mono h ?_)
              rintro _ w7 ⟨again_1, m_, f, rfl, h⟩
              refine ⟨_, rfl, ?_⟩
              refine reg_run [.plain, .plain, .plain, .plain, .plain, .plain, .plain] 10 [(0, [], Value.slice l_.ptr l_.len l_.cap), (1, [], Value.int .i64 least), (2, [], Value.int .u16 mark), (7, [], Value.slice x.ptr x.len x.cap), (10, [], Value.int .i64 low), (12, [], Value.slice again_1.ptr again_1.len again_1.cap), (13, [], Value.int .i64 m_), (14, [], Value.int .i64 f)] (by kernel_rfl) (by kernel_rfl) ?_
              refine reg_end [(0, Value.slice l_.ptr l_.len l_.cap), (1, Value.int .i64 least), (2, Value.int .u16 mark), (7, Value.slice x.ptr x.len x.cap), (10, Value.int .i64 low), (12, Value.slice again_1.ptr again_1.len again_1.cap), (13, Value.int .i64 m_), (14, Value.int .i64 f)] (by kernel_rfl) (by kernel_rfl) ?_
              change WpE _ _ c_towpathlaw08_ChainThins_56 _ _ _
              refine wpE_seq (x := c_towpathlaw08_ChainThins_57) (y := c_towpathlaw08_ChainThins_66) (by kernel_rfl) ?_
              refine wpE_seq_cut (x := c_towpathlaw08_ChainThins_58) (y := c_towpathlaw08_ChainThins_60) (by kernel_rfl) (fun l w => ∃ (t96 : Bool), l = [(0, Value.slice l_.ptr l_.len l_.cap), (1, Value.int .i64 least), (2, Value.int .u16 mark), (7, Value.slice x.ptr x.len x.cap), (96, Value.bool t96)] ∧ F_towpathlaw08_ChainThins_k4 l_ least mark R x t96 w) ?_ ?_
              · refine wpE_region (id := 13) (ops := r_towpathlaw08_ChainThins_58) (by kernel_rfl) ?_
                refine reg_run [.plain, .plain, .plain, .plain, .plain, .pick, .plain, .plain, .plain, .pick, .plain, .plain, .plain] 13 [(0, [], Value.slice l_.ptr l_.len l_.cap), (1, [], Value.int .i64 least), (2, [], Value.int .u16 mark), (7, [], Value.slice x.ptr x.len x.cap), (91, [], Value.bool (((decide (low > 1)) || (f != 0)) || (m_ != 0))), (92, [(91, false)], Value.slice again_1.ptr again_1.len again_1.cap), (93, [(91, false)], Value.slice x.ptr x.len x.cap)] (by kernel_rfl) (by kernel_rfl) ?_
                refine reg_split 91 (((decide (low > 1)) || (f != 0)) || (m_ != 0)) (by kernel_rfl) (fun hb => ?_) (fun hb => ?_)
                · replace h := h.1 hb
                  refine reg_run [] 13 [(0, [], Value.slice l_.ptr l_.len l_.cap), (1, [], Value.int .i64 least), (2, [], Value.int .u16 mark), (7, [], Value.slice x.ptr x.len x.cap), (91, [], Value.bool true), (92, [], undef), (93, [], undef)] (by kernel_rfl) (by kernel_rfl) ?_
                  refine reg_run [.skip, .skip, .plain] 16 [(0, [], Value.slice l_.ptr l_.len l_.cap), (1, [], Value.int .i64 least), (2, [], Value.int .u16 mark), (7, [], Value.slice x.ptr x.len x.cap), (96, [], Value.bool true)] (by kernel_rfl) (by kernel_rfl) ?_
                  refine reg_end [(0, Value.slice l_.ptr l_.len l_.cap), (1, Value.int .i64 least), (2, Value.int .u16 mark), (7, Value.slice x.ptr x.len x.cap), (96, Value.bool true)] (by kernel_rfl) (by kernel_rfl) ?_
                  exact ⟨[(0, Value.slice l_.ptr l_.len l_.cap), (1, Value.int .i64 least), (2, Value.int .u16 mark), (7, Value.slice x.ptr x.len x.cap), (96, Value.bool true)], Sub.mk (by kernel_rfl), true, rfl, h⟩
                · replace h := h.2 hb
                  refine reg_run [] 13 [(0, [], Value.slice l_.ptr l_.len l_.cap), (1, [], Value.int .i64 least), (2, [], Value.int .u16 mark), (7, [], Value.slice x.ptr x.len x.cap), (91, [], Value.bool false), (92, [], Value.slice again_1.ptr again_1.len again_1.cap), (93, [], Value.slice x.ptr x.len x.cap)] (by kernel_rfl) (by kernel_rfl) ?_
                  refine reg_run [] 13 [(0, [], Value.slice l_.ptr l_.len l_.cap), (1, [], Value.int .i64 least), (2, [], Value.int .u16 mark), (7, [], Value.slice x.ptr x.len x.cap), (91, [], Value.bool false), (92, [], Value.slice again_1.ptr again_1.len again_1.cap), (93, [], Value.slice x.ptr x.len x.cap)] (by kernel_rfl) (by kernel_rfl) ?_
                  refine reg_enter (op := (Go.Op.call (Go.Call.mk (Go.Callee.value (Go.Operand.func 12)) #[(Go.Operand.tmp 92), (Go.Operand.tmp 93)] #[22, 22]))) (ty := 4) (dst := some 94) 12 #[Value.slice again_1.ptr again_1.len again_1.cap, Value.slice x.ptr x.len x.cap] (by kernel_rfl) (fun ww => by kernel_rfl) (Calls.mono h ?_)
                  rintro _ w16 ⟨v94, rfl, h⟩
                  refine ⟨_, rfl, ?_⟩
                  refine reg_run [.sure, .plain] 16 [(0, [], Value.slice l_.ptr l_.len l_.cap), (1, [], Value.int .i64 least), (2, [], Value.int .u16 mark), (7, [], Value.slice x.ptr x.len x.cap), (96, [], Value.bool (!v94))] (by kernel_rfl) (by kernel_rfl) ?_
                  refine reg_end [(0, Value.slice l_.ptr l_.len l_.cap), (1, Value.int .i64 least), (2, Value.int .u16 mark), (7, Value.slice x.ptr x.len x.cap), (96, Value.bool (!v94))] (by kernel_rfl) (by kernel_rfl) ?_
                  exact ⟨[(0, Value.slice l_.ptr l_.len l_.cap), (1, Value.int .i64 least), (2, Value.int .u16 mark), (7, Value.slice x.ptr x.len x.cap), (96, Value.bool (!v94))], Sub.mk (by kernel_rfl), (!v94), rfl, h⟩
              · rintro _ w8 ⟨t96, rfl, h⟩
                unfold F_towpathlaw08_ChainThins_k4 at h
                refine wpE_cond (o := (Operand.tmp 96)) (b := t96) (x := c_towpathlaw08_ChainThins_61) (y := c_towpathlaw08_ChainThins_65) (by kernel_rfl) (by kernel_rfl) (fun hb => ?_) (fun hb => ?_)
                · replace h := h.1 hb
                  refine wpE_seq (x := c_towpathlaw08_ChainThins_62) (y := c_towpathlaw08_ChainThins_64) (by kernel_rfl) ?_
                  refine wpE_region (id := 14) (ops := r_towpathlaw08_ChainThins_62) (by kernel_rfl) ?_
                  refine reg_run [.plain] 1 [(6, [], Value.bool false)] (by kernel_rfl) (by kernel_rfl) ?_
                  refine reg_end [(6, Value.bool false)] (by kernel_rfl) (by kernel_rfl) ?_
                  change WpE _ _ c_towpathlaw08_ChainThins_64 _ _ _
                  refine wpE_ret (by kernel_rfl) ?_
                  repeat (first | refine seqQ_ret ?_ | refine blockQ_ret ?_ | refine loopQ_ret ?_ | refine cutQ_ret ?_)
                  exact retS (rs := [(Go.ResultVar.tmp 6)]) (v := Value.bool false) (by kernel_rfl) (⟨by kernel_rfl, trivial⟩) ⟨false, rfl, h⟩
                · replace h := h.2 hb
                  refine wpE_skip (by kernel_rfl) ?_
                  change WpE _ _ c_towpathlaw08_ChainThins_66 _ _ _
                  refine wpE_seq (x := c_towpathlaw08_ChainThins_67) (y := c_towpathlaw08_ChainThins_69) (by kernel_rfl) ?_
                  refine wpE_region (id := 15) (ops := r_towpathlaw08_ChainThins_67) (by kernel_rfl) ?_
                  refine reg_run [.plain, .plain, .plain] 3 [(0, [], Value.slice l_.ptr l_.len l_.cap), (1, [], Value.int .i64 least), (7, [], Value.slice x.ptr x.len x.cap), (15, [], Value.int .i64 (IntKind.i64.wrap mark))] (by kernel_rfl) (by kernel_rfl) ?_
                  refine reg_end [(0, Value.slice l_.ptr l_.len l_.cap), (1, Value.int .i64 least), (7, Value.slice x.ptr x.len x.cap), (15, Value.int .i64 (IntKind.i64.wrap mark))] (by kernel_rfl) (by kernel_rfl) ?_
                  change WpE _ _ c_towpathlaw08_ChainThins_69 _ _ _
                  refine wpE_seq_cut (x := c_towpathlaw08_ChainThins_70) (y := c_towpathlaw08_ChainThins_77) (by kernel_rfl) (fun l w => ∃ (at_ : Int), l = [(0, Value.slice l_.ptr l_.len l_.cap), (7, Value.slice x.ptr x.len x.cap), (15, Value.int .i64 at_)] ∧ F_towpathlaw08_ChainThins_k5 l_ R x at_ w) ?_ ?_
                  · refine wpE_seq (x := c_towpathlaw08_ChainThins_71) (y := c_towpathlaw08_ChainThins_73) (by kernel_rfl) ?_
                    refine wpE_region (id := 16) (ops := r_towpathlaw08_ChainThins_71) (by kernel_rfl) ?_
                    refine reg_run [.plain, .plain, .plain] 3 [(0, [], Value.slice l_.ptr l_.len l_.cap), (1, [], Value.int .i64 least), (7, [], Value.slice x.ptr x.len x.cap), (15, [], Value.int .i64 (IntKind.i64.wrap mark)), (101, [], Value.bool (decide ((IntKind.i64.wrap mark) < least)))] (by kernel_rfl) (by kernel_rfl) ?_
                    refine reg_end [(0, Value.slice l_.ptr l_.len l_.cap), (1, Value.int .i64 least), (7, Value.slice x.ptr x.len x.cap), (15, Value.int .i64 (IntKind.i64.wrap mark)), (101, Value.bool (decide ((IntKind.i64.wrap mark) < least)))] (by kernel_rfl) (by kernel_rfl) ?_
                    change WpE _ _ c_towpathlaw08_ChainThins_73 _ _ _
                    refine wpE_cond (o := (Operand.tmp 101)) (b := (decide ((IntKind.i64.wrap mark) < least))) (x := c_towpathlaw08_ChainThins_74) (y := c_towpathlaw08_ChainThins_76) (by kernel_rfl) (by kernel_rfl) (fun hb => ?_) (fun hb => ?_)
                    · replace h := h.1 hb
                      refine wpE_region (id := 17) (ops := r_towpathlaw08_ChainThins_74) (by kernel_rfl) ?_
                      refine reg_run [.plain, .plain] 2 [(0, [], Value.slice l_.ptr l_.len l_.cap), (7, [], Value.slice x.ptr x.len x.cap), (15, [], Value.int .i64 least)] (by kernel_rfl) (by kernel_rfl) ?_
                      refine reg_end [(0, Value.slice l_.ptr l_.len l_.cap), (7, Value.slice x.ptr x.len x.cap), (15, Value.int .i64 least)] (by kernel_rfl) (by kernel_rfl) ?_
                      exact ⟨[(0, Value.slice l_.ptr l_.len l_.cap), (7, Value.slice x.ptr x.len x.cap), (15, Value.int .i64 least)], Sub.mk (by kernel_rfl), least, rfl, h⟩
                    · replace h := h.2 hb
                      refine wpE_skip (by kernel_rfl) ?_
                      exact ⟨[(0, Value.slice l_.ptr l_.len l_.cap), (7, Value.slice x.ptr x.len x.cap), (15, Value.int .i64 (IntKind.i64.wrap mark))], Sub.mk (by kernel_rfl), (IntKind.i64.wrap mark), rfl, h⟩
                  · rintro _ w9 ⟨at_, rfl, h⟩
                    unfold F_towpathlaw08_ChainThins_k5 at h
                    refine wpE_seq (x := c_towpathlaw08_ChainThins_78) (y := c_towpathlaw08_ChainThins_80) (by kernel_rfl) ?_
                    refine wpE_region (id := 18) (ops := r_towpathlaw08_ChainThins_78) (by kernel_rfl) ?_
                    refine reg_run [.plain, .plain] 2 [(7, [], Value.slice x.ptr x.len x.cap), (15, [], Value.int .i64 at_), (104, [], Value.slice l_.ptr l_.len l_.cap), (105, [], Value.int .i64 at_)] (by kernel_rfl) (by kernel_rfl) ?_
                    refine reg_enter (op := (Go.Op.call (Go.Call.mk (Go.Callee.value (Go.Operand.func 13)) #[(Go.Operand.tmp 104), (Go.Operand.tmp 105)] #[22, 3]))) (ty := 33) (dst := some 106) 13 #[Value.slice l_.ptr l_.len l_.cap, Value.int .i64 at_] (by kernel_rfl) (fun ww => by kernel_rfl) (Calls.mono h ?_)
                    rintro _ w10 ⟨v106, ok, g, rfl, h⟩
                    refine ⟨_, rfl, ?_⟩
                    refine reg_run [.plain, .plain, .plain, .plain] 7 [(7, [], Value.slice x.ptr x.len x.cap), (15, [], Value.int .i64 at_), (107, [], Value.agg #[Value.int .i64 v106.Number, Value.string v106.Val, Value.bool v106.Drop]), (108, [], Value.bool ok), (109, [], Value.int .i64 g)] (by kernel_rfl) (by kernel_rfl) ?_
                    refine reg_new (op := (Go.Op.alloc 30)) (ty := 0) (dst := some 16) (fun bb => Value.pointer (some ⟨bb, 0, none⟩)) (Obj.cells ([Value.int .i64 0, Value.string ByteArray.empty, Value.bool false]).toArray ty_api_Version (0, 0)) (by kernel_rfl) (by kernel_rfl) (fun b_ w11 hb hw => ?_)
                    replace h := h b_ w11 hb hw
                    clear hb hw
                    refine reg_run [] 8 [(7, [], Value.slice x.ptr x.len x.cap), (15, [], Value.int .i64 at_), (16, [], Value.pointer (some ⟨b_, 0, none⟩)), (107, [], Value.agg #[Value.int .i64 v106.Number, Value.string v106.Val, Value.bool v106.Drop]), (108, [], Value.bool ok), (109, [], Value.int .i64 g)] (by kernel_rfl) (by kernel_rfl) ?_
                    obtain ⟨hc, h⟩ := h
                    refine reg_store (t := 30) (a := (Go.Operand.tmp 16)) (x := (Go.Operand.tmp 107)) (b := b_) (o := 0) (ty := 0) (dst := none) [Value.int .i64 v106.Number, Value.string v106.Val, Value.bool v106.Drop] (by kernel_rfl) (by kernel_rfl) (by kernel_rfl) (k := 3) (by kernel_rfl) (by kernel_rfl) (by kernel_rfl) hc (fun w12 hw => ?_)
                    replace h := h w12 hw
                    clear hw
                    refine reg_run [.plain, .plain] 11 [(7, [], Value.slice x.ptr x.len x.cap), (15, [], Value.int .i64 at_), (16, [], Value.pointer (some ⟨b_, 0, none⟩)), (17, [], Value.bool ok), (18, [], Value.int .i64 g)] (by kernel_rfl) (by kernel_rfl) ?_
                    refine reg_end [(7, Value.slice x.ptr x.len x.cap), (15, Value.int .i64 at_), (16, Value.pointer (some ⟨b_, 0, none⟩)), (17, Value.bool ok), (18, Value.int .i64 g)] (by kernel_rfl) (by kernel_rfl) ?_
                    change WpE _ _ c_towpathlaw08_ChainThins_80 _ _ _
                    refine wpE_seq (x := c_towpathlaw08_ChainThins_81) (y := c_towpathlaw08_ChainThins_83) (by kernel_rfl) ?_
                    refine wpE_region (id := 19) (ops := r_towpathlaw08_ChainThins_81) (by kernel_rfl) ?_
                    refine reg_run [.plain, .plain] 2 [(16, [], Value.pointer (some ⟨b_, 0, none⟩)), (17, [], Value.bool ok), (18, [], Value.int .i64 g), (111, [], Value.slice x.ptr x.len x.cap), (112, [], Value.int .i64 at_)] (by kernel_rfl) (by kernel_rfl) ?_
                    refine reg_enter (op := (Go.Op.call (Go.Call.mk (Go.Callee.value (Go.Operand.func 13)) #[(Go.Operand.tmp 111), (Go.Operand.tmp 112)] #[22, 3]))) (ty := 33) (dst := some 113) 13 #[Value.slice x.ptr x.len x.cap, Value.int .i64 at_] (by kernel_rfl) (fun ww => by kernel_rfl) (Calls.mono h ?_)
                    rintro _ w13 ⟨v113, is, h_, rfl, h⟩
                    refine ⟨_, rfl, ?_⟩
                    refine reg_run [.plain, .plain, .plain, .plain] 7 [(16, [], Value.pointer (some ⟨b_, 0, none⟩)), (17, [], Value.bool ok), (18, [], Value.int .i64 g), (114, [], Value.agg #[Value.int .i64 v113.Number, Value.string v113.Val, Value.bool v113.Drop]), (115, [], Value.bool is), (116, [], Value.int .i64 h_)] (by kernel_rfl) (by kernel_rfl) ?_
                    refine reg_new (op := (Go.Op.alloc 30)) (ty := 0) (dst := some 19) (fun bb => Value.pointer (some ⟨bb, 0, none⟩)) (Obj.cells ([Value.int .i64 0, Value.string ByteArray.empty, Value.bool false]).toArray ty_api_Version (0, 0)) (by kernel_rfl) (by kernel_rfl) (fun b_1 w14 hb hw => ?_)
                    replace h := h b_1 w14 hb hw
                    clear hb hw
                    refine reg_run [] 8 [(16, [], Value.pointer (some ⟨b_, 0, none⟩)), (17, [], Value.bool ok), (18, [], Value.int .i64 g), (19, [], Value.pointer (some ⟨b_1, 0, none⟩)), (114, [], Value.agg #[Value.int .i64 v113.Number, Value.string v113.Val, Value.bool v113.Drop]), (115, [], Value.bool is), (116, [], Value.int .i64 h_)] (by kernel_rfl) (by kernel_rfl) ?_
                    obtain ⟨hc, h⟩ := h
                    refine reg_store (t := 30) (a := (Go.Operand.tmp 19)) (x := (Go.Operand.tmp 114)) (b := b_1) (o := 0) (ty := 0) (dst := none) [Value.int .i64 v113.Number, Value.string v113.Val, Value.bool v113.Drop] (by kernel_rfl) (by kernel_rfl) (by kernel_rfl) (k := 3) (by kernel_rfl) (by kernel_rfl) (by kernel_rfl) hc (fun w15 hw => ?_)
                    replace h := h w15 hw
                    clear hw
                    refine reg_run [.plain, .plain] 11 [(16, [], Value.pointer (some ⟨b_, 0, none⟩)), (17, [], Value.bool ok), (18, [], Value.int .i64 g), (19, [], Value.pointer (some ⟨b_1, 0, none⟩)), (20, [], Value.bool is), (21, [], Value.int .i64 h_)] (by kernel_rfl) (by kernel_rfl) ?_
                    refine reg_end [(16, Value.pointer (some ⟨b_, 0, none⟩)), (17, Value.bool ok), (18, Value.int .i64 g), (19, Value.pointer (some ⟨b_1, 0, none⟩)), (20, Value.bool is), (21, Value.int .i64 h_)] (by kernel_rfl) (by kernel_rfl) ?_
                    change WpE _ _ c_towpathlaw08_ChainThins_83 _ _ _
                    refine wpE_seq (x := c_towpathlaw08_ChainThins_84) (y := c_towpathlaw08_ChainThins_86) (by kernel_rfl) ?_
                    refine wpE_region (id := 20) (ops := r_towpathlaw08_ChainThins_84) (by kernel_rfl) ?_
                    refine reg_run [.plain, .plain, .plain, .plain, .plain, .pick, .plain, .plain, .plain, .plain, .pick, .plain] 12 [(16, [], Value.pointer (some ⟨b_, 0, none⟩)), (19, [], Value.pointer (some ⟨b_1, 0, none⟩)), (128, [], Value.bool (((g == 0) && (h_ == 0)) && (ok == is)))] (by kernel_rfl) (by kernel_rfl) ?_
                    refine reg_split 128 (((g == 0) && (h_ == 0)) && (ok == is)) (by kernel_rfl) (fun hb => ?_) (fun hb => ?_)
                    · replace h := h.1 hb
                      refine reg_run [] 12 [(16, [], Value.pointer (some ⟨b_, 0, none⟩)), (19, [], Value.pointer (some ⟨b_1, 0, none⟩)), (128, [], Value.bool true)] (by kernel_rfl) (by kernel_rfl) ?_
                      refine reg_run [] 12 [(16, [], Value.pointer (some ⟨b_, 0, none⟩)), (19, [], Value.pointer (some ⟨b_1, 0, none⟩)), (128, [], Value.bool true)] (by kernel_rfl) (by kernel_rfl) ?_
                      obtain ⟨v129, hc, h⟩ := h
                      refine reg_loadN (t := 30) (a := (Go.Operand.tmp 16)) (b := b_) (o := 0) (ty := 30) (dst := some 129) [Value.int .i64 v129.Number, Value.string v129.Val, Value.bool v129.Drop] (by kernel_rfl) (by kernel_rfl) (by kernel_rfl) (k := 3) (by kernel_rfl) (by kernel_rfl) hc ?_
                      refine reg_run [] 13 [(19, [], Value.pointer (some ⟨b_1, 0, none⟩)), (128, [], Value.bool true), (129, [], Value.agg #[Value.int .i64 v129.Number, Value.string v129.Val, Value.bool v129.Drop])] (by kernel_rfl) (by kernel_rfl) ?_
                      obtain ⟨v130, hc, h⟩ := h
                      refine reg_loadN (t := 30) (a := (Go.Operand.tmp 19)) (b := b_1) (o := 0) (ty := 30) (dst := some 130) [Value.int .i64 v130.Number, Value.string v130.Val, Value.bool v130.Drop] (by kernel_rfl) (by kernel_rfl) (by kernel_rfl) (k := 3) (by kernel_rfl) (by kernel_rfl) hc ?_
                      refine reg_run [] 14 [(128, [], Value.bool true), (129, [], Value.agg #[Value.int .i64 v129.Number, Value.string v129.Val, Value.bool v129.Drop]), (130, [], Value.agg #[Value.int .i64 v130.Number, Value.string v130.Val, Value.bool v130.Drop])] (by kernel_rfl) (by kernel_rfl) ?_
                      refine reg_val (op := (Go.Op.binOp Go.BinOp.eql 30 (Go.Operand.tmp 129) (Go.Operand.tmp 130) 30)) (ty := 4) (dst := some 131) (Value.bool (((v129.Number == v130.Number) && (v129.Val == v130.Val)) && (v129.Drop == v130.Drop))) (by kernel_rfl) (fun ww => run_struct_eql (xs := [Value.int .i64 v129.Number, Value.string v129.Val, Value.bool v129.Drop]) (ys := [Value.int .i64 v130.Number, Value.string v130.Val, Value.bool v130.Drop]) (by kernel_rfl) (by kernel_rfl) (by kernel_rfl) (by kernel_rfl) (by kernel_rfl) ww) ?_
                      refine reg_run [.plain, .plain] 17 [(6, [], Value.bool (((v129.Number == v130.Number) && (v129.Val == v130.Val)) && (v129.Drop == v130.Drop)))] (by kernel_rfl) (by kernel_rfl) ?_
                      refine reg_end [(6, Value.bool (((v129.Number == v130.Number) && (v129.Val == v130.Val)) && (v129.Drop == v130.Drop)))] (by kernel_rfl) (by kernel_rfl) ?_
                      change WpE _ _ c_towpathlaw08_ChainThins_86 _ _ _
                      refine wpE_ret (by kernel_rfl) ?_
                      repeat (first | refine seqQ_ret ?_ | refine blockQ_ret ?_ | refine loopQ_ret ?_ | refine cutQ_ret ?_)
                      exact retS (rs := [(Go.ResultVar.tmp 6)]) (v := Value.bool (((v129.Number == v130.Number) && (v129.Val == v130.Val)) && (v129.Drop == v130.Drop))) (by kernel_rfl) (⟨by kernel_rfl, trivial⟩) ⟨(((v129.Number == v130.Number) && (v129.Val == v130.Val)) && (v129.Drop == v130.Drop)), rfl, h⟩
                    · replace h := h.2 hb
                      refine reg_run [] 12 [(16, [], Value.pointer (some ⟨b_, 0, none⟩)), (19, [], Value.pointer (some ⟨b_1, 0, none⟩)), (128, [], Value.bool false)] (by kernel_rfl) (by kernel_rfl) ?_
                      refine reg_run [.skip, .skip, .skip, .plain, .plain] 17 [(6, [], Value.bool false)] (by kernel_rfl) (by kernel_rfl) ?_
                      refine reg_end [(6, Value.bool false)] (by kernel_rfl) (by kernel_rfl) ?_
                      change WpE _ _ c_towpathlaw08_ChainThins_86 _ _ _
                      refine wpE_ret (by kernel_rfl) ?_
                      repeat (first | refine seqQ_ret ?_ | refine blockQ_ret ?_ | refine loopQ_ret ?_ | refine cutQ_ret ?_)
                      exact retS (rs := [(Go.ResultVar.tmp 6)]) (v := Value.bool false) (by kernel_rfl) (⟨by kernel_rfl, trivial⟩) ⟨false, rfl, h⟩
  · rintro e w' ⟨v, rfl, r0, rfl, h⟩; exact ⟨r0, rfl, h⟩
end Go.Proofs.Ytcgfmkpddhhmgaa
