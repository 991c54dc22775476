/- WRITTEN BY PROGRAM (dec.py): for each Go function the clean formula F, the call's contract C, and the proof S that F gives C. -/
import Derived.Test.YtchcljkflklddaaRows
import Derived.Test.YtchcljkflklddaaGF
namespace Go.Proofs.Ytchcljkflklddaa
open Go
set_option linter.unusedVariables false

/-! ### towpath/towpathlaw13.ConfNames (function 8) -/
noncomputable def c_towpathlaw13_ConfNames_0 : Code := (Try.f8.body).getD Code.skip
noncomputable def c_towpathlaw13_ConfNames_1 : Code := Code.l c_towpathlaw13_ConfNames_0
noncomputable def r_towpathlaw13_ConfNames_1 : Array Oper := Code.ops c_towpathlaw13_ConfNames_1
noncomputable def c_towpathlaw13_ConfNames_3 : Code := Code.r c_towpathlaw13_ConfNames_0
noncomputable def c_towpathlaw13_ConfNames_4 : Code := Code.l c_towpathlaw13_ConfNames_3
noncomputable def r_towpathlaw13_ConfNames_4 : Array Oper := Code.ops c_towpathlaw13_ConfNames_4
noncomputable def c_towpathlaw13_ConfNames_6 : Code := Code.r c_towpathlaw13_ConfNames_3
noncomputable def c_towpathlaw13_ConfNames_7 : Code := Code.l c_towpathlaw13_ConfNames_6
noncomputable def c_towpathlaw13_ConfNames_8 : Code := Code.l c_towpathlaw13_ConfNames_7
noncomputable def r_towpathlaw13_ConfNames_8 : Array Oper := Code.ops c_towpathlaw13_ConfNames_8
noncomputable def c_towpathlaw13_ConfNames_10 : Code := Code.r c_towpathlaw13_ConfNames_7
noncomputable def c_towpathlaw13_ConfNames_11 : Code := Code.l c_towpathlaw13_ConfNames_10
noncomputable def c_towpathlaw13_ConfNames_12 : Code := Code.l c_towpathlaw13_ConfNames_11
noncomputable def r_towpathlaw13_ConfNames_12 : Array Oper := Code.ops c_towpathlaw13_ConfNames_12
noncomputable def c_towpathlaw13_ConfNames_14 : Code := Code.r c_towpathlaw13_ConfNames_11
noncomputable def c_towpathlaw13_ConfNames_15 : Code := Code.r c_towpathlaw13_ConfNames_10
noncomputable def c_towpathlaw13_ConfNames_16 : Code := Code.r c_towpathlaw13_ConfNames_6
noncomputable def c_towpathlaw13_ConfNames_17 : Code := Code.l c_towpathlaw13_ConfNames_16
noncomputable def r_towpathlaw13_ConfNames_17 : Array Oper := Code.ops c_towpathlaw13_ConfNames_17
noncomputable def c_towpathlaw13_ConfNames_19 : Code := Code.r c_towpathlaw13_ConfNames_16
noncomputable def c_towpathlaw13_ConfNames_20 : Code := Code.l c_towpathlaw13_ConfNames_19
noncomputable def c_towpathlaw13_ConfNames_21 : Code := Code.l c_towpathlaw13_ConfNames_20
noncomputable def r_towpathlaw13_ConfNames_21 : Array Oper := Code.ops c_towpathlaw13_ConfNames_21
noncomputable def c_towpathlaw13_ConfNames_23 : Code := Code.r c_towpathlaw13_ConfNames_20
noncomputable def c_towpathlaw13_ConfNames_24 : Code := Code.l c_towpathlaw13_ConfNames_23
noncomputable def c_towpathlaw13_ConfNames_25 : Code := Code.l c_towpathlaw13_ConfNames_24
noncomputable def c_towpathlaw13_ConfNames_26 : Code := Code.l c_towpathlaw13_ConfNames_25
noncomputable def c_towpathlaw13_ConfNames_27 : Code := Code.l c_towpathlaw13_ConfNames_26
noncomputable def r_towpathlaw13_ConfNames_27 : Array Oper := Code.ops c_towpathlaw13_ConfNames_27
noncomputable def c_towpathlaw13_ConfNames_29 : Code := Code.r c_towpathlaw13_ConfNames_26
noncomputable def c_towpathlaw13_ConfNames_30 : Code := Code.l c_towpathlaw13_ConfNames_29
noncomputable def c_towpathlaw13_ConfNames_31 : Code := Code.r c_towpathlaw13_ConfNames_29
noncomputable def c_towpathlaw13_ConfNames_32 : Code := Code.r c_towpathlaw13_ConfNames_25
noncomputable def c_towpathlaw13_ConfNames_33 : Code := Code.l c_towpathlaw13_ConfNames_32
noncomputable def c_towpathlaw13_ConfNames_34 : Code := Code.l c_towpathlaw13_ConfNames_33
noncomputable def c_towpathlaw13_ConfNames_35 : Code := Code.l c_towpathlaw13_ConfNames_34
noncomputable def r_towpathlaw13_ConfNames_35 : Array Oper := Code.ops c_towpathlaw13_ConfNames_35
noncomputable def c_towpathlaw13_ConfNames_37 : Code := Code.r c_towpathlaw13_ConfNames_34
noncomputable def c_towpathlaw13_ConfNames_38 : Code := Code.l c_towpathlaw13_ConfNames_37
noncomputable def c_towpathlaw13_ConfNames_39 : Code := Code.l c_towpathlaw13_ConfNames_38
noncomputable def r_towpathlaw13_ConfNames_39 : Array Oper := Code.ops c_towpathlaw13_ConfNames_39
noncomputable def c_towpathlaw13_ConfNames_41 : Code := Code.r c_towpathlaw13_ConfNames_38
noncomputable def c_towpathlaw13_ConfNames_42 : Code := Code.l c_towpathlaw13_ConfNames_41
noncomputable def c_towpathlaw13_ConfNames_43 : Code := Code.l c_towpathlaw13_ConfNames_42
noncomputable def r_towpathlaw13_ConfNames_43 : Array Oper := Code.ops c_towpathlaw13_ConfNames_43
noncomputable def c_towpathlaw13_ConfNames_45 : Code := Code.r c_towpathlaw13_ConfNames_42
noncomputable def c_towpathlaw13_ConfNames_46 : Code := Code.r c_towpathlaw13_ConfNames_41
noncomputable def c_towpathlaw13_ConfNames_47 : Code := Code.r c_towpathlaw13_ConfNames_37
noncomputable def c_towpathlaw13_ConfNames_48 : Code := Code.l c_towpathlaw13_ConfNames_47
noncomputable def r_towpathlaw13_ConfNames_48 : Array Oper := Code.ops c_towpathlaw13_ConfNames_48
noncomputable def c_towpathlaw13_ConfNames_50 : Code := Code.r c_towpathlaw13_ConfNames_47
noncomputable def c_towpathlaw13_ConfNames_51 : Code := Code.l c_towpathlaw13_ConfNames_50
noncomputable def c_towpathlaw13_ConfNames_52 : Code := Code.l c_towpathlaw13_ConfNames_51
noncomputable def r_towpathlaw13_ConfNames_52 : Array Oper := Code.ops c_towpathlaw13_ConfNames_52
noncomputable def c_towpathlaw13_ConfNames_54 : Code := Code.r c_towpathlaw13_ConfNames_51
noncomputable def c_towpathlaw13_ConfNames_55 : Code := Code.l c_towpathlaw13_ConfNames_54
noncomputable def c_towpathlaw13_ConfNames_56 : Code := Code.l c_towpathlaw13_ConfNames_55
noncomputable def r_towpathlaw13_ConfNames_56 : Array Oper := Code.ops c_towpathlaw13_ConfNames_56
noncomputable def c_towpathlaw13_ConfNames_58 : Code := Code.r c_towpathlaw13_ConfNames_55
noncomputable def c_towpathlaw13_ConfNames_59 : Code := Code.l c_towpathlaw13_ConfNames_58
noncomputable def r_towpathlaw13_ConfNames_59 : Array Oper := Code.ops c_towpathlaw13_ConfNames_59
noncomputable def c_towpathlaw13_ConfNames_61 : Code := Code.r c_towpathlaw13_ConfNames_58
noncomputable def c_towpathlaw13_ConfNames_62 : Code := Code.l c_towpathlaw13_ConfNames_61
noncomputable def c_towpathlaw13_ConfNames_63 : Code := Code.l c_towpathlaw13_ConfNames_62
noncomputable def r_towpathlaw13_ConfNames_63 : Array Oper := Code.ops c_towpathlaw13_ConfNames_63
noncomputable def c_towpathlaw13_ConfNames_65 : Code := Code.r c_towpathlaw13_ConfNames_62
noncomputable def c_towpathlaw13_ConfNames_66 : Code := Code.r c_towpathlaw13_ConfNames_61
noncomputable def c_towpathlaw13_ConfNames_67 : Code := Code.r c_towpathlaw13_ConfNames_54
noncomputable def c_towpathlaw13_ConfNames_68 : Code := Code.l c_towpathlaw13_ConfNames_67
noncomputable def r_towpathlaw13_ConfNames_68 : Array Oper := Code.ops c_towpathlaw13_ConfNames_68
noncomputable def c_towpathlaw13_ConfNames_70 : Code := Code.r c_towpathlaw13_ConfNames_67
noncomputable def c_towpathlaw13_ConfNames_71 : Code := Code.l c_towpathlaw13_ConfNames_70
noncomputable def c_towpathlaw13_ConfNames_72 : Code := Code.l c_towpathlaw13_ConfNames_71
noncomputable def c_towpathlaw13_ConfNames_73 : Code := Code.l c_towpathlaw13_ConfNames_72
noncomputable def r_towpathlaw13_ConfNames_73 : Array Oper := Code.ops c_towpathlaw13_ConfNames_73
noncomputable def c_towpathlaw13_ConfNames_75 : Code := Code.r c_towpathlaw13_ConfNames_72
noncomputable def c_towpathlaw13_ConfNames_76 : Code := Code.l c_towpathlaw13_ConfNames_75
noncomputable def c_towpathlaw13_ConfNames_77 : Code := Code.l c_towpathlaw13_ConfNames_76
noncomputable def r_towpathlaw13_ConfNames_77 : Array Oper := Code.ops c_towpathlaw13_ConfNames_77
noncomputable def c_towpathlaw13_ConfNames_79 : Code := Code.r c_towpathlaw13_ConfNames_76
noncomputable def c_towpathlaw13_ConfNames_80 : Code := Code.r c_towpathlaw13_ConfNames_75
noncomputable def c_towpathlaw13_ConfNames_81 : Code := Code.r c_towpathlaw13_ConfNames_71
noncomputable def r_towpathlaw13_ConfNames_81 : Array Oper := Code.ops c_towpathlaw13_ConfNames_81
noncomputable def c_towpathlaw13_ConfNames_83 : Code := Code.r c_towpathlaw13_ConfNames_70
noncomputable def c_towpathlaw13_ConfNames_84 : Code := Code.l c_towpathlaw13_ConfNames_83
noncomputable def r_towpathlaw13_ConfNames_84 : Array Oper := Code.ops c_towpathlaw13_ConfNames_84
noncomputable def c_towpathlaw13_ConfNames_86 : Code := Code.r c_towpathlaw13_ConfNames_83
noncomputable def c_towpathlaw13_ConfNames_87 : Code := Code.l c_towpathlaw13_ConfNames_86
noncomputable def r_towpathlaw13_ConfNames_87 : Array Oper := Code.ops c_towpathlaw13_ConfNames_87
noncomputable def c_towpathlaw13_ConfNames_89 : Code := Code.r c_towpathlaw13_ConfNames_86
noncomputable def c_towpathlaw13_ConfNames_90 : Code := Code.l c_towpathlaw13_ConfNames_89
noncomputable def c_towpathlaw13_ConfNames_91 : Code := Code.l c_towpathlaw13_ConfNames_90
noncomputable def r_towpathlaw13_ConfNames_91 : Array Oper := Code.ops c_towpathlaw13_ConfNames_91
noncomputable def c_towpathlaw13_ConfNames_93 : Code := Code.r c_towpathlaw13_ConfNames_90
noncomputable def c_towpathlaw13_ConfNames_94 : Code := Code.r c_towpathlaw13_ConfNames_89
noncomputable def c_towpathlaw13_ConfNames_95 : Code := Code.r c_towpathlaw13_ConfNames_32
noncomputable def r_towpathlaw13_ConfNames_95 : Array Oper := Code.ops c_towpathlaw13_ConfNames_95
noncomputable def c_towpathlaw13_ConfNames_97 : Code := Code.r c_towpathlaw13_ConfNames_19
noncomputable def c_towpathlaw13_ConfNames_98 : Code := Code.l c_towpathlaw13_ConfNames_97
noncomputable def r_towpathlaw13_ConfNames_98 : Array Oper := Code.ops c_towpathlaw13_ConfNames_98
noncomputable def c_towpathlaw13_ConfNames_100 : Code := Code.r c_towpathlaw13_ConfNames_97
noncomputable def c_towpathlaw13_ConfNames_101 : Code := Code.l c_towpathlaw13_ConfNames_100
noncomputable def r_towpathlaw13_ConfNames_101 : Array Oper := Code.ops c_towpathlaw13_ConfNames_101
noncomputable def c_towpathlaw13_ConfNames_103 : Code := Code.r c_towpathlaw13_ConfNames_100

set_option maxRecDepth 100000 in
set_option maxHeartbeats 4000000 in
theorem S_towpathlaw13_ConfNames {c : T_api_Config} {w : World} {R : Bool → World → Prop} (h : F_towpathlaw13_ConfNames c R w) : C_towpathlaw13_ConfNames c w R := by
  unfold F_towpathlaw13_ConfNames at h
  unfold C_towpathlaw13_ConfNames
  refine Calls.mono (calls_of_wpE (args := [Value.agg #[Value.int .i64 c.Lanes, Value.int .i64 c.Shards, Value.int .i64 c.Window, Value.int .i64 c.Queue]]) (R := fun v w' => ∃ (r0 : Bool), v = Value.bool r0 ∧ R r0 w') Try.func8 (c := c_towpathlaw13_ConfNames_0) (by kernel_rfl) 124 (by kernel_rfl) (by kernel_rfl) [(0, Value.agg #[Value.int .i64 c.Lanes, Value.int .i64 c.Shards, Value.int .i64 c.Window, Value.int .i64 c.Queue])] (by kernel_rfl) ?_) ?_
  · refine wpE_seq (x := c_towpathlaw13_ConfNames_1) (y := c_towpathlaw13_ConfNames_3) (by kernel_rfl) ?_
    refine wpE_region (id := 0) (ops := r_towpathlaw13_ConfNames_1) (by kernel_rfl) ?_
    refine reg_run [] 0 [(0, [], Value.agg #[Value.int .i64 c.Lanes, Value.int .i64 c.Shards, Value.int .i64 c.Window, Value.int .i64 c.Queue])] (by kernel_rfl) (by kernel_rfl) ?_
    refine reg_new (op := (Go.Op.box 23 (Go.Operand.tmp 0))) (ty := 0) (dst := some 1) (fun bb => Value.pointer (some ⟨bb, 0, none⟩)) (Obj.cells ([Value.int .i64 c.Lanes, Value.int .i64 c.Shards, Value.int .i64 c.Window, Value.int .i64 c.Queue]).toArray ty_api_Config (0, 0)) (by kernel_rfl) (by kernel_rfl) (fun b_ w1 hb hw => ?_)
    replace h := h b_ w1 hb hw
    clear hb hw
    refine reg_run [.plain] 2 [(1, [], Value.pointer (some ⟨b_, 0, none⟩))] (by kernel_rfl) (by kernel_rfl) ?_
    refine reg_end [(1, Value.pointer (some ⟨b_, 0, none⟩))] (by kernel_rfl) (by kernel_rfl) ?_
    change WpE _ _ c_towpathlaw13_ConfNames_3 _ _ _
    refine wpE_seq (x := c_towpathlaw13_ConfNames_4) (y := c_towpathlaw13_ConfNames_6) (by kernel_rfl) ?_
    refine wpE_region (id := 1) (ops := r_towpathlaw13_ConfNames_4) (by kernel_rfl) ?_
    refine reg_run [] 0 [(1, [], Value.pointer (some ⟨b_, 0, none⟩))] (by kernel_rfl) (by kernel_rfl) ?_
    obtain ⟨v16, hc, h⟩ := h
    refine reg_loadN (t := 23) (a := (Go.Operand.tmp 1)) (b := b_) (o := 0) (ty := 23) (dst := some 16) [Value.int .i64 v16.Lanes, Value.int .i64 v16.Shards, Value.int .i64 v16.Window, Value.int .i64 v16.Queue] (by kernel_rfl) (by kernel_rfl) (by kernel_rfl) (k := 4) (by kernel_rfl) (by kernel_rfl) hc ?_
    refine reg_run [] 1 [(1, [], Value.pointer (some ⟨b_, 0, none⟩)), (16, [], Value.agg #[Value.int .i64 v16.Lanes, Value.int .i64 v16.Shards, Value.int .i64 v16.Window, Value.int .i64 v16.Queue])] (by kernel_rfl) (by kernel_rfl) ?_
    refine reg_enter (op := (Go.Op.call (Go.Call.mk (Go.Callee.value (Go.Operand.func 17)) #[(Go.Operand.tmp 16)] #[23]))) (ty := 26) (dst := some 17) 17 #[Value.agg #[Value.int .i64 v16.Lanes, Value.int .i64 v16.Shards, Value.int .i64 v16.Window, Value.int .i64 v16.Queue]] (by kernel_rfl) (fun ww => by kernel_rfl) (Calls.mono h ?_)
    rintro _ w2 ⟨n_, e, rfl, h⟩
    refine ⟨_, rfl, ?_⟩
    refine reg_run [.plain, .plain, .plain, .plain, .plain] 7 [(1, [], Value.pointer (some ⟨b_, 0, none⟩)), (3, [], Value.int .i64 n_), (4, [], Value.int .i64 e)] (by kernel_rfl) (by kernel_rfl) ?_
    refine reg_end [(1, Value.pointer (some ⟨b_, 0, none⟩)), (3, Value.int .i64 n_), (4, Value.int .i64 e)] (by kernel_rfl) (by kernel_rfl) ?_
    change WpE _ _ c_towpathlaw13_ConfNames_6 _ _ _
    refine wpE_seq (x := c_towpathlaw13_ConfNames_7) (y := c_towpathlaw13_ConfNames_16) (by kernel_rfl) ?_
    refine wpE_seq (x := c_towpathlaw13_ConfNames_8) (y := c_towpathlaw13_ConfNames_10) (by kernel_rfl) ?_
    refine wpE_region (id := 2) (ops := r_towpathlaw13_ConfNames_8) (by kernel_rfl) ?_
    refine reg_run [] 0 [(1, [], Value.pointer (some ⟨b_, 0, none⟩)), (3, [], Value.int .i64 n_), (4, [], Value.int .i64 e)] (by kernel_rfl) (by kernel_rfl) ?_
    refine reg_enter (op := (Go.Op.call (Go.Call.mk (Go.Callee.value (Go.Operand.func 36)) #[] #[]))) (ty := 4) (dst := some 20) 36 #[] (by kernel_rfl) (fun ww => by kernel_rfl) (Calls.mono h ?_)
    rintro _ w3 ⟨v20, rfl, h⟩
    refine ⟨_, rfl, ?_⟩
    refine reg_run [.plain, .plain, .plain, .plain, .pick] 6 [(1, [], Value.pointer (some ⟨b_, 0, none⟩)), (3, [], Value.int .i64 n_), (4, [], Value.int .i64 e), (25, [], Value.bool ((!v20) || (e != 0)))] (by kernel_rfl) (by kernel_rfl) ?_
    refine reg_end [(1, Value.pointer (some ⟨b_, 0, none⟩)), (3, Value.int .i64 n_), (4, Value.int .i64 e), (25, Value.bool ((!v20) || (e != 0)))] (by kernel_rfl) (by kernel_rfl) ?_
    change WpE _ _ c_towpathlaw13_ConfNames_10 _ _ _
    refine wpE_cond (o := (Operand.tmp 25)) (b := ((!v20) || (e != 0))) (x := c_towpathlaw13_ConfNames_11) (y := c_towpathlaw13_ConfNames_15) (by kernel_rfl) (by kernel_rfl) (fun hb => ?_) (fun hb => ?_)
    · replace h := h.1 hb
      refine wpE_seq (x := c_towpathlaw13_ConfNames_12) (y := c_towpathlaw13_ConfNames_14) (by kernel_rfl) ?_
      refine wpE_region (id := 3) (ops := r_towpathlaw13_ConfNames_12) (by kernel_rfl) ?_
      refine reg_run [] 0 [(1, [], Value.pointer (some ⟨b_, 0, none⟩)), (3, [], Value.int .i64 n_), (4, [], Value.int .i64 e)] (by kernel_rfl) (by kernel_rfl) ?_
      refine reg_enter (op := (Go.Op.call (Go.Call.mk (Go.Callee.value (Go.Operand.func 36)) #[] #[]))) (ty := 4) (dst := some 26) 36 #[] (by kernel_rfl) (fun ww => by kernel_rfl) (Calls.mono h ?_)
      rintro _ w4 ⟨v26, rfl, h⟩
      refine ⟨_, rfl, ?_⟩
      refine reg_run [.plain, .plain, .plain, .pick, .plain, .plain, .plain, .pick, .plain] 10 [(1, [], Value.pointer (some ⟨b_, 0, none⟩)), (35, [], Value.bool ((v26 && (e == 7)) && (n_ == 0)))] (by kernel_rfl) (by kernel_rfl) ?_
      refine reg_split 35 ((v26 && (e == 7)) && (n_ == 0)) (by kernel_rfl) (fun hb => ?_) (fun hb => ?_)
      · replace h := h.1 hb
        refine reg_run [] 10 [(1, [], Value.pointer (some ⟨b_, 0, none⟩)), (35, [], Value.bool true)] (by kernel_rfl) (by kernel_rfl) ?_
        refine reg_run [] 10 [(1, [], Value.pointer (some ⟨b_, 0, none⟩)), (35, [], Value.bool true)] (by kernel_rfl) (by kernel_rfl) ?_
        obtain ⟨v36, hc, h⟩ := h
        refine reg_loadN (t := 23) (a := (Go.Operand.tmp 1)) (b := b_) (o := 0) (ty := 23) (dst := some 36) [Value.int .i64 v36.Lanes, Value.int .i64 v36.Shards, Value.int .i64 v36.Window, Value.int .i64 v36.Queue] (by kernel_rfl) (by kernel_rfl) (by kernel_rfl) (k := 4) (by kernel_rfl) (by kernel_rfl) hc ?_
        refine reg_run [] 11 [(35, [], Value.bool true), (36, [], Value.agg #[Value.int .i64 v36.Lanes, Value.int .i64 v36.Shards, Value.int .i64 v36.Window, Value.int .i64 v36.Queue])] (by kernel_rfl) (by kernel_rfl) ?_
        refine reg_enter (op := (Go.Op.call (Go.Call.mk (Go.Callee.value (Go.Operand.func 15)) #[(Go.Operand.tmp 36)] #[23]))) (ty := 25) (dst := some 37) 15 #[Value.agg #[Value.int .i64 v36.Lanes, Value.int .i64 v36.Shards, Value.int .i64 v36.Window, Value.int .i64 v36.Queue]] (by kernel_rfl) (fun ww => by kernel_rfl) (Calls.mono h ?_)
        rintro _ w5 ⟨v37, rfl, h⟩
        refine ⟨_, rfl, ?_⟩
        refine reg_run [.sure, .plain, .plain] 15 [(2, [], Value.bool (v37 == 7))] (by kernel_rfl) (by kernel_rfl) ?_
        refine reg_end [(2, Value.bool (v37 == 7))] (by kernel_rfl) (by kernel_rfl) ?_
        change WpE _ _ c_towpathlaw13_ConfNames_14 _ _ _
        refine wpE_ret (by kernel_rfl) ?_
        repeat (first | refine seqQ_ret ?_ | refine blockQ_ret ?_ | refine loopQ_ret ?_ | refine cutQ_ret ?_)
        exact retS (rs := [(Go.ResultVar.tmp 2)]) (v := Value.bool (v37 == 7)) (by kernel_rfl) (⟨by kernel_rfl, trivial⟩) ⟨(v37 == 7), rfl, h⟩
      · replace h := h.2 hb
        refine reg_run [] 10 [(1, [], Value.pointer (some ⟨b_, 0, none⟩)), (35, [], Value.bool false)] (by kernel_rfl) (by kernel_rfl) ?_
        refine reg_run [.skip, .skip, .skip, .plain, .plain] 15 [(2, [], Value.bool false)] (by kernel_rfl) (by kernel_rfl) ?_
        refine reg_end [(2, Value.bool false)] (by kernel_rfl) (by kernel_rfl) ?_
        change WpE _ _ c_towpathlaw13_ConfNames_14 _ _ _
        refine wpE_ret (by kernel_rfl) ?_
        repeat (first | refine seqQ_ret ?_ | refine blockQ_ret ?_ | refine loopQ_ret ?_ | refine cutQ_ret ?_)
        exact retS (rs := [(Go.ResultVar.tmp 2)]) (v := Value.bool false) (by kernel_rfl) (⟨by kernel_rfl, trivial⟩) ⟨false, rfl, h⟩
    · replace h := h.2 hb
      refine wpE_skip (by kernel_rfl) ?_
      change WpE _ _ c_towpathlaw13_ConfNames_16 _ _ _
      refine wpE_seq (x := c_towpathlaw13_ConfNames_17) (y := c_towpathlaw13_ConfNames_19) (by kernel_rfl) ?_
      refine wpE_region (id := 4) (ops := r_towpathlaw13_ConfNames_17) (by kernel_rfl) ?_
      refine reg_run [.plain, .plain, .plain] 3 [(1, [], Value.pointer (some ⟨b_, 0, none⟩)), (3, [], Value.int .i64 n_), (5, [], Value.int .i64 0), (6, [], Value.int .i64 0), (7, [], Value.int .i64 0)] (by kernel_rfl) (by kernel_rfl) ?_
      refine reg_end [(1, Value.pointer (some ⟨b_, 0, none⟩)), (3, Value.int .i64 n_), (5, Value.int .i64 0), (6, Value.int .i64 0), (7, Value.int .i64 0)] (by kernel_rfl) (by kernel_rfl) ?_
      change WpE _ _ c_towpathlaw13_ConfNames_19 _ _ _
      refine wpE_seq (x := c_towpathlaw13_ConfNames_20) (y := c_towpathlaw13_ConfNames_97) (by kernel_rfl) ?_
      refine wpE_seq (x := c_towpathlaw13_ConfNames_21) (y := c_towpathlaw13_ConfNames_23) (by kernel_rfl) ?_
      refine wpE_region (id := 5) (ops := r_towpathlaw13_ConfNames_21) (by kernel_rfl) ?_
      refine reg_run [.plain] 1 [(1, [], Value.pointer (some ⟨b_, 0, none⟩)), (3, [], Value.int .i64 n_), (5, [], Value.int .i64 0), (6, [], Value.int .i64 0), (7, [], Value.int .i64 0), (8, [], Value.int .i64 0)] (by kernel_rfl) (by kernel_rfl) ?_
      refine reg_end [(1, Value.pointer (some ⟨b_, 0, none⟩)), (3, Value.int .i64 n_), (5, Value.int .i64 0), (6, Value.int .i64 0), (7, Value.int .i64 0), (8, Value.int .i64 0)] (by kernel_rfl) (by kernel_rfl) ?_
      change WpE _ _ c_towpathlaw13_ConfNames_23 _ _ _
      refine wpE_block (id := 0) (x := c_towpathlaw13_ConfNames_24) (by kernel_rfl) ?_
      obtain ⟨I, μ, h0, hr⟩ := h
      refine wpE_loop (x := c_towpathlaw13_ConfNames_25) (by kernel_rfl) (fun m l w => ∃ (lanes : Int) (owners : Int) (others : Int) (i : Int), l = [(1, Value.pointer (some ⟨b_, 0, none⟩)), (3, Value.int .i64 n_), (5, Value.int .i64 lanes), (6, Value.int .i64 owners), (7, Value.int .i64 others), (8, Value.int .i64 i)] ∧ I lanes owners others i w ∧ μ lanes owners others i w = m) (l' := [(1, Value.pointer (some ⟨b_, 0, none⟩)), (3, Value.int .i64 n_), (5, Value.int .i64 0), (6, Value.int .i64 0), (7, Value.int .i64 0), (8, Value.int .i64 0)]) (Sub.mk (by kernel_rfl)) ⟨0, 0, 0, 0, rfl, h0, rfl⟩ ?_
      rintro _ _ w6 ⟨lanes, owners, others, i, rfl, hI, rfl⟩
      obtain ⟨again_, again__h, h⟩ : ∃ again_ : Int → Int → Int → Int → World → Prop, (∀ lanes' owners' others' i' w', again_ lanes' owners' others' i' w' → I lanes' owners' others' i' w' ∧ μ lanes' owners' others' i' w' < μ lanes owners others i w6) ∧ F_towpathlaw13_ConfNames_L0 R b_ n_ again_ lanes owners others i w6 := ⟨_, fun _ _ _ _ _ h => h, hr lanes owners others i w6 hI⟩
      clear h0 hI
      unfold F_towpathlaw13_ConfNames_L0 at h
      refine wpE_seq (x := c_towpathlaw13_ConfNames_26) (y := c_towpathlaw13_ConfNames_32) (by kernel_rfl) ?_
      refine wpE_seq (x := c_towpathlaw13_ConfNames_27) (y := c_towpathlaw13_ConfNames_29) (by kernel_rfl) ?_
      refine wpE_region (id := 6) (ops := r_towpathlaw13_ConfNames_27) (by kernel_rfl) ?_
      refine reg_run [.plain, .plain, .plain] 3 [(1, [], Value.pointer (some ⟨b_, 0, none⟩)), (3, [], Value.int .i64 n_), (5, [], Value.int .i64 lanes), (6, [], Value.int .i64 owners), (7, [], Value.int .i64 others), (8, [], Value.int .i64 i), (42, [], Value.bool (decide (i < n_)))] (by kernel_rfl) (by kernel_rfl) ?_
      refine reg_end [(1, Value.pointer (some ⟨b_, 0, none⟩)), (3, Value.int .i64 n_), (5, Value.int .i64 lanes), (6, Value.int .i64 owners), (7, Value.int .i64 others), (8, Value.int .i64 i), (42, Value.bool (decide (i < n_)))] (by kernel_rfl) (by kernel_rfl) ?_
      change WpE _ _ c_towpathlaw13_ConfNames_29 _ _ _
      refine wpE_cond (o := (Operand.tmp 42)) (b := (decide (i < n_))) (x := c_towpathlaw13_ConfNames_30) (y := c_towpathlaw13_ConfNames_31) (by kernel_rfl) (by kernel_rfl) (fun hb => ?_) (fun hb => ?_)
      · replace h := h.1 hb
        refine wpE_skip (by kernel_rfl) ?_
        change WpE _ _ c_towpathlaw13_ConfNames_32 _ _ _
        refine wpE_seq_cut (x := c_towpathlaw13_ConfNames_33) (y := c_towpathlaw13_ConfNames_95) (by kernel_rfl) (fun l w => ∃ (lanes1 : Int) (owners1 : Int) (others1 : Int), l = [(1, Value.pointer (some ⟨b_, 0, none⟩)), (3, Value.int .i64 n_), (5, Value.int .i64 lanes1), (6, Value.int .i64 owners1), (7, Value.int .i64 others1), (8, Value.int .i64 i)] ∧ F_towpathlaw13_ConfNames_k1 i again_ lanes1 owners1 others1 w) ?_ ?_
        · refine wpE_block (id := 1) (x := c_towpathlaw13_ConfNames_34) (by kernel_rfl) ?_
          refine wpE_seq (x := c_towpathlaw13_ConfNames_35) (y := c_towpathlaw13_ConfNames_37) (by kernel_rfl) ?_
          refine wpE_region (id := 8) (ops := r_towpathlaw13_ConfNames_35) (by kernel_rfl) ?_
          refine reg_run [] 0 [(1, [], Value.pointer (some ⟨b_, 0, none⟩)), (3, [], Value.int .i64 n_), (5, [], Value.int .i64 lanes), (6, [], Value.int .i64 owners), (7, [], Value.int .i64 others), (8, [], Value.int .i64 i)] (by kernel_rfl) (by kernel_rfl) ?_
          obtain ⟨v46, hc, h⟩ := h
          refine reg_loadN (t := 23) (a := (Go.Operand.tmp 1)) (b := b_) (o := 0) (ty := 23) (dst := some 46) [Value.int .i64 v46.Lanes, Value.int .i64 v46.Shards, Value.int .i64 v46.Window, Value.int .i64 v46.Queue] (by kernel_rfl) (by kernel_rfl) (by kernel_rfl) (k := 4) (by kernel_rfl) (by kernel_rfl) hc ?_
          refine reg_run [.plain] 2 [(1, [], Value.pointer (some ⟨b_, 0, none⟩)), (3, [], Value.int .i64 n_), (5, [], Value.int .i64 lanes), (6, [], Value.int .i64 owners), (7, [], Value.int .i64 others), (8, [], Value.int .i64 i), (46, [], Value.agg #[Value.int .i64 v46.Lanes, Value.int .i64 v46.Shards, Value.int .i64 v46.Window, Value.int .i64 v46.Queue]), (47, [], Value.int .i64 i)] (by kernel_rfl) (by kernel_rfl) ?_
          refine reg_enter (op := (Go.Op.call (Go.Call.mk (Go.Callee.value (Go.Operand.func 19)) #[(Go.Operand.tmp 46), (Go.Operand.tmp 47)] #[23, 3]))) (ty := 31) (dst := some 48) 19 #[Value.agg #[Value.int .i64 v46.Lanes, Value.int .i64 v46.Shards, Value.int .i64 v46.Window, Value.int .i64 v46.Queue], Value.int .i64 i] (by kernel_rfl) (fun ww => by kernel_rfl) (Calls.mono h ?_)
          rintro _ w8 ⟨s, k, f, rfl, h⟩
          refine ⟨_, rfl, ?_⟩
          refine reg_run [.plain, .plain, .plain, .plain, .plain, .plain, .plain] 10 [(1, [], Value.pointer (some ⟨b_, 0, none⟩)), (3, [], Value.int .i64 n_), (5, [], Value.int .i64 lanes), (6, [], Value.int .i64 owners), (7, [], Value.int .i64 others), (8, [], Value.int .i64 i), (9, [], Value.string s), (10, [], Value.int .i64 k), (11, [], Value.int .i64 f)] (by kernel_rfl) (by kernel_rfl) ?_
          refine reg_end [(1, Value.pointer (some ⟨b_, 0, none⟩)), (3, Value.int .i64 n_), (5, Value.int .i64 lanes), (6, Value.int .i64 owners), (7, Value.int .i64 others), (8, Value.int .i64 i), (9, Value.string s), (10, Value.int .i64 k), (11, Value.int .i64 f)] (by kernel_rfl) (by kernel_rfl) ?_
          change WpE _ _ c_towpathlaw13_ConfNames_37 _ _ _
          refine wpE_seq (x := c_towpathlaw13_ConfNames_38) (y := c_towpathlaw13_ConfNames_47) (by kernel_rfl) ?_
          refine wpE_seq (x := c_towpathlaw13_ConfNames_39) (y := c_towpathlaw13_ConfNames_41) (by kernel_rfl) ?_
          refine wpE_region (id := 9) (ops := r_towpathlaw13_ConfNames_39) (by kernel_rfl) ?_
          refine reg_run [.plain, .plain] 2 [(1, [], Value.pointer (some ⟨b_, 0, none⟩)), (3, [], Value.int .i64 n_), (5, [], Value.int .i64 lanes), (6, [], Value.int .i64 owners), (7, [], Value.int .i64 others), (8, [], Value.int .i64 i), (9, [], Value.string s), (10, [], Value.int .i64 k), (53, [], Value.bool (f != 0))] (by kernel_rfl) (by kernel_rfl) ?_
          refine reg_end [(1, Value.pointer (some ⟨b_, 0, none⟩)), (3, Value.int .i64 n_), (5, Value.int .i64 lanes), (6, Value.int .i64 owners), (7, Value.int .i64 others), (8, Value.int .i64 i), (9, Value.string s), (10, Value.int .i64 k), (53, Value.bool (f != 0))] (by kernel_rfl) (by kernel_rfl) ?_
          change WpE _ _ c_towpathlaw13_ConfNames_41 _ _ _
          refine wpE_cond (o := (Operand.tmp 53)) (b := (f != 0)) (x := c_towpathlaw13_ConfNames_42) (y := c_towpathlaw13_ConfNames_46) (by kernel_rfl) (by kernel_rfl) (fun hb => ?_) (fun hb => ?_)
          · replace h := h.1 hb
            refine wpE_seq (x := c_towpathlaw13_ConfNames_43) (y := c_towpathlaw13_ConfNames_45) (by kernel_rfl) ?_
            refine wpE_region (id := 10) (ops := r_towpathlaw13_ConfNames_43) (by kernel_rfl) ?_
            refine reg_run [.plain] 1 [(2, [], Value.bool false)] (by kernel_rfl) (by kernel_rfl) ?_
            refine reg_end [(2, Value.bool false)] (by kernel_rfl) (by kernel_rfl) ?_
            change WpE _ _ c_towpathlaw13_ConfNames_45 _ _ _
            refine wpE_ret (by kernel_rfl) ?_
            repeat (first | refine seqQ_ret ?_ | refine blockQ_ret ?_ | refine loopQ_ret ?_ | refine cutQ_ret ?_)
            exact retS (rs := [(Go.ResultVar.tmp 2)]) (v := Value.bool false) (by kernel_rfl) (⟨by kernel_rfl, trivial⟩) ⟨false, rfl, h⟩
          · replace h := h.2 hb
            refine wpE_skip (by kernel_rfl) ?_
            change WpE _ _ c_towpathlaw13_ConfNames_47 _ _ _
            refine wpE_seq (x := c_towpathlaw13_ConfNames_48) (y := c_towpathlaw13_ConfNames_50) (by kernel_rfl) ?_
            refine wpE_region (id := 11) (ops := r_towpathlaw13_ConfNames_48) (by kernel_rfl) ?_
            refine reg_run [.plain] 1 [(1, [], Value.pointer (some ⟨b_, 0, none⟩)), (3, [], Value.int .i64 n_), (5, [], Value.int .i64 lanes), (6, [], Value.int .i64 owners), (7, [], Value.int .i64 others), (8, [], Value.int .i64 i), (9, [], Value.string s), (10, [], Value.int .i64 k), (54, [], Value.string s)] (by kernel_rfl) (by kernel_rfl) ?_
            refine reg_end [(1, Value.pointer (some ⟨b_, 0, none⟩)), (3, Value.int .i64 n_), (5, Value.int .i64 lanes), (6, Value.int .i64 owners), (7, Value.int .i64 others), (8, Value.int .i64 i), (9, Value.string s), (10, Value.int .i64 k), (54, Value.string s)] (by kernel_rfl) (by kernel_rfl) ?_
            change WpE _ _ c_towpathlaw13_ConfNames_50 _ _ _
            refine wpE_block (id := 2) (x := c_towpathlaw13_ConfNames_51) (by kernel_rfl) ?_
            refine wpE_seq (x := c_towpathlaw13_ConfNames_52) (y := c_towpathlaw13_ConfNames_54) (by kernel_rfl) ?_
            refine wpE_region (id := 15) (ops := r_towpathlaw13_ConfNames_52) (by kernel_rfl) ?_
            refine reg_run [.plain, .plain] 2 [(1, [], Value.pointer (some ⟨b_, 0, none⟩)), (3, [], Value.int .i64 n_), (5, [], Value.int .i64 lanes), (6, [], Value.int .i64 owners), (7, [], Value.int .i64 others), (8, [], Value.int .i64 i), (9, [], Value.string s), (10, [], Value.int .i64 k), (54, [], Value.string s), (75, [], Value.bool (s.toList == (ByteArray.mk #[108, 97, 110, 101]).toList))] (by kernel_rfl) (by kernel_rfl) ?_
            refine reg_end [(1, Value.pointer (some ⟨b_, 0, none⟩)), (3, Value.int .i64 n_), (5, Value.int .i64 lanes), (6, Value.int .i64 owners), (7, Value.int .i64 others), (8, Value.int .i64 i), (9, Value.string s), (10, Value.int .i64 k), (54, Value.string s), (75, Value.bool (s.toList == (ByteArray.mk #[108, 97, 110, 101]).toList))] (by kernel_rfl) (by kernel_rfl) ?_
            change WpE _ _ c_towpathlaw13_ConfNames_54 _ _ _
            refine wpE_cond (o := (Operand.tmp 75)) (b := (s.toList == (ByteArray.mk #[108, 97, 110, 101]).toList)) (x := c_towpathlaw13_ConfNames_55) (y := c_towpathlaw13_ConfNames_67) (by kernel_rfl) (by kernel_rfl) (fun hb => ?_) (fun hb => ?_)
            · replace h := h.1 hb
              refine wpE_seq (x := c_towpathlaw13_ConfNames_56) (y := c_towpathlaw13_ConfNames_58) (by kernel_rfl) ?_
              refine wpE_region (id := 16) (ops := r_towpathlaw13_ConfNames_56) (by kernel_rfl) ?_
              refine reg_run [.plain, .plain, .plain] 3 [(1, [], Value.pointer (some ⟨b_, 0, none⟩)), (3, [], Value.int .i64 n_), (5, [], Value.int .i64 (IntKind.i64.wrap (lanes + 1))), (6, [], Value.int .i64 owners), (7, [], Value.int .i64 others), (8, [], Value.int .i64 i), (10, [], Value.int .i64 k)] (by kernel_rfl) (by kernel_rfl) ?_
              refine reg_end [(1, Value.pointer (some ⟨b_, 0, none⟩)), (3, Value.int .i64 n_), (5, Value.int .i64 (IntKind.i64.wrap (lanes + 1))), (6, Value.int .i64 owners), (7, Value.int .i64 others), (8, Value.int .i64 i), (10, Value.int .i64 k)] (by kernel_rfl) (by kernel_rfl) ?_
              change WpE _ _ c_towpathlaw13_ConfNames_58 _ _ _
              refine wpE_seq (x := c_towpathlaw13_ConfNames_59) (y := c_towpathlaw13_ConfNames_61) (by kernel_rfl) ?_
              refine wpE_region (id := 17) (ops := r_towpathlaw13_ConfNames_59) (by kernel_rfl) ?_
              refine reg_run [.plain, .plain, .plain] 3 [(1, [], Value.pointer (some ⟨b_, 0, none⟩)), (3, [], Value.int .i64 n_), (5, [], Value.int .i64 (IntKind.i64.wrap (lanes + 1))), (6, [], Value.int .i64 owners), (7, [], Value.int .i64 others), (8, [], Value.int .i64 i), (81, [], Value.bool (k != (IntKind.i64.wrap (lanes + 1))))] (by kernel_rfl) (by kernel_rfl) ?_
              refine reg_end [(1, Value.pointer (some ⟨b_, 0, none⟩)), (3, Value.int .i64 n_), (5, Value.int .i64 (IntKind.i64.wrap (lanes + 1))), (6, Value.int .i64 owners), (7, Value.int .i64 others), (8, Value.int .i64 i), (81, Value.bool (k != (IntKind.i64.wrap (lanes + 1))))] (by kernel_rfl) (by kernel_rfl) ?_
              change WpE _ _ c_towpathlaw13_ConfNames_61 _ _ _
              refine wpE_cond (o := (Operand.tmp 81)) (b := (k != (IntKind.i64.wrap (lanes + 1)))) (x := c_towpathlaw13_ConfNames_62) (y := c_towpathlaw13_ConfNames_66) (by kernel_rfl) (by kernel_rfl) (fun hb => ?_) (fun hb => ?_)
              · replace h := h.1 hb
                refine wpE_seq (x := c_towpathlaw13_ConfNames_63) (y := c_towpathlaw13_ConfNames_65) (by kernel_rfl) ?_
                refine wpE_region (id := 18) (ops := r_towpathlaw13_ConfNames_63) (by kernel_rfl) ?_
                refine reg_run [.plain] 1 [(2, [], Value.bool false)] (by kernel_rfl) (by kernel_rfl) ?_
                refine reg_end [(2, Value.bool false)] (by kernel_rfl) (by kernel_rfl) ?_
                change WpE _ _ c_towpathlaw13_ConfNames_65 _ _ _
                refine wpE_ret (by kernel_rfl) ?_
                repeat (first | refine seqQ_ret ?_ | refine blockQ_ret ?_ | refine loopQ_ret ?_ | refine cutQ_ret ?_)
                exact retS (rs := [(Go.ResultVar.tmp 2)]) (v := Value.bool false) (by kernel_rfl) (⟨by kernel_rfl, trivial⟩) ⟨false, rfl, h⟩
              · replace h := h.2 hb
                refine wpE_skip (by kernel_rfl) ?_
                exact ⟨[(1, Value.pointer (some ⟨b_, 0, none⟩)), (3, Value.int .i64 n_), (5, Value.int .i64 (IntKind.i64.wrap (lanes + 1))), (6, Value.int .i64 owners), (7, Value.int .i64 others), (8, Value.int .i64 i)], Sub.mk (by kernel_rfl), (IntKind.i64.wrap (lanes + 1)), owners, others, rfl, h⟩
            · replace h := h.2 hb
              refine wpE_seq (x := c_towpathlaw13_ConfNames_68) (y := c_towpathlaw13_ConfNames_70) (by kernel_rfl) ?_
              refine wpE_region (id := 19) (ops := r_towpathlaw13_ConfNames_68) (by kernel_rfl) ?_
              refine reg_run [.plain, .plain] 2 [(1, [], Value.pointer (some ⟨b_, 0, none⟩)), (3, [], Value.int .i64 n_), (5, [], Value.int .i64 lanes), (6, [], Value.int .i64 owners), (7, [], Value.int .i64 others), (8, [], Value.int .i64 i), (9, [], Value.string s), (10, [], Value.int .i64 k), (82, [], Value.bool (s.toList == (ByteArray.mk #[111, 119, 110, 101, 114]).toList))] (by kernel_rfl) (by kernel_rfl) ?_
              refine reg_end [(1, Value.pointer (some ⟨b_, 0, none⟩)), (3, Value.int .i64 n_), (5, Value.int .i64 lanes), (6, Value.int .i64 owners), (7, Value.int .i64 others), (8, Value.int .i64 i), (9, Value.string s), (10, Value.int .i64 k), (82, Value.bool (s.toList == (ByteArray.mk #[111, 119, 110, 101, 114]).toList))] (by kernel_rfl) (by kernel_rfl) ?_
              change WpE _ _ c_towpathlaw13_ConfNames_70 _ _ _
              refine wpE_cond (o := (Operand.tmp 82)) (b := (s.toList == (ByteArray.mk #[111, 119, 110, 101, 114]).toList)) (x := c_towpathlaw13_ConfNames_71) (y := c_towpathlaw13_ConfNames_83) (by kernel_rfl) (by kernel_rfl) (fun hb => ?_) (fun hb => ?_)
              · replace h := h.1 hb
                refine wpE_seq (x := c_towpathlaw13_ConfNames_72) (y := c_towpathlaw13_ConfNames_81) (by kernel_rfl) ?_
                refine wpE_seq (x := c_towpathlaw13_ConfNames_73) (y := c_towpathlaw13_ConfNames_75) (by kernel_rfl) ?_
                refine wpE_region (id := 20) (ops := r_towpathlaw13_ConfNames_73) (by kernel_rfl) ?_
                refine reg_run [.plain, .plain, .plain] 3 [(1, [], Value.pointer (some ⟨b_, 0, none⟩)), (3, [], Value.int .i64 n_), (5, [], Value.int .i64 lanes), (6, [], Value.int .i64 owners), (7, [], Value.int .i64 others), (8, [], Value.int .i64 i), (86, [], Value.bool (k != owners))] (by kernel_rfl) (by kernel_rfl) ?_
                refine reg_end [(1, Value.pointer (some ⟨b_, 0, none⟩)), (3, Value.int .i64 n_), (5, Value.int .i64 lanes), (6, Value.int .i64 owners), (7, Value.int .i64 others), (8, Value.int .i64 i), (86, Value.bool (k != owners))] (by kernel_rfl) (by kernel_rfl) ?_
                change WpE _ _ c_towpathlaw13_ConfNames_75 _ _ _
                refine wpE_cond (o := (Operand.tmp 86)) (b := (k != owners)) (x := c_towpathlaw13_ConfNames_76) (y := c_towpathlaw13_ConfNames_80) (by kernel_rfl) (by kernel_rfl) (fun hb => ?_) (fun hb => ?_)
                · replace h := h.1 hb
                  refine wpE_seq (x := c_towpathlaw13_ConfNames_77) (y := c_towpathlaw13_ConfNames_79) (by kernel_rfl) ?_
                  refine wpE_region (id := 21) (ops := r_towpathlaw13_ConfNames_77) (by kernel_rfl) ?_
                  refine reg_run [.plain] 1 [(2, [], Value.bool false)] (by kernel_rfl) (by kernel_rfl) ?_
                  refine reg_end [(2, Value.bool false)] (by kernel_rfl) (by kernel_rfl) ?_
                  change WpE _ _ c_towpathlaw13_ConfNames_79 _ _ _
                  refine wpE_ret (by kernel_rfl) ?_
                  repeat (first | refine seqQ_ret ?_ | refine blockQ_ret ?_ | refine loopQ_ret ?_ | refine cutQ_ret ?_)
                  exact retS (rs := [(Go.ResultVar.tmp 2)]) (v := Value.bool false) (by kernel_rfl) (⟨by kernel_rfl, trivial⟩) ⟨false, rfl, h⟩
                · replace h := h.2 hb
                  refine wpE_skip (by kernel_rfl) ?_
                  change WpE _ _ c_towpathlaw13_ConfNames_81 _ _ _
                  refine wpE_region (id := 22) (ops := r_towpathlaw13_ConfNames_81) (by kernel_rfl) ?_
                  refine reg_run [.plain, .plain, .plain] 3 [(1, [], Value.pointer (some ⟨b_, 0, none⟩)), (3, [], Value.int .i64 n_), (5, [], Value.int .i64 lanes), (6, [], Value.int .i64 (IntKind.i64.wrap (owners + 1))), (7, [], Value.int .i64 others), (8, [], Value.int .i64 i)] (by kernel_rfl) (by kernel_rfl) ?_
                  refine reg_end [(1, Value.pointer (some ⟨b_, 0, none⟩)), (3, Value.int .i64 n_), (5, Value.int .i64 lanes), (6, Value.int .i64 (IntKind.i64.wrap (owners + 1))), (7, Value.int .i64 others), (8, Value.int .i64 i)] (by kernel_rfl) (by kernel_rfl) ?_
                  exact ⟨[(1, Value.pointer (some ⟨b_, 0, none⟩)), (3, Value.int .i64 n_), (5, Value.int .i64 lanes), (6, Value.int .i64 (IntKind.i64.wrap (owners + 1))), (7, Value.int .i64 others), (8, Value.int .i64 i)], Sub.mk (by kernel_rfl), lanes, (IntKind.i64.wrap (owners + 1)), others, rfl, h⟩
              · replace h := h.2 hb
                refine wpE_seq (x := c_towpathlaw13_ConfNames_84) (y := c_towpathlaw13_ConfNames_86) (by kernel_rfl) ?_
                refine wpE_region (id := 12) (ops := r_towpathlaw13_ConfNames_84) (by kernel_rfl) ?_
                refine reg_run [.plain, .plain, .plain] 3 [(1, [], Value.pointer (some ⟨b_, 0, none⟩)), (3, [], Value.int .i64 n_), (5, [], Value.int .i64 lanes), (6, [], Value.int .i64 owners), (7, [], Value.int .i64 (IntKind.i64.wrap (others + 1))), (8, [], Value.int .i64 i), (9, [], Value.string s), (10, [], Value.int .i64 k)] (by kernel_rfl) (by kernel_rfl) ?_
                refine reg_end [(1, Value.pointer (some ⟨b_, 0, none⟩)), (3, Value.int .i64 n_), (5, Value.int .i64 lanes), (6, Value.int .i64 owners), (7, Value.int .i64 (IntKind.i64.wrap (others + 1))), (8, Value.int .i64 i), (9, Value.string s), (10, Value.int .i64 k)] (by kernel_rfl) (by kernel_rfl) ?_
                change WpE _ _ c_towpathlaw13_ConfNames_86 _ _ _
                refine wpE_seq (x := c_towpathlaw13_ConfNames_87) (y := c_towpathlaw13_ConfNames_89) (by kernel_rfl) ?_
                refine wpE_region (id := 13) (ops := r_towpathlaw13_ConfNames_87) (by kernel_rfl) ?_
                refine reg_run [.plain, .plain, .plain, .plain, .plain, .plain, .plain, .plain, .pick, .pick, .plain, .plain, .plain, .plain, .plain, .plain, .pick, .pick] 18 [(1, [], Value.pointer (some ⟨b_, 0, none⟩)), (3, [], Value.int .i64 n_), (5, [], Value.int .i64 lanes), (6, [], Value.int .i64 owners), (7, [], Value.int .i64 (IntKind.i64.wrap (others + 1))), (8, [], Value.int .i64 i), (74, [], Value.bool (((k != 0) || ((!(s.toList == (ByteArray.mk #[100, 105, 115, 112, 97, 116, 99, 104, 101, 114]).toList)) && (i == 0))) || ((!(s.toList == (ByteArray.mk #[103, 97, 116, 101]).toList)) && (decide (i > 0)))))] (by kernel_rfl) (by kernel_rfl) ?_
                refine reg_end [(1, Value.pointer (some ⟨b_, 0, none⟩)), (3, Value.int .i64 n_), (5, Value.int .i64 lanes), (6, Value.int .i64 owners), (7, Value.int .i64 (IntKind.i64.wrap (others + 1))), (8, Value.int .i64 i), (74, Value.bool (((k != 0) || ((!(s.toList == (ByteArray.mk #[100, 105, 115, 112, 97, 116, 99, 104, 101, 114]).toList)) && (i == 0))) || ((!(s.toList == (ByteArray.mk #[103, 97, 116, 101]).toList)) && (decide (i > 0)))))] (by kernel_rfl) (by kernel_rfl) ?_
                change WpE _ _ c_towpathlaw13_ConfNames_89 _ _ _
                refine wpE_cond (o := (Operand.tmp 74)) (b := (((k != 0) || ((!(s.toList == (ByteArray.mk #[100, 105, 115, 112, 97, 116, 99, 104, 101, 114]).toList)) && (i == 0))) || ((!(s.toList == (ByteArray.mk #[103, 97, 116, 101]).toList)) && (decide (i > 0))))) (x := c_towpathlaw13_ConfNames_90) (y := c_towpathlaw13_ConfNames_94) (by kernel_rfl) (by kernel_rfl) (fun hb => ?_) (fun hb => ?_)
                · replace h := h.1 hb
                  refine wpE_seq (x := c_towpathlaw13_ConfNames_91) (y := c_towpathlaw13_ConfNames_93) (by kernel_rfl) ?_
                  refine wpE_region (id := 14) (ops := r_towpathlaw13_ConfNames_91) (by kernel_rfl) ?_
                  refine reg_run [.plain] 1 [(2, [], Value.bool false)] (by kernel_rfl) (by kernel_rfl) ?_
                  refine reg_end [(2, Value.bool false)] (by kernel_rfl) (by kernel_rfl) ?_
                  change WpE _ _ c_towpathlaw13_ConfNames_93 _ _ _
                  refine wpE_ret (by kernel_rfl) ?_
                  repeat (first | refine seqQ_ret ?_ | refine blockQ_ret ?_ | refine loopQ_ret ?_ | refine cutQ_ret ?_)
                  exact retS (rs := [(Go.ResultVar.tmp 2)]) (v := Value.bool false) (by kernel_rfl) (⟨by kernel_rfl, trivial⟩) ⟨false, rfl, h⟩
                · replace h := h.2 hb
                  refine wpE_skip (by kernel_rfl) ?_
                  exact ⟨[(1, Value.pointer (some ⟨b_, 0, none⟩)), (3, Value.int .i64 n_), (5, Value.int .i64 lanes), (6, Value.int .i64 owners), (7, Value.int .i64 (IntKind.i64.wrap (others + 1))), (8, Value.int .i64 i)], Sub.mk (by kernel_rfl), lanes, owners, (IntKind.i64.wrap (others + 1)), rfl, h⟩
        · rintro _ w7 ⟨lanes1, owners1, others1, rfl, h⟩
          unfold F_towpathlaw13_ConfNames_k1 at h
          refine wpE_region (id := 7) (ops := r_towpathlaw13_ConfNames_95) (by kernel_rfl) ?_
          refine reg_run [.plain, .plain, .plain] 3 [(1, [], Value.pointer (some ⟨b_, 0, none⟩)), (3, [], Value.int .i64 n_), (5, [], Value.int .i64 lanes1), (6, [], Value.int .i64 owners1), (7, [], Value.int .i64 others1), (8, [], Value.int .i64 (IntKind.i64.wrap (i + 1)))] (by kernel_rfl) (by kernel_rfl) ?_
          refine reg_end [(1, Value.pointer (some ⟨b_, 0, none⟩)), (3, Value.int .i64 n_), (5, Value.int .i64 lanes1), (6, Value.int .i64 owners1), (7, Value.int .i64 others1), (8, Value.int .i64 (IntKind.i64.wrap (i + 1)))] (by kernel_rfl) (by kernel_rfl) ?_
          have hb_ := again__h _ _ _ _ _ h
          exact ⟨_, hb_.2, [(1, Value.pointer (some ⟨b_, 0, none⟩)), (3, Value.int .i64 n_), (5, Value.int .i64 lanes1), (6, Value.int .i64 owners1), (7, Value.int .i64 others1), (8, Value.int .i64 (IntKind.i64.wrap (i + 1)))], Sub.mk (by kernel_rfl), lanes1, owners1, others1, (IntKind.i64.wrap (i + 1)), rfl, hb_.1, rfl⟩
      · replace h := h.2 hb
        refine wpE_exit (id := 0) (by kernel_rfl) ?_
        change WpE _ _ c_towpathlaw13_ConfNames_97 _ _ _
        refine wpE_seq (x := c_towpathlaw13_ConfNames_98) (y := c_towpathlaw13_ConfNames_100) (by kernel_rfl) ?_
        refine wpE_region (id := 23) (ops := r_towpathlaw13_ConfNames_98) (by kernel_rfl) ?_
        refine reg_run [] 0 [(1, [], Value.pointer (some ⟨b_, 0, none⟩)), (3, [], Value.int .i64 n_), (5, [], Value.int .i64 lanes), (6, [], Value.int .i64 owners), (7, [], Value.int .i64 others)] (by kernel_rfl) (by kernel_rfl) ?_
        obtain ⟨v90, hc, h⟩ := h
        refine reg_loadN (t := 23) (a := (Go.Operand.tmp 1)) (b := b_) (o := 0) (ty := 23) (dst := some 90) [Value.int .i64 v90.Lanes, Value.int .i64 v90.Shards, Value.int .i64 v90.Window, Value.int .i64 v90.Queue] (by kernel_rfl) (by kernel_rfl) (by kernel_rfl) (k := 4) (by kernel_rfl) (by kernel_rfl) hc ?_
        refine reg_run [.plain] 2 [(1, [], Value.pointer (some ⟨b_, 0, none⟩)), (3, [], Value.int .i64 n_), (5, [], Value.int .i64 lanes), (6, [], Value.int .i64 owners), (7, [], Value.int .i64 others), (90, [], Value.agg #[Value.int .i64 v90.Lanes, Value.int .i64 v90.Shards, Value.int .i64 v90.Window, Value.int .i64 v90.Queue]), (91, [], Value.int .i64 n_)] (by kernel_rfl) (by kernel_rfl) ?_
        refine reg_enter (op := (Go.Op.call (Go.Call.mk (Go.Callee.value (Go.Operand.func 19)) #[(Go.Operand.tmp 90), (Go.Operand.tmp 91)] #[23, 3]))) (ty := 31) (dst := some 92) 19 #[Value.agg #[Value.int .i64 v90.Lanes, Value.int .i64 v90.Shards, Value.int .i64 v90.Window, Value.int .i64 v90.Queue], Value.int .i64 n_] (by kernel_rfl) (fun ww => by kernel_rfl) (Calls.mono h ?_)
        rintro _ w9 ⟨v92, v92_1, g, rfl, h⟩
        refine ⟨_, rfl, ?_⟩
        refine reg_run [.plain, .plain, .plain, .plain, .plain, .plain, .plain] 10 [(1, [], Value.pointer (some ⟨b_, 0, none⟩)), (3, [], Value.int .i64 n_), (5, [], Value.int .i64 lanes), (6, [], Value.int .i64 owners), (7, [], Value.int .i64 others), (14, [], Value.int .i64 g)] (by kernel_rfl) (by kernel_rfl) ?_
        refine reg_end [(1, Value.pointer (some ⟨b_, 0, none⟩)), (3, Value.int .i64 n_), (5, Value.int .i64 lanes), (6, Value.int .i64 owners), (7, Value.int .i64 others), (14, Value.int .i64 g)] (by kernel_rfl) (by kernel_rfl) ?_
        change WpE _ _ c_towpathlaw13_ConfNames_100 _ _ _
        refine wpE_seq (x := c_towpathlaw13_ConfNames_101) (y := c_towpathlaw13_ConfNames_103) (by kernel_rfl) ?_
        refine wpE_region (id := 24) (ops := r_towpathlaw13_ConfNames_101) (by kernel_rfl) ?_
        refine reg_run [.plain, .plain] 2 [(1, [], Value.pointer (some ⟨b_, 0, none⟩)), (3, [], Value.int .i64 n_), (6, [], Value.int .i64 owners), (7, [], Value.int .i64 others), (14, [], Value.int .i64 g), (96, [], Value.int .i64 lanes), (97, [], Value.pointer (some ⟨b_, 0, none⟩))] (by kernel_rfl) (by kernel_rfl) ?_
        obtain ⟨v98, hc, h⟩ := h
        refine reg_load1 (t := 3) (a := (Go.Operand.tmp 97)) (b := b_) (o := 0) (ty := 3) (dst := some 98) (by kernel_rfl) (by kernel_rfl) (by kernel_rfl) hc ?_
        refine reg_run [.plain, .plain, .plain, .plain] 7 [(1, [], Value.pointer (some ⟨b_, 0, none⟩)), (3, [], Value.int .i64 n_), (7, [], Value.int .i64 others), (14, [], Value.int .i64 g), (100, [], Value.bool (lanes == v98)), (101, [(100, true)], Value.int .i64 owners), (102, [(100, true)], Value.pointer (some ⟨b_, 1, none⟩))] (by kernel_rfl) (by kernel_rfl) ?_
        refine reg_split 100 (lanes == v98) (by kernel_rfl) (fun hb => ?_) (fun hb => ?_)
        · replace h := h.1 hb
          refine reg_run [] 7 [(1, [], Value.pointer (some ⟨b_, 0, none⟩)), (3, [], Value.int .i64 n_), (7, [], Value.int .i64 others), (14, [], Value.int .i64 g), (100, [], Value.bool true), (101, [], Value.int .i64 owners), (102, [], Value.pointer (some ⟨b_, 1, none⟩))] (by kernel_rfl) (by kernel_rfl) ?_
          refine reg_run [] 7 [(1, [], Value.pointer (some ⟨b_, 0, none⟩)), (3, [], Value.int .i64 n_), (7, [], Value.int .i64 others), (14, [], Value.int .i64 g), (100, [], Value.bool true), (101, [], Value.int .i64 owners), (102, [], Value.pointer (some ⟨b_, 1, none⟩))] (by kernel_rfl) (by kernel_rfl) ?_
          obtain ⟨v103, hc, h⟩ := h
          refine reg_load1 (t := 3) (a := (Go.Operand.tmp 102)) (b := b_) (o := 1) (ty := 3) (dst := some 103) (by kernel_rfl) (by kernel_rfl) (by kernel_rfl) hc ?_
          refine reg_run [.sure, .plain, .plain, .plain, .plain, .pick, .plain, .plain, .plain, .pick, .plain, .plain, .plain] 21 [(1, [], Value.pointer (some ⟨b_, 0, none⟩)), (114, [], Value.bool (((owners == v103) && (others == 2)) && (g == 1))), (115, [(114, true)], Value.int .i64 n_), (116, [(114, true)], Value.pointer (some ⟨b_, 0, none⟩))] (by kernel_rfl) (by kernel_rfl) ?_
          refine reg_split 114 (((owners == v103) && (others == 2)) && (g == 1)) (by kernel_rfl) (fun hb => ?_) (fun hb => ?_)
          · replace h := h.1 hb
            refine reg_run [] 21 [(1, [], Value.pointer (some ⟨b_, 0, none⟩)), (114, [], Value.bool true), (115, [], Value.int .i64 n_), (116, [], Value.pointer (some ⟨b_, 0, none⟩))] (by kernel_rfl) (by kernel_rfl) ?_
            refine reg_run [] 21 [(1, [], Value.pointer (some ⟨b_, 0, none⟩)), (114, [], Value.bool true), (115, [], Value.int .i64 n_), (116, [], Value.pointer (some ⟨b_, 0, none⟩))] (by kernel_rfl) (by kernel_rfl) ?_
            obtain ⟨v117, hc, h⟩ := h
            refine reg_load1 (t := 3) (a := (Go.Operand.tmp 116)) (b := b_) (o := 0) (ty := 3) (dst := some 117) (by kernel_rfl) (by kernel_rfl) (by kernel_rfl) hc ?_
            refine reg_run [.sure] 23 [(114, [], Value.bool true), (115, [], Value.int .i64 n_), (117, [], Value.int .i64 v117), (118, [], Value.pointer (some ⟨b_, 1, none⟩))] (by kernel_rfl) (by kernel_rfl) ?_
            obtain ⟨v119, hc, h⟩ := h
            refine reg_load1 (t := 3) (a := (Go.Operand.tmp 118)) (b := b_) (o := 1) (ty := 3) (dst := some 119) (by kernel_rfl) (by kernel_rfl) (by kernel_rfl) hc ?_
            refine reg_run [.sure, .sure, .sure, .plain, .plain] 29 [(2, [], Value.bool (n_ == (IntKind.i64.wrap ((IntKind.i64.wrap (v117 + v119)) + 2))))] (by kernel_rfl) (by kernel_rfl) ?_
            refine reg_end [(2, Value.bool (n_ == (IntKind.i64.wrap ((IntKind.i64.wrap (v117 + v119)) + 2))))] (by kernel_rfl) (by kernel_rfl) ?_
            change WpE _ _ c_towpathlaw13_ConfNames_103 _ _ _
            refine wpE_ret (by kernel_rfl) ?_
            repeat (first | refine seqQ_ret ?_ | refine blockQ_ret ?_ | refine loopQ_ret ?_ | refine cutQ_ret ?_)
            exact retS (rs := [(Go.ResultVar.tmp 2)]) (v := Value.bool (n_ == (IntKind.i64.wrap ((IntKind.i64.wrap (v117 + v119)) + 2)))) (by kernel_rfl) (⟨by kernel_rfl, trivial⟩) ⟨(n_ == (IntKind.i64.wrap ((IntKind.i64.wrap (v117 + v119)) + 2))), rfl, h⟩
          · replace h := h.2 hb
            refine reg_run [] 21 [(1, [], Value.pointer (some ⟨b_, 0, none⟩)), (114, [], Value.bool false), (115, [], undef), (116, [], undef)] (by kernel_rfl) (by kernel_rfl) ?_
            refine reg_run [.skip, .skip, .skip, .skip, .skip, .skip, .plain, .plain] 29 [(2, [], Value.bool false)] (by kernel_rfl) (by kernel_rfl) ?_
            refine reg_end [(2, Value.bool false)] (by kernel_rfl) (by kernel_rfl) ?_
            change WpE _ _ c_towpathlaw13_ConfNames_103 _ _ _
            refine wpE_ret (by kernel_rfl) ?_
            repeat (first | refine seqQ_ret ?_ | refine blockQ_ret ?_ | refine loopQ_ret ?_ | refine cutQ_ret ?_)
            exact retS (rs := [(Go.ResultVar.tmp 2)]) (v := Value.bool false) (by kernel_rfl) (⟨by kernel_rfl, trivial⟩) ⟨false, rfl, h⟩
        · replace h := h.2 hb
          refine reg_run [] 7 [(1, [], Value.pointer (some ⟨b_, 0, none⟩)), (3, [], Value.int .i64 n_), (7, [], Value.int .i64 others), (14, [], Value.int .i64 g), (100, [], Value.bool false), (101, [], undef), (102, [], undef)] (by kernel_rfl) (by kernel_rfl) ?_
          refine reg_run [.skip, .skip, .plain, .plain, .skip, .skip, .plain, .plain, .skip, .skip, .plain, .plain, .skip, .skip, .skip, .skip, .skip, .skip, .skip, .skip, .plain, .plain] 29 [(2, [], Value.bool false)] (by kernel_rfl) (by kernel_rfl) ?_
          refine reg_end [(2, Value.bool false)] (by kernel_rfl) (by kernel_rfl) ?_
          change WpE _ _ c_towpathlaw13_ConfNames_103 _ _ _
          refine wpE_ret (by kernel_rfl) ?_
          repeat (first | refine seqQ_ret ?_ | refine blockQ_ret ?_ | refine loopQ_ret ?_ | refine cutQ_ret ?_)
          exact retS (rs := [(Go.ResultVar.tmp 2)]) (v := Value.bool false) (by kernel_rfl) (⟨by kernel_rfl, trivial⟩) ⟨false, rfl, h⟩
  · rintro e w' ⟨v, rfl, r0, rfl, h⟩; exact ⟨r0, rfl, h⟩
end Go.Proofs.Ytchcljkflklddaa
