/- WRITTEN BY PROGRAM (dec.py): for each Go function the clean formula F, the call's contract C, and the proof S that F gives C. -/
import Derived.Test.YtpdegdnigcnjiaaRows
import Derived.Test.YtpdegdnigcnjiaaGF
namespace Go.Proofs.Ytpdegdnigcnjiaa
open Go
set_option linter.unusedVariables false

/-! ### towpath/towpathlaw06.LogfileBack (function 4) -/
noncomputable def c_towpathlaw06_LogfileBack_0 : Code := (Try.f4.body).getD Code.skip
noncomputable def c_towpathlaw06_LogfileBack_1 : Code := Code.l c_towpathlaw06_LogfileBack_0
noncomputable def r_towpathlaw06_LogfileBack_1 : Array Oper := Code.ops c_towpathlaw06_LogfileBack_1
noncomputable def c_towpathlaw06_LogfileBack_3 : Code := Code.r c_towpathlaw06_LogfileBack_0
noncomputable def c_towpathlaw06_LogfileBack_4 : Code := Code.l c_towpathlaw06_LogfileBack_3
noncomputable def c_towpathlaw06_LogfileBack_5 : Code := Code.l c_towpathlaw06_LogfileBack_4
noncomputable def r_towpathlaw06_LogfileBack_5 : Array Oper := Code.ops c_towpathlaw06_LogfileBack_5
noncomputable def c_towpathlaw06_LogfileBack_7 : Code := Code.r c_towpathlaw06_LogfileBack_4
noncomputable def c_towpathlaw06_LogfileBack_8 : Code := Code.l c_towpathlaw06_LogfileBack_7
noncomputable def c_towpathlaw06_LogfileBack_9 : Code := Code.l c_towpathlaw06_LogfileBack_8
noncomputable def r_towpathlaw06_LogfileBack_9 : Array Oper := Code.ops c_towpathlaw06_LogfileBack_9
noncomputable def c_towpathlaw06_LogfileBack_11 : Code := Code.r c_towpathlaw06_LogfileBack_8
noncomputable def c_towpathlaw06_LogfileBack_12 : Code := Code.r c_towpathlaw06_LogfileBack_7
noncomputable def c_towpathlaw06_LogfileBack_13 : Code := Code.r c_towpathlaw06_LogfileBack_3
noncomputable def c_towpathlaw06_LogfileBack_14 : Code := Code.l c_towpathlaw06_LogfileBack_13
noncomputable def r_towpathlaw06_LogfileBack_14 : Array Oper := Code.ops c_towpathlaw06_LogfileBack_14
noncomputable def c_towpathlaw06_LogfileBack_16 : Code := Code.r c_towpathlaw06_LogfileBack_13
noncomputable def c_towpathlaw06_LogfileBack_17 : Code := Code.l c_towpathlaw06_LogfileBack_16
noncomputable def c_towpathlaw06_LogfileBack_18 : Code := Code.l c_towpathlaw06_LogfileBack_17
noncomputable def r_towpathlaw06_LogfileBack_18 : Array Oper := Code.ops c_towpathlaw06_LogfileBack_18
noncomputable def c_towpathlaw06_LogfileBack_20 : Code := Code.r c_towpathlaw06_LogfileBack_17
noncomputable def c_towpathlaw06_LogfileBack_21 : Code := Code.l c_towpathlaw06_LogfileBack_20
noncomputable def c_towpathlaw06_LogfileBack_22 : Code := Code.l c_towpathlaw06_LogfileBack_21
noncomputable def r_towpathlaw06_LogfileBack_22 : Array Oper := Code.ops c_towpathlaw06_LogfileBack_22
noncomputable def c_towpathlaw06_LogfileBack_24 : Code := Code.r c_towpathlaw06_LogfileBack_21
noncomputable def c_towpathlaw06_LogfileBack_25 : Code := Code.r c_towpathlaw06_LogfileBack_20
noncomputable def c_towpathlaw06_LogfileBack_26 : Code := Code.r c_towpathlaw06_LogfileBack_16
noncomputable def c_towpathlaw06_LogfileBack_27 : Code := Code.l c_towpathlaw06_LogfileBack_26
noncomputable def r_towpathlaw06_LogfileBack_27 : Array Oper := Code.ops c_towpathlaw06_LogfileBack_27
noncomputable def c_towpathlaw06_LogfileBack_29 : Code := Code.r c_towpathlaw06_LogfileBack_26
noncomputable def c_towpathlaw06_LogfileBack_30 : Code := Code.l c_towpathlaw06_LogfileBack_29
noncomputable def c_towpathlaw06_LogfileBack_31 : Code := Code.l c_towpathlaw06_LogfileBack_30
noncomputable def r_towpathlaw06_LogfileBack_31 : Array Oper := Code.ops c_towpathlaw06_LogfileBack_31
noncomputable def c_towpathlaw06_LogfileBack_33 : Code := Code.r c_towpathlaw06_LogfileBack_30
noncomputable def c_towpathlaw06_LogfileBack_34 : Code := Code.l c_towpathlaw06_LogfileBack_33
noncomputable def c_towpathlaw06_LogfileBack_35 : Code := Code.l c_towpathlaw06_LogfileBack_34
noncomputable def r_towpathlaw06_LogfileBack_35 : Array Oper := Code.ops c_towpathlaw06_LogfileBack_35
noncomputable def c_towpathlaw06_LogfileBack_37 : Code := Code.r c_towpathlaw06_LogfileBack_34
noncomputable def c_towpathlaw06_LogfileBack_38 : Code := Code.r c_towpathlaw06_LogfileBack_33
noncomputable def c_towpathlaw06_LogfileBack_39 : Code := Code.r c_towpathlaw06_LogfileBack_29
noncomputable def c_towpathlaw06_LogfileBack_40 : Code := Code.l c_towpathlaw06_LogfileBack_39
noncomputable def r_towpathlaw06_LogfileBack_40 : Array Oper := Code.ops c_towpathlaw06_LogfileBack_40
noncomputable def c_towpathlaw06_LogfileBack_42 : Code := Code.r c_towpathlaw06_LogfileBack_39
noncomputable def c_towpathlaw06_LogfileBack_43 : Code := Code.l c_towpathlaw06_LogfileBack_42
noncomputable def r_towpathlaw06_LogfileBack_43 : Array Oper := Code.ops c_towpathlaw06_LogfileBack_43
noncomputable def c_towpathlaw06_LogfileBack_45 : Code := Code.r c_towpathlaw06_LogfileBack_42
noncomputable def c_towpathlaw06_LogfileBack_46 : Code := Code.l c_towpathlaw06_LogfileBack_45
noncomputable def c_towpathlaw06_LogfileBack_47 : Code := Code.l c_towpathlaw06_LogfileBack_46
noncomputable def r_towpathlaw06_LogfileBack_47 : Array Oper := Code.ops c_towpathlaw06_LogfileBack_47
noncomputable def c_towpathlaw06_LogfileBack_49 : Code := Code.r c_towpathlaw06_LogfileBack_46
noncomputable def c_towpathlaw06_LogfileBack_50 : Code := Code.l c_towpathlaw06_LogfileBack_49
noncomputable def c_towpathlaw06_LogfileBack_51 : Code := Code.l c_towpathlaw06_LogfileBack_50
noncomputable def r_towpathlaw06_LogfileBack_51 : Array Oper := Code.ops c_towpathlaw06_LogfileBack_51
noncomputable def c_towpathlaw06_LogfileBack_53 : Code := Code.r c_towpathlaw06_LogfileBack_50
noncomputable def c_towpathlaw06_LogfileBack_54 : Code := Code.r c_towpathlaw06_LogfileBack_49
noncomputable def c_towpathlaw06_LogfileBack_55 : Code := Code.r c_towpathlaw06_LogfileBack_45
noncomputable def c_towpathlaw06_LogfileBack_56 : Code := Code.l c_towpathlaw06_LogfileBack_55
noncomputable def r_towpathlaw06_LogfileBack_56 : Array Oper := Code.ops c_towpathlaw06_LogfileBack_56
noncomputable def c_towpathlaw06_LogfileBack_58 : Code := Code.r c_towpathlaw06_LogfileBack_55
noncomputable def c_towpathlaw06_LogfileBack_59 : Code := Code.l c_towpathlaw06_LogfileBack_58
noncomputable def c_towpathlaw06_LogfileBack_60 : Code := Code.l c_towpathlaw06_LogfileBack_59
noncomputable def r_towpathlaw06_LogfileBack_60 : Array Oper := Code.ops c_towpathlaw06_LogfileBack_60
noncomputable def c_towpathlaw06_LogfileBack_62 : Code := Code.r c_towpathlaw06_LogfileBack_59
noncomputable def c_towpathlaw06_LogfileBack_63 : Code := Code.l c_towpathlaw06_LogfileBack_62
noncomputable def c_towpathlaw06_LogfileBack_64 : Code := Code.l c_towpathlaw06_LogfileBack_63
noncomputable def r_towpathlaw06_LogfileBack_64 : Array Oper := Code.ops c_towpathlaw06_LogfileBack_64
noncomputable def c_towpathlaw06_LogfileBack_66 : Code := Code.r c_towpathlaw06_LogfileBack_63
noncomputable def c_towpathlaw06_LogfileBack_67 : Code := Code.r c_towpathlaw06_LogfileBack_62
noncomputable def c_towpathlaw06_LogfileBack_68 : Code := Code.r c_towpathlaw06_LogfileBack_58
noncomputable def c_towpathlaw06_LogfileBack_69 : Code := Code.l c_towpathlaw06_LogfileBack_68
noncomputable def r_towpathlaw06_LogfileBack_69 : Array Oper := Code.ops c_towpathlaw06_LogfileBack_69
noncomputable def c_towpathlaw06_LogfileBack_71 : Code := Code.r c_towpathlaw06_LogfileBack_68
noncomputable def c_towpathlaw06_LogfileBack_72 : Code := Code.l c_towpathlaw06_LogfileBack_71
noncomputable def r_towpathlaw06_LogfileBack_72 : Array Oper := Code.ops c_towpathlaw06_LogfileBack_72
noncomputable def c_towpathlaw06_LogfileBack_74 : Code := Code.r c_towpathlaw06_LogfileBack_71
noncomputable def c_towpathlaw06_LogfileBack_75 : Code := Code.l c_towpathlaw06_LogfileBack_74
noncomputable def r_towpathlaw06_LogfileBack_75 : Array Oper := Code.ops c_towpathlaw06_LogfileBack_75
noncomputable def c_towpathlaw06_LogfileBack_77 : Code := Code.r c_towpathlaw06_LogfileBack_74
noncomputable def c_towpathlaw06_LogfileBack_78 : Code := Code.l c_towpathlaw06_LogfileBack_77
noncomputable def r_towpathlaw06_LogfileBack_78 : Array Oper := Code.ops c_towpathlaw06_LogfileBack_78
noncomputable def c_towpathlaw06_LogfileBack_80 : Code := Code.r c_towpathlaw06_LogfileBack_77

set_option maxRecDepth 100000 in
set_option maxHeartbeats 4000000 in
theorem S_towpathlaw06_LogfileBack {l_ : Slc} {cut : Int} {more : Slc} {w : World} {R : Bool → World → Prop} (h : F_towpathlaw06_LogfileBack l_ cut more R w) : C_towpathlaw06_LogfileBack l_ cut more w R := by
  unfold F_towpathlaw06_LogfileBack at h
  unfold C_towpathlaw06_LogfileBack
  refine Calls.mono (calls_of_wpE (args := [Value.slice l_.ptr l_.len l_.cap, Value.int .u32 cut, Value.slice more.ptr more.len more.cap]) (R := fun v w' => ∃ (r0 : Bool), v = Value.bool r0 ∧ R r0 w') Try.func4 (c := c_towpathlaw06_LogfileBack_0) (by kernel_rfl) 163 (by kernel_rfl) (by kernel_rfl) [(0, Value.slice l_.ptr l_.len l_.cap), (1, Value.int .u32 cut), (2, Value.slice more.ptr more.len more.cap)] (by kernel_rfl) ?_) ?_
  · refine wpE_seq (x := c_towpathlaw06_LogfileBack_1) (y := c_towpathlaw06_LogfileBack_3) (by kernel_rfl) ?_
    refine wpE_region (id := 0) (ops := r_towpathlaw06_LogfileBack_1) (by kernel_rfl) ?_
    refine reg_run [.plain] 1 [(0, [], Value.slice l_.ptr l_.len l_.cap), (1, [], Value.int .u32 cut), (2, [], Value.slice more.ptr more.len more.cap)] (by kernel_rfl) (by kernel_rfl) ?_
    refine reg_end [(0, Value.slice l_.ptr l_.len l_.cap), (1, Value.int .u32 cut), (2, Value.slice more.ptr more.len more.cap)] (by kernel_rfl) (by kernel_rfl) ?_
    change WpE _ _ c_towpathlaw06_LogfileBack_3 _ _ _
    refine wpE_seq (x := c_towpathlaw06_LogfileBack_4) (y := c_towpathlaw06_LogfileBack_13) (by kernel_rfl) ?_
    refine wpE_seq_cut (x := c_towpathlaw06_LogfileBack_5) (y := c_towpathlaw06_LogfileBack_7) (by kernel_rfl) (fun l w => ∃ (t31 : Bool), l = [(0, Value.slice l_.ptr l_.len l_.cap), (1, Value.int .u32 cut), (2, Value.slice more.ptr more.len more.cap), (31, Value.bool t31)] ∧ F_towpathlaw06_LogfileBack_k0 l_ cut more R t31 w) ?_ ?_
    · refine wpE_region (id := 1) (ops := r_towpathlaw06_LogfileBack_5) (by kernel_rfl) ?_
      refine reg_run [] 0 [(0, [], Value.slice l_.ptr l_.len l_.cap), (1, [], Value.int .u32 cut), (2, [], Value.slice more.ptr more.len more.cap)] (by kernel_rfl) (by kernel_rfl) ?_
      refine reg_enter (op := (Go.Op.call (Go.Call.mk (Go.Callee.value (Go.Operand.func 15)) #[] #[]))) (ty := 4) (dst := some 22) 15 #[] (by kernel_rfl) (fun ww => by kernel_rfl) (Calls.mono h ?_)
      rintro _ w18 ⟨v22, rfl, h⟩
      refine ⟨_, rfl, ?_⟩
      refine reg_run [.plain, .plain, .plain] 4 [(0, [], Value.slice l_.ptr l_.len l_.cap), (1, [], Value.int .u32 cut), (2, [], Value.slice more.ptr more.len more.cap), (24, [], Value.bool (!v22)), (25, [(24, false)], Value.slice l_.ptr l_.len l_.cap)] (by kernel_rfl) (by kernel_rfl) ?_
      refine reg_split 24 (!v22) (by kernel_rfl) (fun hb => ?_) (fun hb => ?_)
      · replace h := h.1 hb
        refine reg_run [] 4 [(0, [], Value.slice l_.ptr l_.len l_.cap), (1, [], Value.int .u32 cut), (2, [], Value.slice more.ptr more.len more.cap), (24, [], Value.bool true), (25, [], undef)] (by kernel_rfl) (by kernel_rfl) ?_
        refine reg_run [.skip, .skip, .skip, .skip, .skip, .plain] 10 [(0, [], Value.slice l_.ptr l_.len l_.cap), (1, [], Value.int .u32 cut), (2, [], Value.slice more.ptr more.len more.cap), (31, [], Value.bool true)] (by kernel_rfl) (by kernel_rfl) ?_
        refine reg_end [(0, Value.slice l_.ptr l_.len l_.cap), (1, Value.int .u32 cut), (2, Value.slice more.ptr more.len more.cap), (31, Value.bool true)] (by kernel_rfl) (by kernel_rfl) ?_
        exact ⟨[(0, Value.slice l_.ptr l_.len l_.cap), (1, Value.int .u32 cut), (2, Value.slice more.ptr more.len more.cap), (31, Value.bool true)], Sub.mk (by kernel_rfl), true, rfl, h⟩
      · replace h := h.2 hb
        refine reg_run [] 4 [(0, [], Value.slice l_.ptr l_.len l_.cap), (1, [], Value.int .u32 cut), (2, [], Value.slice more.ptr more.len more.cap), (24, [], Value.bool false), (25, [], Value.slice l_.ptr l_.len l_.cap)] (by kernel_rfl) (by kernel_rfl) ?_
        refine reg_run [] 4 [(0, [], Value.slice l_.ptr l_.len l_.cap), (1, [], Value.int .u32 cut), (2, [], Value.slice more.ptr more.len more.cap), (24, [], Value.bool false), (25, [], Value.slice l_.ptr l_.len l_.cap)] (by kernel_rfl) (by kernel_rfl) ?_
        refine reg_enter (op := (Go.Op.call (Go.Call.mk (Go.Callee.value (Go.Operand.func 16)) #[(Go.Operand.tmp 25)] #[37]))) (ty := 3) (dst := some 26) 16 #[Value.slice l_.ptr l_.len l_.cap] (by kernel_rfl) (fun ww => by kernel_rfl) (Calls.mono h ?_)
        rintro _ w19 ⟨v26, rfl, h⟩
        refine ⟨_, rfl, ?_⟩
        refine reg_run [.sure, .sure] 7 [(0, [], Value.slice l_.ptr l_.len l_.cap), (1, [], Value.int .u32 cut), (2, [], Value.slice more.ptr more.len more.cap), (24, [], Value.bool false), (26, [], Value.int .i64 v26), (28, [], Value.int .i64 ((more.len : Nat) : Int))] (by kernel_rfl) (by kernel_rfl) ?_
        refine reg_new (op := (Go.Op.buildSlice 25 2 #[(0, (Go.Operand.tmp 26)), (1, (Go.Operand.tmp 28))])) (ty := 25) (dst := some 29) (fun bb => Value.slice (some ⟨bb, 0, none⟩) 2 2) (Obj.cells ([Value.int .i64 v26, Value.int .i64 ((more.len : Nat) : Int)]).toArray ty_int (0, 0)) (by kernel_rfl) (by kernel_rfl) (fun b_1 w20 hb hw => ?_)
        replace h := h b_1 w20 hb hw
        clear hb hw
        refine reg_run [] 8 [(0, [], Value.slice l_.ptr l_.len l_.cap), (1, [], Value.int .u32 cut), (2, [], Value.slice more.ptr more.len more.cap), (24, [], Value.bool false), (29, [], Value.slice (some ⟨b_1, 0, none⟩) 2 2)] (by kernel_rfl) (by kernel_rfl) ?_
        refine reg_enter (op := (Go.Op.call (Go.Call.mk (Go.Callee.value (Go.Operand.func 10)) #[(Go.Operand.tmp 29)] #[25]))) (ty := 4) (dst := some 30) 10 #[Value.slice (some ⟨b_1, 0, none⟩) 2 2] (by kernel_rfl) (fun ww => by kernel_rfl) (Calls.mono h ?_)
        rintro _ w21 ⟨v30, rfl, h⟩
        refine ⟨_, rfl, ?_⟩
        refine reg_run [.plain] 10 [(0, [], Value.slice l_.ptr l_.len l_.cap), (1, [], Value.int .u32 cut), (2, [], Value.slice more.ptr more.len more.cap), (31, [], Value.bool v30)] (by kernel_rfl) (by kernel_rfl) ?_
        refine reg_end [(0, Value.slice l_.ptr l_.len l_.cap), (1, Value.int .u32 cut), (2, Value.slice more.ptr more.len more.cap), (31, Value.bool v30)] (by kernel_rfl) (by kernel_rfl) ?_
        exact ⟨[(0, Value.slice l_.ptr l_.len l_.cap), (1, Value.int .u32 cut), (2, Value.slice more.ptr more.len more.cap), (31, Value.bool v30)], Sub.mk (by kernel_rfl), v30, rfl, h⟩
    · rintro _ w1 ⟨t31, rfl, h⟩
      unfold F_towpathlaw06_LogfileBack_k0 at h
      refine wpE_cond (o := (Operand.tmp 31)) (b := t31) (x := c_towpathlaw06_LogfileBack_8) (y := c_towpathlaw06_LogfileBack_12) (by kernel_rfl) (by kernel_rfl) (fun hb => ?_) (fun hb => ?_)
      · replace h := h.1 hb
        refine wpE_seq (x := c_towpathlaw06_LogfileBack_9) (y := c_towpathlaw06_LogfileBack_11) (by kernel_rfl) ?_
        refine wpE_region (id := 2) (ops := r_towpathlaw06_LogfileBack_9) (by kernel_rfl) ?_
        refine reg_run [] 0 [] (by kernel_rfl) (by kernel_rfl) ?_
        refine reg_enter (op := (Go.Op.call (Go.Call.mk (Go.Callee.value (Go.Operand.func 15)) #[] #[]))) (ty := 4) (dst := some 32) 15 #[] (by kernel_rfl) (fun ww => by kernel_rfl) (Calls.mono h ?_)
        rintro _ w2 ⟨v32, rfl, h⟩
        refine ⟨_, rfl, ?_⟩
        refine reg_run [.plain] 2 [(6, [], Value.bool v32)] (by kernel_rfl) (by kernel_rfl) ?_
        refine reg_end [(6, Value.bool v32)] (by kernel_rfl) (by kernel_rfl) ?_
        change WpE _ _ c_towpathlaw06_LogfileBack_11 _ _ _
        refine wpE_ret (by kernel_rfl) ?_
        repeat (first | refine seqQ_ret ?_ | refine blockQ_ret ?_ | refine loopQ_ret ?_ | refine cutQ_ret ?_)
        exact retS (rs := [(Go.ResultVar.tmp 6)]) (v := Value.bool v32) (by kernel_rfl) (⟨by kernel_rfl, trivial⟩) ⟨v32, rfl, h⟩
      · replace h := h.2 hb
        refine wpE_skip (by kernel_rfl) ?_
        change WpE _ _ c_towpathlaw06_LogfileBack_13 _ _ _
        refine wpE_seq (x := c_towpathlaw06_LogfileBack_14) (y := c_towpathlaw06_LogfileBack_16) (by kernel_rfl) ?_
        refine wpE_region (id := 3) (ops := r_towpathlaw06_LogfileBack_14) (by kernel_rfl) ?_
        refine reg_run [.plain] 1 [(0, [], Value.slice l_.ptr l_.len l_.cap), (1, [], Value.int .u32 cut), (2, [], Value.slice more.ptr more.len more.cap), (34, [], Value.slice l_.ptr l_.len l_.cap)] (by kernel_rfl) (by kernel_rfl) ?_
        refine reg_enter (op := (Go.Op.call (Go.Call.mk (Go.Callee.value (Go.Operand.func 17)) #[(Go.Operand.tmp 34)] #[37]))) (ty := 32) (dst := some 35) 17 #[Value.slice l_.ptr l_.len l_.cap] (by kernel_rfl) (fun ww => by kernel_rfl) (Calls.mono h ?_)
        rintro _ w3 ⟨b_, e, rfl, h⟩
        refine ⟨_, rfl, ?_⟩
        refine reg_run [.plain, .plain, .plain, .plain, .plain] 7 [(0, [], Value.slice l_.ptr l_.len l_.cap), (1, [], Value.int .u32 cut), (2, [], Value.slice more.ptr more.len more.cap), (7, [], Value.slice b_.ptr b_.len b_.cap), (8, [], Value.int .i64 e)] (by kernel_rfl) (by kernel_rfl) ?_
        refine reg_end [(0, Value.slice l_.ptr l_.len l_.cap), (1, Value.int .u32 cut), (2, Value.slice more.ptr more.len more.cap), (7, Value.slice b_.ptr b_.len b_.cap), (8, Value.int .i64 e)] (by kernel_rfl) (by kernel_rfl) ?_
        change WpE _ _ c_towpathlaw06_LogfileBack_16 _ _ _
        refine wpE_seq (x := c_towpathlaw06_LogfileBack_17) (y := c_towpathlaw06_LogfileBack_26) (by kernel_rfl) ?_
        refine wpE_seq (x := c_towpathlaw06_LogfileBack_18) (y := c_towpathlaw06_LogfileBack_20) (by kernel_rfl) ?_
        refine wpE_region (id := 4) (ops := r_towpathlaw06_LogfileBack_18) (by kernel_rfl) ?_
        refine reg_run [.plain, .plain] 2 [(0, [], Value.slice l_.ptr l_.len l_.cap), (1, [], Value.int .u32 cut), (2, [], Value.slice more.ptr more.len more.cap), (7, [], Value.slice b_.ptr b_.len b_.cap), (8, [], Value.int .i64 e), (39, [], Value.bool (e != 0))] (by kernel_rfl) (by kernel_rfl) ?_
        refine reg_end [(0, Value.slice l_.ptr l_.len l_.cap), (1, Value.int .u32 cut), (2, Value.slice more.ptr more.len more.cap), (7, Value.slice b_.ptr b_.len b_.cap), (8, Value.int .i64 e), (39, Value.bool (e != 0))] (by kernel_rfl) (by kernel_rfl) ?_
        change WpE _ _ c_towpathlaw06_LogfileBack_20 _ _ _
        refine wpE_cond (o := (Operand.tmp 39)) (b := (e != 0)) (x := c_towpathlaw06_LogfileBack_21) (y := c_towpathlaw06_LogfileBack_25) (by kernel_rfl) (by kernel_rfl) (fun hb => ?_) (fun hb => ?_)
        · replace h := h.1 hb
          refine wpE_seq (x := c_towpathlaw06_LogfileBack_22) (y := c_towpathlaw06_LogfileBack_24) (by kernel_rfl) ?_
          refine wpE_region (id := 5) (ops := r_towpathlaw06_LogfileBack_22) (by kernel_rfl) ?_
          refine reg_run [.plain] 1 [(7, [], Value.slice b_.ptr b_.len b_.cap), (8, [], Value.int .i64 e), (40, [], Value.slice l_.ptr l_.len l_.cap)] (by kernel_rfl) (by kernel_rfl) ?_
          refine reg_enter (op := (Go.Op.call (Go.Call.mk (Go.Callee.value (Go.Operand.func 18)) #[(Go.Operand.tmp 40)] #[37]))) (ty := 29) (dst := some 41) 18 #[Value.slice l_.ptr l_.len l_.cap] (by kernel_rfl) (fun ww => by kernel_rfl) (Calls.mono h ?_)
          rintro _ w4 ⟨v41, rfl, h⟩
          refine ⟨_, rfl, ?_⟩
          refine reg_run [.plain, .plain, .plain, .plain, .plain, .plain, .pick, .plain] 10 [(6, [], Value.bool ((v41 == e) && (((b_.len : Nat) : Int) == 0)))] (by kernel_rfl) (by kernel_rfl) ?_
          refine reg_end [(6, Value.bool ((v41 == e) && (((b_.len : Nat) : Int) == 0)))] (by kernel_rfl) (by kernel_rfl) ?_
          change WpE _ _ c_towpathlaw06_LogfileBack_24 _ _ _
          refine wpE_ret (by kernel_rfl) ?_
          repeat (first | refine seqQ_ret ?_ | refine blockQ_ret ?_ | refine loopQ_ret ?_ | refine cutQ_ret ?_)
          exact retS (rs := [(Go.ResultVar.tmp 6)]) (v := Value.bool ((v41 == e) && (((b_.len : Nat) : Int) == 0))) (by kernel_rfl) (⟨by kernel_rfl, trivial⟩) ⟨((v41 == e) && (((b_.len : Nat) : Int) == 0)), rfl, h⟩
        · replace h := h.2 hb
          refine wpE_skip (by kernel_rfl) ?_
          change WpE _ _ c_towpathlaw06_LogfileBack_26 _ _ _
          refine wpE_seq (x := c_towpathlaw06_LogfileBack_27) (y := c_towpathlaw06_LogfileBack_29) (by kernel_rfl) ?_
          refine wpE_region (id := 6) (ops := r_towpathlaw06_LogfileBack_27) (by kernel_rfl) ?_
          refine reg_run [.plain] 1 [(0, [], Value.slice l_.ptr l_.len l_.cap), (1, [], Value.int .u32 cut), (2, [], Value.slice more.ptr more.len more.cap), (7, [], Value.slice b_.ptr b_.len b_.cap), (50, [], Value.slice b_.ptr b_.len b_.cap)] (by kernel_rfl) (by kernel_rfl) ?_
          refine reg_enter (op := (Go.Op.call (Go.Call.mk (Go.Callee.value (Go.Operand.func 19)) #[(Go.Operand.tmp 50)] #[22]))) (ty := 42) (dst := some 51) 19 #[Value.slice b_.ptr b_.len b_.cap] (by kernel_rfl) (fun ww => by kernel_rfl) (Calls.mono h ?_)
          rintro _ w5 ⟨x, good, f, rfl, h⟩
          refine ⟨_, rfl, ?_⟩
          refine reg_run [.plain, .plain, .plain, .plain, .plain, .plain, .plain] 9 [(0, [], Value.slice l_.ptr l_.len l_.cap), (1, [], Value.int .u32 cut), (2, [], Value.slice more.ptr more.len more.cap), (7, [], Value.slice b_.ptr b_.len b_.cap), (9, [], Value.slice x.ptr x.len x.cap), (10, [], Value.int .i64 good), (11, [], Value.int .i64 f)] (by kernel_rfl) (by kernel_rfl) ?_
          refine reg_end [(0, Value.slice l_.ptr l_.len l_.cap), (1, Value.int .u32 cut), (2, Value.slice more.ptr more.len more.cap), (7, Value.slice b_.ptr b_.len b_.cap), (9, Value.slice x.ptr x.len x.cap), (10, Value.int .i64 good), (11, Value.int .i64 f)] (by kernel_rfl) (by kernel_rfl) ?_
          change WpE _ _ c_towpathlaw06_LogfileBack_29 _ _ _
          refine wpE_seq (x := c_towpathlaw06_LogfileBack_30) (y := c_towpathlaw06_LogfileBack_39) (by kernel_rfl) ?_
          refine wpE_seq_cut (x := c_towpathlaw06_LogfileBack_31) (y := c_towpathlaw06_LogfileBack_33) (by kernel_rfl) (fun l w => ∃ (t68 : Bool), l = [(0, Value.slice l_.ptr l_.len l_.cap), (1, Value.int .u32 cut), (2, Value.slice more.ptr more.len more.cap), (7, Value.slice b_.ptr b_.len b_.cap), (68, Value.bool t68)] ∧ F_towpathlaw06_LogfileBack_k1 l_ cut more R b_ t68 w) ?_ ?_
          · refine wpE_region (id := 7) (ops := r_towpathlaw06_LogfileBack_31) (by kernel_rfl) ?_
            refine reg_run [.plain, .plain, .plain, .plain, .plain, .plain, .plain, .pick, .plain, .plain, .plain] 11 [(0, [], Value.slice l_.ptr l_.len l_.cap), (1, [], Value.int .u32 cut), (2, [], Value.slice more.ptr more.len more.cap), (7, [], Value.slice b_.ptr b_.len b_.cap), (63, [], Value.bool ((f != 0) || (good != ((b_.len : Nat) : Int)))), (64, [(63, false)], Value.slice x.ptr x.len x.cap), (65, [(63, false)], Value.slice l_.ptr l_.len l_.cap)] (by kernel_rfl) (by kernel_rfl) ?_
            refine reg_split 63 ((f != 0) || (good != ((b_.len : Nat) : Int))) (by kernel_rfl) (fun hb => ?_) (fun hb => ?_)
            · replace h := h.1 hb
              refine reg_run [] 11 [(0, [], Value.slice l_.ptr l_.len l_.cap), (1, [], Value.int .u32 cut), (2, [], Value.slice more.ptr more.len more.cap), (7, [], Value.slice b_.ptr b_.len b_.cap), (63, [], Value.bool true), (64, [], undef), (65, [], undef)] (by kernel_rfl) (by kernel_rfl) ?_
              refine reg_run [.skip, .skip, .plain] 14 [(0, [], Value.slice l_.ptr l_.len l_.cap), (1, [], Value.int .u32 cut), (2, [], Value.slice more.ptr more.len more.cap), (7, [], Value.slice b_.ptr b_.len b_.cap), (68, [], Value.bool true)] (by kernel_rfl) (by kernel_rfl) ?_
              refine reg_end [(0, Value.slice l_.ptr l_.len l_.cap), (1, Value.int .u32 cut), (2, Value.slice more.ptr more.len more.cap), (7, Value.slice b_.ptr b_.len b_.cap), (68, Value.bool true)] (by kernel_rfl) (by kernel_rfl) ?_
              exact ⟨[(0, Value.slice l_.ptr l_.len l_.cap), (1, Value.int .u32 cut), (2, Value.slice more.ptr more.len more.cap), (7, Value.slice b_.ptr b_.len b_.cap), (68, Value.bool true)], Sub.mk (by kernel_rfl), true, rfl, h⟩
            · replace h := h.2 hb
              refine reg_run [] 11 [(0, [], Value.slice l_.ptr l_.len l_.cap), (1, [], Value.int .u32 cut), (2, [], Value.slice more.ptr more.len more.cap), (7, [], Value.slice b_.ptr b_.len b_.cap), (63, [], Value.bool false), (64, [], Value.slice x.ptr x.len x.cap), (65, [], Value.slice l_.ptr l_.len l_.cap)] (by kernel_rfl) (by kernel_rfl) ?_
              refine reg_run [] 11 [(0, [], Value.slice l_.ptr l_.len l_.cap), (1, [], Value.int .u32 cut), (2, [], Value.slice more.ptr more.len more.cap), (7, [], Value.slice b_.ptr b_.len b_.cap), (63, [], Value.bool false), (64, [], Value.slice x.ptr x.len x.cap), (65, [], Value.slice l_.ptr l_.len l_.cap)] (by kernel_rfl) (by kernel_rfl) ?_
              refine reg_enter (op := (Go.Op.call (Go.Call.mk (Go.Callee.value (Go.Operand.func 20)) #[(Go.Operand.tmp 64), (Go.Operand.tmp 65)] #[37, 37]))) (ty := 4) (dst := some 66) 20 #[Value.slice x.ptr x.len x.cap, Value.slice l_.ptr l_.len l_.cap] (by kernel_rfl) (fun ww => by kernel_rfl) (Calls.mono h ?_)
              rintro _ w17 ⟨v66, rfl, h⟩
              refine ⟨_, rfl, ?_⟩
              refine reg_run [.sure, .plain] 14 [(0, [], Value.slice l_.ptr l_.len l_.cap), (1, [], Value.int .u32 cut), (2, [], Value.slice more.ptr more.len more.cap), (7, [], Value.slice b_.ptr b_.len b_.cap), (68, [], Value.bool (!v66))] (by kernel_rfl) (by kernel_rfl) ?_
              refine reg_end [(0, Value.slice l_.ptr l_.len l_.cap), (1, Value.int .u32 cut), (2, Value.slice more.ptr more.len more.cap), (7, Value.slice b_.ptr b_.len b_.cap), (68, Value.bool (!v66))] (by kernel_rfl) (by kernel_rfl) ?_
              exact ⟨[(0, Value.slice l_.ptr l_.len l_.cap), (1, Value.int .u32 cut), (2, Value.slice more.ptr more.len more.cap), (7, Value.slice b_.ptr b_.len b_.cap), (68, Value.bool (!v66))], Sub.mk (by kernel_rfl), (!v66), rfl, h⟩
          · rintro _ w6 ⟨t68, rfl, h⟩
            unfold F_towpathlaw06_LogfileBack_k1 at h
            refine wpE_cond (o := (Operand.tmp 68)) (b := t68) (x := c_towpathlaw06_LogfileBack_34) (y := c_towpathlaw06_LogfileBack_38) (by kernel_rfl) (by kernel_rfl) (fun hb => ?_) (fun hb => ?_)
            · replace h := h.1 hb
              refine wpE_seq (x := c_towpathlaw06_LogfileBack_35) (y := c_towpathlaw06_LogfileBack_37) (by kernel_rfl) ?_
              refine wpE_region (id := 8) (ops := r_towpathlaw06_LogfileBack_35) (by kernel_rfl) ?_
              refine reg_run [.plain] 1 [(6, [], Value.bool false)] (by kernel_rfl) (by kernel_rfl) ?_
              refine reg_end [(6, Value.bool false)] (by kernel_rfl) (by kernel_rfl) ?_
              change WpE _ _ c_towpathlaw06_LogfileBack_37 _ _ _
              refine wpE_ret (by kernel_rfl) ?_
              repeat (first | refine seqQ_ret ?_ | refine blockQ_ret ?_ | refine loopQ_ret ?_ | refine cutQ_ret ?_)
              exact retS (rs := [(Go.ResultVar.tmp 6)]) (v := Value.bool false) (by kernel_rfl) (⟨by kernel_rfl, trivial⟩) ⟨false, rfl, h⟩
            · replace h := h.2 hb
              refine wpE_skip (by kernel_rfl) ?_
              change WpE _ _ c_towpathlaw06_LogfileBack_39 _ _ _
              refine wpE_seq (x := c_towpathlaw06_LogfileBack_40) (y := c_towpathlaw06_LogfileBack_42) (by kernel_rfl) ?_
              refine wpE_region (id := 9) (ops := r_towpathlaw06_LogfileBack_40) (by kernel_rfl) ?_
              refine reg_run [.plain, .plain, .plain, .plain, .plain] 5 [(0, [], Value.slice l_.ptr l_.len l_.cap), (2, [], Value.slice more.ptr more.len more.cap), (7, [], Value.slice b_.ptr b_.len b_.cap), (70, [], Value.int .i64 (IntKind.i64.wrap cut)), (73, [], Value.int .i64 (IntKind.i64.wrap (((b_.len : Nat) : Int) + 1)))] (by kernel_rfl) (by kernel_rfl) ?_
              obtain ⟨h0, h⟩ := h
              refine reg_val (op := (Go.Op.binOp Go.BinOp.rem 3 (Go.Operand.tmp 70) (Go.Operand.tmp 73) 3)) (ty := 3) (dst := some 74) (Value.int .i64 (Int.tmod (IntKind.i64.wrap cut) (IntKind.i64.wrap (((b_.len : Nat) : Int) + 1)))) (by kernel_rfl) (fun ww => run_rem (by kernel_rfl) (by kernel_rfl) h0 ww) ?_
              refine reg_run [.plain] 7 [(0, [], Value.slice l_.ptr l_.len l_.cap), (2, [], Value.slice more.ptr more.len more.cap), (7, [], Value.slice b_.ptr b_.len b_.cap), (12, [], Value.int .i64 (Int.tmod (IntKind.i64.wrap cut) (IntKind.i64.wrap (((b_.len : Nat) : Int) + 1))))] (by kernel_rfl) (by kernel_rfl) ?_
              refine reg_end [(0, Value.slice l_.ptr l_.len l_.cap), (2, Value.slice more.ptr more.len more.cap), (7, Value.slice b_.ptr b_.len b_.cap), (12, Value.int .i64 (Int.tmod (IntKind.i64.wrap cut) (IntKind.i64.wrap (((b_.len : Nat) : Int) + 1))))] (by kernel_rfl) (by kernel_rfl) ?_
              change WpE _ _ c_towpathlaw06_LogfileBack_42 _ _ _
              refine wpE_seq (x := c_towpathlaw06_LogfileBack_43) (y := c_towpathlaw06_LogfileBack_45) (by kernel_rfl) ?_
              refine wpE_region (id := 10) (ops := r_towpathlaw06_LogfileBack_43) (by kernel_rfl) ?_
              refine reg_run [.plain, .plain] 2 [(0, [], Value.slice l_.ptr l_.len l_.cap), (2, [], Value.slice more.ptr more.len more.cap), (7, [], Value.slice b_.ptr b_.len b_.cap), (12, [], Value.int .i64 (Int.tmod (IntKind.i64.wrap cut) (IntKind.i64.wrap (((b_.len : Nat) : Int) + 1)))), (76, [], Value.slice b_.ptr b_.len b_.cap), (77, [], Value.int .i64 (Int.tmod (IntKind.i64.wrap cut) (IntKind.i64.wrap (((b_.len : Nat) : Int) + 1))))] (by kernel_rfl) (by kernel_rfl) ?_
              obtain ⟨h0, h1, h⟩ := h
              refine reg_sliceHi (t := 22) (e := 5) (x := (Go.Operand.tmp 76)) (hi := (Go.Operand.tmp 77)) (p := b_.ptr) (l := b_.len) (c := b_.cap) (sz := 1) (k := .i64) (j := (Int.tmod (IntKind.i64.wrap cut) (IntKind.i64.wrap (((b_.len : Nat) : Int) + 1)))) (ty := 22) (dst := some 78) (by kernel_rfl) (by kernel_rfl) (by kernel_rfl) (by kernel_rfl) (by kernel_rfl) h0 h1 ?_
              refine reg_run [] 3 [(0, [], Value.slice l_.ptr l_.len l_.cap), (2, [], Value.slice more.ptr more.len more.cap), (7, [], Value.slice b_.ptr b_.len b_.cap), (12, [], Value.int .i64 (Int.tmod (IntKind.i64.wrap cut) (IntKind.i64.wrap (((b_.len : Nat) : Int) + 1)))), (78, [], Value.slice b_.ptr ((Int.tmod (IntKind.i64.wrap cut) (IntKind.i64.wrap (((b_.len : Nat) : Int) + 1))).toNat) b_.cap)] (by kernel_rfl) (by kernel_rfl) ?_
              refine reg_enter (op := (Go.Op.call (Go.Call.mk (Go.Callee.value (Go.Operand.func 19)) #[(Go.Operand.tmp 78)] #[22]))) (ty := 42) (dst := some 79) 19 #[Value.slice b_.ptr ((Int.tmod (IntKind.i64.wrap cut) (IntKind.i64.wrap (((b_.len : Nat) : Int) + 1))).toNat) b_.cap] (by kernel_rfl) (fun ww => by kernel_rfl) (Calls.mono h ?_)
              rintro _ w7 ⟨y, part, g, rfl, h⟩
              refine ⟨_, rfl, ?_⟩
              refine reg_run [.plain, .plain, .plain, .plain, .plain, .plain, .plain] 11 [(0, [], Value.slice l_.ptr l_.len l_.cap), (2, [], Value.slice more.ptr more.len more.cap), (7, [], Value.slice b_.ptr b_.len b_.cap), (12, [], Value.int .i64 (Int.tmod (IntKind.i64.wrap cut) (IntKind.i64.wrap (((b_.len : Nat) : Int) + 1)))), (13, [], Value.slice y.ptr y.len y.cap), (14, [], Value.int .i64 part), (15, [], Value.int .i64 g)] (by kernel_rfl) (by kernel_rfl) ?_
              refine reg_end [(0, Value.slice l_.ptr l_.len l_.cap), (2, Value.slice more.ptr more.len more.cap), (7, Value.slice b_.ptr b_.len b_.cap), (12, Value.int .i64 (Int.tmod (IntKind.i64.wrap cut) (IntKind.i64.wrap (((b_.len : Nat) : Int) + 1)))), (13, Value.slice y.ptr y.len y.cap), (14, Value.int .i64 part), (15, Value.int .i64 g)] (by kernel_rfl) (by kernel_rfl) ?_
              change WpE _ _ c_towpathlaw06_LogfileBack_45 _ _ _
              refine wpE_seq (x := c_towpathlaw06_LogfileBack_46) (y := c_towpathlaw06_LogfileBack_55) (by kernel_rfl) ?_
              refine wpE_seq_cut (x := c_towpathlaw06_LogfileBack_47) (y := c_towpathlaw06_LogfileBack_49) (by kernel_rfl) (fun l w => ∃ (t117 : Bool), l = [(0, Value.slice l_.ptr l_.len l_.cap), (2, Value.slice more.ptr more.len more.cap), (7, Value.slice b_.ptr b_.len b_.cap), (13, Value.slice y.ptr y.len y.cap), (14, Value.int .i64 part), (117, Value.bool t117)] ∧ F_towpathlaw06_LogfileBack_k2 l_ more R b_ y part t117 w) ?_ ?_
              · refine wpE_region (id := 11) (ops := r_towpathlaw06_LogfileBack_47) (by kernel_rfl) ?_
                refine reg_run [.plain, .plain, .plain, .plain, .plain, .plain, .plain, .plain, .plain, .plain] 10 [(0, [], Value.slice l_.ptr l_.len l_.cap), (2, [], Value.slice more.ptr more.len more.cap), (7, [], Value.slice b_.ptr b_.len b_.cap), (12, [], Value.int .i64 (Int.tmod (IntKind.i64.wrap cut) (IntKind.i64.wrap (((b_.len : Nat) : Int) + 1)))), (13, [], Value.slice y.ptr y.len y.cap), (14, [], Value.int .i64 part), (15, [], Value.int .i64 g), (88, [], Value.bool (decide (((y.len : Nat) : Int) > ((l_.len : Nat) : Int)))), (89, [(88, false)], Value.slice y.ptr y.len y.cap), (90, [(88, false)], Value.slice l_.ptr l_.len l_.cap), (92, [(88, false)], Value.int .i64 ((y.len : Nat) : Int))] (by kernel_rfl) (by kernel_rfl) ?_
                refine reg_split 88 (decide (((y.len : Nat) : Int) > ((l_.len : Nat) : Int))) (by kernel_rfl) (fun hb => ?_) (fun hb => ?_)
                · replace h := h.1 hb
                  refine reg_run [] 10 [(0, [], Value.slice l_.ptr l_.len l_.cap), (2, [], Value.slice more.ptr more.len more.cap), (7, [], Value.slice b_.ptr b_.len b_.cap), (12, [], Value.int .i64 (Int.tmod (IntKind.i64.wrap cut) (IntKind.i64.wrap (((b_.len : Nat) : Int) + 1)))), (13, [], Value.slice y.ptr y.len y.cap), (14, [], Value.int .i64 part), (15, [], Value.int .i64 g), (88, [], Value.bool true), (89, [], undef), (90, [], undef), (92, [], undef)] (by kernel_rfl) (by kernel_rfl) ?_
                  refine reg_run [.skip, .skip, .skip, .plain, .plain, .skip, .skip, .skip, .skip, .skip, .skip, .plain, .plain, .skip, .skip, .skip, .skip, .skip, .skip, .plain, .plain, .skip, .skip, .skip, .plain] 35 [(0, [], Value.slice l_.ptr l_.len l_.cap), (2, [], Value.slice more.ptr more.len more.cap), (7, [], Value.slice b_.ptr b_.len b_.cap), (13, [], Value.slice y.ptr y.len y.cap), (14, [], Value.int .i64 part), (117, [], Value.bool true)] (by kernel_rfl) (by kernel_rfl) ?_
                  refine reg_end [(0, Value.slice l_.ptr l_.len l_.cap), (2, Value.slice more.ptr more.len more.cap), (7, Value.slice b_.ptr b_.len b_.cap), (13, Value.slice y.ptr y.len y.cap), (14, Value.int .i64 part), (117, Value.bool true)] (by kernel_rfl) (by kernel_rfl) ?_
                  exact ⟨[(0, Value.slice l_.ptr l_.len l_.cap), (2, Value.slice more.ptr more.len more.cap), (7, Value.slice b_.ptr b_.len b_.cap), (13, Value.slice y.ptr y.len y.cap), (14, Value.int .i64 part), (117, Value.bool true)], Sub.mk (by kernel_rfl), true, rfl, h⟩
                · replace h := h.2 hb
                  refine reg_run [] 10 [(0, [], Value.slice l_.ptr l_.len l_.cap), (2, [], Value.slice more.ptr more.len more.cap), (7, [], Value.slice b_.ptr b_.len b_.cap), (12, [], Value.int .i64 (Int.tmod (IntKind.i64.wrap cut) (IntKind.i64.wrap (((b_.len : Nat) : Int) + 1)))), (13, [], Value.slice y.ptr y.len y.cap), (14, [], Value.int .i64 part), (15, [], Value.int .i64 g), (88, [], Value.bool false), (89, [], Value.slice y.ptr y.len y.cap), (90, [], Value.slice l_.ptr l_.len l_.cap), (92, [], Value.int .i64 ((y.len : Nat) : Int))] (by kernel_rfl) (by kernel_rfl) ?_
                  refine reg_run [] 10 [(0, [], Value.slice l_.ptr l_.len l_.cap), (2, [], Value.slice more.ptr more.len more.cap), (7, [], Value.slice b_.ptr b_.len b_.cap), (12, [], Value.int .i64 (Int.tmod (IntKind.i64.wrap cut) (IntKind.i64.wrap (((b_.len : Nat) : Int) + 1)))), (13, [], Value.slice y.ptr y.len y.cap), (14, [], Value.int .i64 part), (15, [], Value.int .i64 g), (88, [], Value.bool false), (89, [], Value.slice y.ptr y.len y.cap), (90, [], Value.slice l_.ptr l_.len l_.cap), (92, [], Value.int .i64 ((y.len : Nat) : Int))] (by kernel_rfl) (by kernel_rfl) ?_
                  obtain ⟨h0, h1, h⟩ := h
                  refine reg_sliceHi (t := 37) (e := 49) (x := (Go.Operand.tmp 90)) (hi := (Go.Operand.tmp 92)) (p := l_.ptr) (l := l_.len) (c := l_.cap) (sz := 2) (k := .i64) (j := ((y.len : Nat) : Int)) (ty := 37) (dst := some 93) (by kernel_rfl) (by kernel_rfl) (by kernel_rfl) (by kernel_rfl) (by kernel_rfl) h0 h1 ?_
                  refine reg_run [] 11 [(0, [], Value.slice l_.ptr l_.len l_.cap), (2, [], Value.slice more.ptr more.len more.cap), (7, [], Value.slice b_.ptr b_.len b_.cap), (12, [], Value.int .i64 (Int.tmod (IntKind.i64.wrap cut) (IntKind.i64.wrap (((b_.len : Nat) : Int) + 1)))), (13, [], Value.slice y.ptr y.len y.cap), (14, [], Value.int .i64 part), (15, [], Value.int .i64 g), (88, [], Value.bool false), (89, [], Value.slice y.ptr y.len y.cap), (93, [], Value.slice l_.ptr (((y.len : Nat) : Int).toNat) l_.cap)] (by kernel_rfl) (by kernel_rfl) ?_
                  refine reg_enter (op := (Go.Op.call (Go.Call.mk (Go.Callee.value (Go.Operand.func 20)) #[(Go.Operand.tmp 89), (Go.Operand.tmp 93)] #[37, 37]))) (ty := 4) (dst := some 94) 20 #[Value.slice y.ptr y.len y.cap, Value.slice l_.ptr (((y.len : Nat) : Int).toNat) l_.cap] (by kernel_rfl) (fun ww => by kernel_rfl) (Calls.mono h ?_)
                  rintro _ w16 ⟨v94, rfl, h⟩
                  refine ⟨_, rfl, ?_⟩
                  refine reg_run [.sure, .plain, .plain, .plain, .plain, .plain, .plain, .plain, .plain, .pick, .plain, .plain, .plain, .plain, .plain, .plain, .pick, .pick, .plain, .plain, .plain, .plain, .pick] 35 [(0, [], Value.slice l_.ptr l_.len l_.cap), (2, [], Value.slice more.ptr more.len more.cap), (7, [], Value.slice b_.ptr b_.len b_.cap), (13, [], Value.slice y.ptr y.len y.cap), (14, [], Value.int .i64 part), (117, [], Value.bool ((((!v94) || (!((g == 0) == (part == (Int.tmod (IntKind.i64.wrap cut) (IntKind.i64.wrap (((b_.len : Nat) : Int) + 1))))))) || ((g != 0) && (g != 5))) || (decide (part > (Int.tmod (IntKind.i64.wrap cut) (IntKind.i64.wrap (((b_.len : Nat) : Int) + 1)))))))] (by kernel_rfl) (by kernel_rfl) ?_
                  refine reg_end [(0, Value.slice l_.ptr l_.len l_.cap), (2, Value.slice more.ptr more.len more.cap), (7, Value.slice b_.ptr b_.len b_.cap), (13, Value.slice y.ptr y.len y.cap), (14, Value.int .i64 part), (117, Value.bool ((((!v94) || (!((g == 0) == (part == (Int.tmod (IntKind.i64.wrap cut) (IntKind.i64.wrap (((b_.len : Nat) : Int) + 1))))))) || ((g != 0) && (g != 5))) || (decide (part > (Int.tmod (IntKind.i64.wrap cut) (IntKind.i64.wrap (((b_.len : Nat) : Int) + 1)))))))] (by kernel_rfl) (by kernel_rfl) ?_
                  exact ⟨[(0, Value.slice l_.ptr l_.len l_.cap), (2, Value.slice more.ptr more.len more.cap), (7, Value.slice b_.ptr b_.len b_.cap), (13, Value.slice y.ptr y.len y.cap), (14, Value.int .i64 part), (117, Value.bool ((((!v94) || (!((g == 0) == (part == (Int.tmod (IntKind.i64.wrap cut) (IntKind.i64.wrap (((b_.len : Nat) : Int) + 1))))))) || ((g != 0) && (g != 5))) || (decide (part > (Int.tmod (IntKind.i64.wrap cut) (IntKind.i64.wrap (((b_.len : Nat) : Int) + 1)))))))], Sub.mk (by kernel_rfl), ((((!v94) || (!((g == 0) == (part == (Int.tmod (IntKind.i64.wrap cut) (IntKind.i64.wrap (((b_.len : Nat) : Int) + 1))))))) || ((g != 0) && (g != 5))) || (decide (part > (Int.tmod (IntKind.i64.wrap cut) (IntKind.i64.wrap (((b_.len : Nat) : Int) + 1)))))), rfl, h⟩
              · rintro _ w8 ⟨t117, rfl, h⟩
                unfold F_towpathlaw06_LogfileBack_k2 at h
                refine wpE_cond (o := (Operand.tmp 117)) (b := t117) (x := c_towpathlaw06_LogfileBack_50) (y := c_towpathlaw06_LogfileBack_54) (by kernel_rfl) (by kernel_rfl) (fun hb => ?_) (fun hb => ?_)
                · replace h := h.1 hb
                  refine wpE_seq (x := c_towpathlaw06_LogfileBack_51) (y := c_towpathlaw06_LogfileBack_53) (by kernel_rfl) ?_
                  refine wpE_region (id := 12) (ops := r_towpathlaw06_LogfileBack_51) (by kernel_rfl) ?_
                  refine reg_run [.plain] 1 [(6, [], Value.bool false)] (by kernel_rfl) (by kernel_rfl) ?_
                  refine reg_end [(6, Value.bool false)] (by kernel_rfl) (by kernel_rfl) ?_
                  change WpE _ _ c_towpathlaw06_LogfileBack_53 _ _ _
                  refine wpE_ret (by kernel_rfl) ?_
                  repeat (first | refine seqQ_ret ?_ | refine blockQ_ret ?_ | refine loopQ_ret ?_ | refine cutQ_ret ?_)
                  exact retS (rs := [(Go.ResultVar.tmp 6)]) (v := Value.bool false) (by kernel_rfl) (⟨by kernel_rfl, trivial⟩) ⟨false, rfl, h⟩
                · replace h := h.2 hb
                  refine wpE_skip (by kernel_rfl) ?_
                  change WpE _ _ c_towpathlaw06_LogfileBack_55 _ _ _
                  refine wpE_seq (x := c_towpathlaw06_LogfileBack_56) (y := c_towpathlaw06_LogfileBack_58) (by kernel_rfl) ?_
                  refine wpE_region (id := 13) (ops := r_towpathlaw06_LogfileBack_56) (by kernel_rfl) ?_
                  refine reg_run [.plain] 1 [(0, [], Value.slice l_.ptr l_.len l_.cap), (2, [], Value.slice more.ptr more.len more.cap), (7, [], Value.slice b_.ptr b_.len b_.cap), (14, [], Value.int .i64 part), (119, [], Value.slice y.ptr y.len y.cap)] (by kernel_rfl) (by kernel_rfl) ?_
                  refine reg_enter (op := (Go.Op.call (Go.Call.mk (Go.Callee.value (Go.Operand.func 17)) #[(Go.Operand.tmp 119)] #[37]))) (ty := 32) (dst := some 120) 17 #[Value.slice y.ptr y.len y.cap] (by kernel_rfl) (fun ww => by kernel_rfl) (Calls.mono h ?_)
                  rintro _ w9 ⟨c, h_, rfl, h⟩
                  refine ⟨_, rfl, ?_⟩
                  refine reg_run [.plain, .plain, .plain, .plain, .plain] 7 [(0, [], Value.slice l_.ptr l_.len l_.cap), (2, [], Value.slice more.ptr more.len more.cap), (7, [], Value.slice b_.ptr b_.len b_.cap), (14, [], Value.int .i64 part), (16, [], Value.slice c.ptr c.len c.cap), (17, [], Value.int .i64 h_)] (by kernel_rfl) (by kernel_rfl) ?_
                  refine reg_end [(0, Value.slice l_.ptr l_.len l_.cap), (2, Value.slice more.ptr more.len more.cap), (7, Value.slice b_.ptr b_.len b_.cap), (14, Value.int .i64 part), (16, Value.slice c.ptr c.len c.cap), (17, Value.int .i64 h_)] (by kernel_rfl) (by kernel_rfl) ?_
                  change WpE _ _ c_towpathlaw06_LogfileBack_58 _ _ _
                  refine wpE_seq (x := c_towpathlaw06_LogfileBack_59) (y := c_towpathlaw06_LogfileBack_68) (by kernel_rfl) ?_
                  refine wpE_seq_cut (x := c_towpathlaw06_LogfileBack_60) (y := c_towpathlaw06_LogfileBack_62) (by kernel_rfl) (fun l w => ∃ (t132 : Bool), l = [(0, Value.slice l_.ptr l_.len l_.cap), (2, Value.slice more.ptr more.len more.cap), (7, Value.slice b_.ptr b_.len b_.cap), (132, Value.bool t132)] ∧ F_towpathlaw06_LogfileBack_k3 l_ more R b_ t132 w) ?_ ?_
                  · refine wpE_region (id := 14) (ops := r_towpathlaw06_LogfileBack_60) (by kernel_rfl) ?_
                    refine reg_run [.plain, .plain, .plain, .plain, .plain, .plain] 6 [(0, [], Value.slice l_.ptr l_.len l_.cap), (2, [], Value.slice more.ptr more.len more.cap), (7, [], Value.slice b_.ptr b_.len b_.cap), (125, [], Value.bool (h_ != 0)), (126, [(125, false)], Value.slice c.ptr c.len c.cap), (127, [(125, false)], Value.slice b_.ptr b_.len b_.cap), (128, [(125, false)], Value.int .i64 part)] (by kernel_rfl) (by kernel_rfl) ?_
                    refine reg_split 125 (h_ != 0) (by kernel_rfl) (fun hb => ?_) (fun hb => ?_)
                    · replace h := h.1 hb
                      refine reg_run [] 6 [(0, [], Value.slice l_.ptr l_.len l_.cap), (2, [], Value.slice more.ptr more.len more.cap), (7, [], Value.slice b_.ptr b_.len b_.cap), (125, [], Value.bool true), (126, [], undef), (127, [], undef), (128, [], undef)] (by kernel_rfl) (by kernel_rfl) ?_
                      refine reg_run [.skip, .skip, .skip, .plain] 10 [(0, [], Value.slice l_.ptr l_.len l_.cap), (2, [], Value.slice more.ptr more.len more.cap), (7, [], Value.slice b_.ptr b_.len b_.cap), (132, [], Value.bool true)] (by kernel_rfl) (by kernel_rfl) ?_
                      refine reg_end [(0, Value.slice l_.ptr l_.len l_.cap), (2, Value.slice more.ptr more.len more.cap), (7, Value.slice b_.ptr b_.len b_.cap), (132, Value.bool true)] (by kernel_rfl) (by kernel_rfl) ?_
                      exact ⟨[(0, Value.slice l_.ptr l_.len l_.cap), (2, Value.slice more.ptr more.len more.cap), (7, Value.slice b_.ptr b_.len b_.cap), (132, Value.bool true)], Sub.mk (by kernel_rfl), true, rfl, h⟩
                    · replace h := h.2 hb
                      refine reg_run [] 6 [(0, [], Value.slice l_.ptr l_.len l_.cap), (2, [], Value.slice more.ptr more.len more.cap), (7, [], Value.slice b_.ptr b_.len b_.cap), (125, [], Value.bool false), (126, [], Value.slice c.ptr c.len c.cap), (127, [], Value.slice b_.ptr b_.len b_.cap), (128, [], Value.int .i64 part)] (by kernel_rfl) (by kernel_rfl) ?_
                      refine reg_run [] 6 [(0, [], Value.slice l_.ptr l_.len l_.cap), (2, [], Value.slice more.ptr more.len more.cap), (7, [], Value.slice b_.ptr b_.len b_.cap), (125, [], Value.bool false), (126, [], Value.slice c.ptr c.len c.cap), (127, [], Value.slice b_.ptr b_.len b_.cap), (128, [], Value.int .i64 part)] (by kernel_rfl) (by kernel_rfl) ?_
                      obtain ⟨h0, h1, h⟩ := h
                      refine reg_sliceHi (t := 22) (e := 5) (x := (Go.Operand.tmp 127)) (hi := (Go.Operand.tmp 128)) (p := b_.ptr) (l := b_.len) (c := b_.cap) (sz := 1) (k := .i64) (j := part) (ty := 22) (dst := some 129) (by kernel_rfl) (by kernel_rfl) (by kernel_rfl) (by kernel_rfl) (by kernel_rfl) h0 h1 ?_
                      refine reg_run [] 7 [(0, [], Value.slice l_.ptr l_.len l_.cap), (2, [], Value.slice more.ptr more.len more.cap), (7, [], Value.slice b_.ptr b_.len b_.cap), (125, [], Value.bool false), (126, [], Value.slice c.ptr c.len c.cap), (129, [], Value.slice b_.ptr part.toNat b_.cap)] (by kernel_rfl) (by kernel_rfl) ?_
                      refine reg_enter (op := (Go.Op.call (Go.Call.mk (Go.Callee.value (Go.Operand.func 14)) #[(Go.Operand.tmp 126), (Go.Operand.tmp 129)] #[22, 22]))) (ty := 4) (dst := some 130) 14 #[Value.slice c.ptr c.len c.cap, Value.slice b_.ptr part.toNat b_.cap] (by kernel_rfl) (fun ww => by kernel_rfl) (Calls.mono h ?_)
                      rintro _ w15 ⟨v130, rfl, h⟩
                      refine ⟨_, rfl, ?_⟩
                      refine reg_run [.sure, .plain] 10 [(0, [], Value.slice l_.ptr l_.len l_.cap), (2, [], Value.slice more.ptr more.len more.cap), (7, [], Value.slice b_.ptr b_.len b_.cap), (132, [], Value.bool (!v130))] (by kernel_rfl) (by kernel_rfl) ?_
                      refine reg_end [(0, Value.slice l_.ptr l_.len l_.cap), (2, Value.slice more.ptr more.len more.cap), (7, Value.slice b_.ptr b_.len b_.cap), (132, Value.bool (!v130))] (by kernel_rfl) (by kernel_rfl) ?_
                      exact ⟨[(0, Value.slice l_.ptr l_.len l_.cap), (2, Value.slice more.ptr more.len more.cap), (7, Value.slice b_.ptr b_.len b_.cap), (132, Value.bool (!v130))], Sub.mk (by kernel_rfl), (!v130), rfl, h⟩
                  · rintro _ w10 ⟨t132, rfl, h⟩
                    unfold F_towpathlaw06_LogfileBack_k3 at h
                    refine wpE_cond (o := (Operand.tmp 132)) (b := t132) (x := c_towpathlaw06_LogfileBack_63) (y := c_towpathlaw06_LogfileBack_67) (by kernel_rfl) (by kernel_rfl) (fun hb => ?_) (fun hb => ?_)
                    · replace h := h.1 hb
                      refine wpE_seq (x := c_towpathlaw06_LogfileBack_64) (y := c_towpathlaw06_LogfileBack_66) (by kernel_rfl) ?_
                      refine wpE_region (id := 15) (ops := r_towpathlaw06_LogfileBack_64) (by kernel_rfl) ?_
                      refine reg_run [.plain] 1 [(6, [], Value.bool false)] (by kernel_rfl) (by kernel_rfl) ?_
                      refine reg_end [(6, Value.bool false)] (by kernel_rfl) (by kernel_rfl) ?_
                      change WpE _ _ c_towpathlaw06_LogfileBack_66 _ _ _
                      refine wpE_ret (by kernel_rfl) ?_
                      repeat (first | refine seqQ_ret ?_ | refine blockQ_ret ?_ | refine loopQ_ret ?_ | refine cutQ_ret ?_)
                      exact retS (rs := [(Go.ResultVar.tmp 6)]) (v := Value.bool false) (by kernel_rfl) (⟨by kernel_rfl, trivial⟩) ⟨false, rfl, h⟩
                    · replace h := h.2 hb
                      refine wpE_skip (by kernel_rfl) ?_
                      change WpE _ _ c_towpathlaw06_LogfileBack_68 _ _ _
                      refine wpE_seq (x := c_towpathlaw06_LogfileBack_69) (y := c_towpathlaw06_LogfileBack_71) (by kernel_rfl) ?_
                      refine wpE_region (id := 16) (ops := r_towpathlaw06_LogfileBack_69) (by kernel_rfl) ?_
                      refine reg_run [.plain] 1 [(0, [], Value.slice l_.ptr l_.len l_.cap), (2, [], Value.slice more.ptr more.len more.cap), (7, [], Value.slice b_.ptr b_.len b_.cap), (133, [], Value.slice b_.ptr b_.len b_.cap)] (by kernel_rfl) (by kernel_rfl) ?_
                      refine reg_enter (op := (Go.Op.call (Go.Call.mk (Go.Callee.value (Go.Operand.func 21)) #[(Go.Operand.tmp 133)] #[22]))) (ty := 22) (dst := some 134) 21 #[Value.slice b_.ptr b_.len b_.cap] (by kernel_rfl) (fun ww => by kernel_rfl) (Calls.mono h ?_)
                      rintro _ w11 ⟨v134, rfl, h⟩
                      refine ⟨_, rfl, ?_⟩
                      refine reg_run [.plain] 3 [(0, [], Value.slice l_.ptr l_.len l_.cap), (2, [], Value.slice more.ptr more.len more.cap), (7, [], Value.slice b_.ptr b_.len b_.cap), (18, [], Value.slice v134.ptr v134.len v134.cap)] (by kernel_rfl) (by kernel_rfl) ?_
                      refine reg_end [(0, Value.slice l_.ptr l_.len l_.cap), (2, Value.slice more.ptr more.len more.cap), (7, Value.slice b_.ptr b_.len b_.cap), (18, Value.slice v134.ptr v134.len v134.cap)] (by kernel_rfl) (by kernel_rfl) ?_
                      change WpE _ _ c_towpathlaw06_LogfileBack_71 _ _ _
                      refine wpE_seq (x := c_towpathlaw06_LogfileBack_72) (y := c_towpathlaw06_LogfileBack_74) (by kernel_rfl) ?_
                      refine wpE_region (id := 17) (ops := r_towpathlaw06_LogfileBack_72) (by kernel_rfl) ?_
                      refine reg_run [.plain, .plain] 2 [(0, [], Value.slice l_.ptr l_.len l_.cap), (7, [], Value.slice b_.ptr b_.len b_.cap), (18, [], Value.slice v134.ptr v134.len v134.cap), (135, [], Value.slice v134.ptr v134.len v134.cap), (136, [], Value.slice more.ptr more.len more.cap)] (by kernel_rfl) (by kernel_rfl) ?_
                      obtain ⟨src, hs, h⟩ := h
                      refine reg_append (t := 22) (tx := 22) (e := 5) (a := (Go.Operand.tmp 135)) (xo := (Go.Operand.tmp 136)) (s := v134) (x := more) (sz := 1) (by_ := 1) (zs := [Value.int .u8 0]) (ty := 22) (dst := some 137)  src (by kernel_rfl) (by kernel_rfl) (by kernel_rfl) (by kernel_rfl) (by kernel_rfl) (by kernel_rfl) (by kernel_rfl) (by kernel_rfl) (by kernel_rfl) hs (AppendW.mono h (fun d w12 h => ?_))
                      refine reg_run [.plain] 4 [(0, [], Value.slice l_.ptr l_.len l_.cap), (7, [], Value.slice b_.ptr b_.len b_.cap), (18, [], Value.slice d.ptr d.len d.cap)] (by kernel_rfl) (by kernel_rfl) ?_
                      refine reg_end [(0, Value.slice l_.ptr l_.len l_.cap), (7, Value.slice b_.ptr b_.len b_.cap), (18, Value.slice d.ptr d.len d.cap)] (by kernel_rfl) (by kernel_rfl) ?_
                      change WpE _ _ c_towpathlaw06_LogfileBack_74 _ _ _
                      refine wpE_seq (x := c_towpathlaw06_LogfileBack_75) (y := c_towpathlaw06_LogfileBack_77) (by kernel_rfl) ?_
                      refine wpE_region (id := 18) (ops := r_towpathlaw06_LogfileBack_75) (by kernel_rfl) ?_
                      refine reg_run [.plain] 1 [(0, [], Value.slice l_.ptr l_.len l_.cap), (7, [], Value.slice b_.ptr b_.len b_.cap), (139, [], Value.slice d.ptr d.len d.cap)] (by kernel_rfl) (by kernel_rfl) ?_
                      refine reg_enter (op := (Go.Op.call (Go.Call.mk (Go.Callee.value (Go.Operand.func 19)) #[(Go.Operand.tmp 139)] #[22]))) (ty := 42) (dst := some 140) 19 #[Value.slice d.ptr d.len d.cap] (by kernel_rfl) (fun ww => by kernel_rfl) (Calls.mono h ?_)
                      rintro _ w13 ⟨z, all, v140_2, rfl, h⟩
                      refine ⟨_, rfl, ?_⟩
                      refine reg_run [.plain, .plain, .plain, .plain, .plain, .plain, .plain] 9 [(0, [], Value.slice l_.ptr l_.len l_.cap), (7, [], Value.slice b_.ptr b_.len b_.cap), (19, [], Value.slice z.ptr z.len z.cap), (20, [], Value.int .i64 all)] (by kernel_rfl) (by kernel_rfl) ?_
                      refine reg_end [(0, Value.slice l_.ptr l_.len l_.cap), (7, Value.slice b_.ptr b_.len b_.cap), (19, Value.slice z.ptr z.len z.cap), (20, Value.int .i64 all)] (by kernel_rfl) (by kernel_rfl) ?_
                      change WpE _ _ c_towpathlaw06_LogfileBack_77 _ _ _
                      refine wpE_seq (x := c_towpathlaw06_LogfileBack_78) (y := c_towpathlaw06_LogfileBack_80) (by kernel_rfl) ?_
                      refine wpE_region (id := 19) (ops := r_towpathlaw06_LogfileBack_78) (by kernel_rfl) ?_
                      refine reg_run [.plain, .plain, .plain, .plain, .plain, .plain, .plain, .plain, .plain, .plain, .pick, .plain, .plain, .plain, .plain] 15 [(0, [], Value.slice l_.ptr l_.len l_.cap), (155, [], Value.bool ((decide (all ≥ ((b_.len : Nat) : Int))) && (decide (((z.len : Nat) : Int) ≥ ((l_.len : Nat) : Int))))), (156, [(155, true)], Value.slice z.ptr z.len z.cap), (158, [(155, true)], Value.int .i64 ((l_.len : Nat) : Int))] (by kernel_rfl) (by kernel_rfl) ?_
                      refine reg_split 155 ((decide (all ≥ ((b_.len : Nat) : Int))) && (decide (((z.len : Nat) : Int) ≥ ((l_.len : Nat) : Int)))) (by kernel_rfl) (fun hb => ?_) (fun hb => ?_)
                      · replace h := h.1 hb
                        refine reg_run [] 15 [(0, [], Value.slice l_.ptr l_.len l_.cap), (155, [], Value.bool true), (156, [], Value.slice z.ptr z.len z.cap), (158, [], Value.int .i64 ((l_.len : Nat) : Int))] (by kernel_rfl) (by kernel_rfl) ?_
                        refine reg_run [] 15 [(0, [], Value.slice l_.ptr l_.len l_.cap), (155, [], Value.bool true), (156, [], Value.slice z.ptr z.len z.cap), (158, [], Value.int .i64 ((l_.len : Nat) : Int))] (by kernel_rfl) (by kernel_rfl) ?_
                        obtain ⟨h0, h1, h⟩ := h
                        refine reg_sliceHi (t := 37) (e := 49) (x := (Go.Operand.tmp 156)) (hi := (Go.Operand.tmp 158)) (p := z.ptr) (l := z.len) (c := z.cap) (sz := 2) (k := .i64) (j := ((l_.len : Nat) : Int)) (ty := 37) (dst := some 159) (by kernel_rfl) (by kernel_rfl) (by kernel_rfl) (by kernel_rfl) (by kernel_rfl) h0 h1 ?_
                        refine reg_run [.sure] 17 [(155, [], Value.bool true), (159, [], Value.slice z.ptr (((l_.len : Nat) : Int).toNat) z.cap), (160, [], Value.slice l_.ptr l_.len l_.cap)] (by kernel_rfl) (by kernel_rfl) ?_
                        refine reg_enter (op := (Go.Op.call (Go.Call.mk (Go.Callee.value (Go.Operand.func 20)) #[(Go.Operand.tmp 159), (Go.Operand.tmp 160)] #[37, 37]))) (ty := 4) (dst := some 161) 20 #[Value.slice z.ptr (((l_.len : Nat) : Int).toNat) z.cap, Value.slice l_.ptr l_.len l_.cap] (by kernel_rfl) (fun ww => by kernel_rfl) (Calls.mono h ?_)
                        rintro _ w14 ⟨v161, rfl, h⟩
                        refine ⟨_, rfl, ?_⟩
                        refine reg_run [.plain, .plain] 20 [(6, [], Value.bool v161)] (by kernel_rfl) (by kernel_rfl) ?_
                        refine reg_end [(6, Value.bool v161)] (by kernel_rfl) (by kernel_rfl) ?_
                        change WpE _ _ c_towpathlaw06_LogfileBack_80 _ _ _
                        refine wpE_ret (by kernel_rfl) ?_
                        repeat (first | refine seqQ_ret ?_ | refine blockQ_ret ?_ | refine loopQ_ret ?_ | refine cutQ_ret ?_)
                        exact retS (rs := [(Go.ResultVar.tmp 6)]) (v := Value.bool v161) (by kernel_rfl) (⟨by kernel_rfl, trivial⟩) ⟨v161, rfl, h⟩
                      · replace h := h.2 hb
                        refine reg_run [] 15 [(0, [], Value.slice l_.ptr l_.len l_.cap), (155, [], Value.bool false), (156, [], undef), (158, [], undef)] (by kernel_rfl) (by kernel_rfl) ?_
                        refine reg_run [.skip, .skip, .skip, .plain, .plain] 20 [(6, [], Value.bool false)] (by kernel_rfl) (by kernel_rfl) ?_
                        refine reg_end [(6, Value.bool false)] (by kernel_rfl) (by kernel_rfl) ?_
                        change WpE _ _ c_towpathlaw06_LogfileBack_80 _ _ _
                        refine wpE_ret (by kernel_rfl) ?_
                        repeat (first | refine seqQ_ret ?_ | refine blockQ_ret ?_ | refine loopQ_ret ?_ | refine cutQ_ret ?_)
                        exact retS (rs := [(Go.ResultVar.tmp 6)]) (v := Value.bool false) (by kernel_rfl) (⟨by kernel_rfl, trivial⟩) ⟨false, rfl, h⟩
  · rintro e w' ⟨v, rfl, r0, rfl, h⟩; exact ⟨r0, rfl, h⟩
end Go.Proofs.Ytpdegdnigcnjiaa
