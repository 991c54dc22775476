/- WRITTEN BY PROGRAM (dec.py): for each Go function the clean formula F, the call's contract C, and the proof S that F gives C. -/
import Derived.Test.YtpdegdnigcnjiaaRows
import Derived.Test.YtpdegdnigcnjiaaGF
namespace Go.Proofs.Ytpdegdnigcnjiaa
open Go
set_option linter.unusedVariables false

/-! ### towpath/towpathlaw06.LogfileAsked (function 7) -/
noncomputable def c_towpathlaw06_LogfileAsked_0 : Code := (Try.f7.body).getD Code.skip
noncomputable def c_towpathlaw06_LogfileAsked_1 : Code := Code.l c_towpathlaw06_LogfileAsked_0
noncomputable def r_towpathlaw06_LogfileAsked_1 : Array Oper := Code.ops c_towpathlaw06_LogfileAsked_1
noncomputable def c_towpathlaw06_LogfileAsked_3 : Code := Code.r c_towpathlaw06_LogfileAsked_0
noncomputable def c_towpathlaw06_LogfileAsked_4 : Code := Code.l c_towpathlaw06_LogfileAsked_3
noncomputable def c_towpathlaw06_LogfileAsked_5 : Code := Code.l c_towpathlaw06_LogfileAsked_4
noncomputable def r_towpathlaw06_LogfileAsked_5 : Array Oper := Code.ops c_towpathlaw06_LogfileAsked_5
noncomputable def c_towpathlaw06_LogfileAsked_7 : Code := Code.r c_towpathlaw06_LogfileAsked_4
noncomputable def c_towpathlaw06_LogfileAsked_8 : Code := Code.l c_towpathlaw06_LogfileAsked_7
noncomputable def c_towpathlaw06_LogfileAsked_9 : Code := Code.l c_towpathlaw06_LogfileAsked_8
noncomputable def r_towpathlaw06_LogfileAsked_9 : Array Oper := Code.ops c_towpathlaw06_LogfileAsked_9
noncomputable def c_towpathlaw06_LogfileAsked_11 : Code := Code.r c_towpathlaw06_LogfileAsked_8
noncomputable def c_towpathlaw06_LogfileAsked_12 : Code := Code.r c_towpathlaw06_LogfileAsked_7
noncomputable def c_towpathlaw06_LogfileAsked_13 : Code := Code.r c_towpathlaw06_LogfileAsked_3
noncomputable def c_towpathlaw06_LogfileAsked_14 : Code := Code.l c_towpathlaw06_LogfileAsked_13
noncomputable def r_towpathlaw06_LogfileAsked_14 : Array Oper := Code.ops c_towpathlaw06_LogfileAsked_14
noncomputable def c_towpathlaw06_LogfileAsked_16 : Code := Code.r c_towpathlaw06_LogfileAsked_13
noncomputable def c_towpathlaw06_LogfileAsked_17 : Code := Code.l c_towpathlaw06_LogfileAsked_16
noncomputable def c_towpathlaw06_LogfileAsked_18 : Code := Code.l c_towpathlaw06_LogfileAsked_17
noncomputable def r_towpathlaw06_LogfileAsked_18 : Array Oper := Code.ops c_towpathlaw06_LogfileAsked_18
noncomputable def c_towpathlaw06_LogfileAsked_20 : Code := Code.r c_towpathlaw06_LogfileAsked_17
noncomputable def c_towpathlaw06_LogfileAsked_21 : Code := Code.l c_towpathlaw06_LogfileAsked_20
noncomputable def c_towpathlaw06_LogfileAsked_22 : Code := Code.l c_towpathlaw06_LogfileAsked_21
noncomputable def r_towpathlaw06_LogfileAsked_22 : Array Oper := Code.ops c_towpathlaw06_LogfileAsked_22
noncomputable def c_towpathlaw06_LogfileAsked_24 : Code := Code.r c_towpathlaw06_LogfileAsked_21
noncomputable def c_towpathlaw06_LogfileAsked_25 : Code := Code.r c_towpathlaw06_LogfileAsked_20
noncomputable def c_towpathlaw06_LogfileAsked_26 : Code := Code.r c_towpathlaw06_LogfileAsked_16
noncomputable def c_towpathlaw06_LogfileAsked_27 : Code := Code.l c_towpathlaw06_LogfileAsked_26
noncomputable def r_towpathlaw06_LogfileAsked_27 : Array Oper := Code.ops c_towpathlaw06_LogfileAsked_27
noncomputable def c_towpathlaw06_LogfileAsked_29 : Code := Code.r c_towpathlaw06_LogfileAsked_26
noncomputable def c_towpathlaw06_LogfileAsked_30 : Code := Code.l c_towpathlaw06_LogfileAsked_29
noncomputable def c_towpathlaw06_LogfileAsked_31 : Code := Code.l c_towpathlaw06_LogfileAsked_30
noncomputable def r_towpathlaw06_LogfileAsked_31 : Array Oper := Code.ops c_towpathlaw06_LogfileAsked_31
noncomputable def c_towpathlaw06_LogfileAsked_33 : Code := Code.r c_towpathlaw06_LogfileAsked_30
noncomputable def c_towpathlaw06_LogfileAsked_34 : Code := Code.l c_towpathlaw06_LogfileAsked_33
noncomputable def c_towpathlaw06_LogfileAsked_35 : Code := Code.l c_towpathlaw06_LogfileAsked_34
noncomputable def c_towpathlaw06_LogfileAsked_36 : Code := Code.l c_towpathlaw06_LogfileAsked_35
noncomputable def c_towpathlaw06_LogfileAsked_37 : Code := Code.l c_towpathlaw06_LogfileAsked_36
noncomputable def r_towpathlaw06_LogfileAsked_37 : Array Oper := Code.ops c_towpathlaw06_LogfileAsked_37
noncomputable def c_towpathlaw06_LogfileAsked_39 : Code := Code.r c_towpathlaw06_LogfileAsked_36
noncomputable def c_towpathlaw06_LogfileAsked_40 : Code := Code.l c_towpathlaw06_LogfileAsked_39
noncomputable def c_towpathlaw06_LogfileAsked_41 : Code := Code.r c_towpathlaw06_LogfileAsked_39
noncomputable def c_towpathlaw06_LogfileAsked_42 : Code := Code.r c_towpathlaw06_LogfileAsked_35
noncomputable def c_towpathlaw06_LogfileAsked_43 : Code := Code.l c_towpathlaw06_LogfileAsked_42
noncomputable def c_towpathlaw06_LogfileAsked_44 : Code := Code.l c_towpathlaw06_LogfileAsked_43
noncomputable def c_towpathlaw06_LogfileAsked_45 : Code := Code.l c_towpathlaw06_LogfileAsked_44
noncomputable def r_towpathlaw06_LogfileAsked_45 : Array Oper := Code.ops c_towpathlaw06_LogfileAsked_45
noncomputable def c_towpathlaw06_LogfileAsked_47 : Code := Code.r c_towpathlaw06_LogfileAsked_44
noncomputable def c_towpathlaw06_LogfileAsked_48 : Code := Code.l c_towpathlaw06_LogfileAsked_47
noncomputable def r_towpathlaw06_LogfileAsked_48 : Array Oper := Code.ops c_towpathlaw06_LogfileAsked_48
noncomputable def c_towpathlaw06_LogfileAsked_50 : Code := Code.r c_towpathlaw06_LogfileAsked_47
noncomputable def c_towpathlaw06_LogfileAsked_51 : Code := Code.l c_towpathlaw06_LogfileAsked_50
noncomputable def c_towpathlaw06_LogfileAsked_52 : Code := Code.l c_towpathlaw06_LogfileAsked_51
noncomputable def r_towpathlaw06_LogfileAsked_52 : Array Oper := Code.ops c_towpathlaw06_LogfileAsked_52
noncomputable def c_towpathlaw06_LogfileAsked_54 : Code := Code.r c_towpathlaw06_LogfileAsked_51
noncomputable def c_towpathlaw06_LogfileAsked_55 : Code := Code.l c_towpathlaw06_LogfileAsked_54
noncomputable def c_towpathlaw06_LogfileAsked_56 : Code := Code.l c_towpathlaw06_LogfileAsked_55
noncomputable def c_towpathlaw06_LogfileAsked_57 : Code := Code.l c_towpathlaw06_LogfileAsked_56
noncomputable def r_towpathlaw06_LogfileAsked_57 : Array Oper := Code.ops c_towpathlaw06_LogfileAsked_57
noncomputable def c_towpathlaw06_LogfileAsked_59 : Code := Code.r c_towpathlaw06_LogfileAsked_56
noncomputable def c_towpathlaw06_LogfileAsked_60 : Code := Code.l c_towpathlaw06_LogfileAsked_59
noncomputable def c_towpathlaw06_LogfileAsked_61 : Code := Code.l c_towpathlaw06_LogfileAsked_60
noncomputable def r_towpathlaw06_LogfileAsked_61 : Array Oper := Code.ops c_towpathlaw06_LogfileAsked_61
noncomputable def c_towpathlaw06_LogfileAsked_63 : Code := Code.r c_towpathlaw06_LogfileAsked_60
noncomputable def c_towpathlaw06_LogfileAsked_64 : Code := Code.r c_towpathlaw06_LogfileAsked_59
noncomputable def c_towpathlaw06_LogfileAsked_65 : Code := Code.r c_towpathlaw06_LogfileAsked_55
noncomputable def c_towpathlaw06_LogfileAsked_66 : Code := Code.r c_towpathlaw06_LogfileAsked_54
noncomputable def c_towpathlaw06_LogfileAsked_67 : Code := Code.r c_towpathlaw06_LogfileAsked_50
noncomputable def c_towpathlaw06_LogfileAsked_68 : Code := Code.l c_towpathlaw06_LogfileAsked_67
noncomputable def c_towpathlaw06_LogfileAsked_69 : Code := Code.l c_towpathlaw06_LogfileAsked_68
noncomputable def r_towpathlaw06_LogfileAsked_69 : Array Oper := Code.ops c_towpathlaw06_LogfileAsked_69
noncomputable def c_towpathlaw06_LogfileAsked_71 : Code := Code.r c_towpathlaw06_LogfileAsked_68
noncomputable def c_towpathlaw06_LogfileAsked_72 : Code := Code.l c_towpathlaw06_LogfileAsked_71
noncomputable def c_towpathlaw06_LogfileAsked_73 : Code := Code.l c_towpathlaw06_LogfileAsked_72
noncomputable def r_towpathlaw06_LogfileAsked_73 : Array Oper := Code.ops c_towpathlaw06_LogfileAsked_73
noncomputable def c_towpathlaw06_LogfileAsked_75 : Code := Code.r c_towpathlaw06_LogfileAsked_72
noncomputable def c_towpathlaw06_LogfileAsked_76 : Code := Code.r c_towpathlaw06_LogfileAsked_71
noncomputable def c_towpathlaw06_LogfileAsked_77 : Code := Code.r c_towpathlaw06_LogfileAsked_67
noncomputable def r_towpathlaw06_LogfileAsked_77 : Array Oper := Code.ops c_towpathlaw06_LogfileAsked_77
noncomputable def c_towpathlaw06_LogfileAsked_79 : Code := Code.r c_towpathlaw06_LogfileAsked_42
noncomputable def r_towpathlaw06_LogfileAsked_79 : Array Oper := Code.ops c_towpathlaw06_LogfileAsked_79
noncomputable def c_towpathlaw06_LogfileAsked_81 : Code := Code.r c_towpathlaw06_LogfileAsked_29
noncomputable def c_towpathlaw06_LogfileAsked_82 : Code := Code.l c_towpathlaw06_LogfileAsked_81
noncomputable def r_towpathlaw06_LogfileAsked_82 : Array Oper := Code.ops c_towpathlaw06_LogfileAsked_82
noncomputable def c_towpathlaw06_LogfileAsked_84 : Code := Code.r c_towpathlaw06_LogfileAsked_81
def o_towpathlaw06_LogfileAsked_69 : List Nat := [0, 1, 2, 3, 4, 5, 6, 7, 8, 9, 10, 11]

set_option maxRecDepth 100000 in
set_option maxHeartbeats 4000000 in
theorem S_towpathlaw06_LogfileAsked {l_ : Slc} {asks : Slc} {w : World} {R : Bool → World → Prop} (h : F_towpathlaw06_LogfileAsked l_ asks R w) : C_towpathlaw06_LogfileAsked l_ asks w R := by
  unfold F_towpathlaw06_LogfileAsked at h
  unfold C_towpathlaw06_LogfileAsked
  refine Calls.mono (calls_of_wpE (args := [Value.slice l_.ptr l_.len l_.cap, Value.slice asks.ptr asks.len asks.cap]) (R := fun v w' => ∃ (r0 : Bool), v = Value.bool r0 ∧ R r0 w') Try.func7 (c := c_towpathlaw06_LogfileAsked_0) (by kernel_rfl) 100 (by kernel_rfl) (by kernel_rfl) [(0, Value.slice l_.ptr l_.len l_.cap), (1, Value.slice asks.ptr asks.len asks.cap)] (by kernel_rfl) ?_) ?_
  · refine wpE_seq (x := c_towpathlaw06_LogfileAsked_1) (y := c_towpathlaw06_LogfileAsked_3) (by kernel_rfl) ?_
    refine wpE_region (id := 0) (ops := r_towpathlaw06_LogfileAsked_1) (by kernel_rfl) ?_
    refine reg_run [.plain] 1 [(0, [], Value.slice l_.ptr l_.len l_.cap), (1, [], Value.slice asks.ptr asks.len asks.cap)] (by kernel_rfl) (by kernel_rfl) ?_
    refine reg_end [(0, Value.slice l_.ptr l_.len l_.cap), (1, Value.slice asks.ptr asks.len asks.cap)] (by kernel_rfl) (by kernel_rfl) ?_
    change WpE _ _ c_towpathlaw06_LogfileAsked_3 _ _ _
    refine wpE_seq (x := c_towpathlaw06_LogfileAsked_4) (y := c_towpathlaw06_LogfileAsked_13) (by kernel_rfl) ?_
    refine wpE_seq_cut (x := c_towpathlaw06_LogfileAsked_5) (y := c_towpathlaw06_LogfileAsked_7) (by kernel_rfl) (fun l w => ∃ (t24 : Bool), l = [(0, Value.slice l_.ptr l_.len l_.cap), (1, Value.slice asks.ptr asks.len asks.cap), (24, Value.bool t24)] ∧ F_towpathlaw06_LogfileAsked_k0 l_ asks R t24 w) ?_ ?_
    · refine wpE_region (id := 1) (ops := r_towpathlaw06_LogfileAsked_5) (by kernel_rfl) ?_
      refine reg_run [] 0 [(0, [], Value.slice l_.ptr l_.len l_.cap), (1, [], Value.slice asks.ptr asks.len asks.cap)] (by kernel_rfl) (by kernel_rfl) ?_
      refine reg_enter (op := (Go.Op.call (Go.Call.mk (Go.Callee.value (Go.Operand.func 15)) #[] #[]))) (ty := 4) (dst := some 12) 15 #[] (by kernel_rfl) (fun ww => by kernel_rfl) (Calls.mono h ?_)
      rintro _ w19 ⟨v12, rfl, h⟩
      refine ⟨_, rfl, ?_⟩
      refine reg_run [.plain, .plain, .plain] 4 [(0, [], Value.slice l_.ptr l_.len l_.cap), (1, [], Value.slice asks.ptr asks.len asks.cap), (14, [], Value.bool (!v12)), (15, [(14, false)], Value.slice l_.ptr l_.len l_.cap)] (by kernel_rfl) (by kernel_rfl) ?_
      refine reg_split 14 (!v12) (by kernel_rfl) (fun hb => ?_) (fun hb => ?_)
      · replace h := h.1 hb
        refine reg_run [] 4 [(0, [], Value.slice l_.ptr l_.len l_.cap), (1, [], Value.slice asks.ptr asks.len asks.cap), (14, [], Value.bool true), (15, [], undef)] (by kernel_rfl) (by kernel_rfl) ?_
        refine reg_run [.skip, .skip, .skip, .plain, .plain, .skip, .skip, .skip, .plain] 13 [(0, [], Value.slice l_.ptr l_.len l_.cap), (1, [], Value.slice asks.ptr asks.len asks.cap), (24, [], Value.bool true)] (by kernel_rfl) (by kernel_rfl) ?_
        refine reg_end [(0, Value.slice l_.ptr l_.len l_.cap), (1, Value.slice asks.ptr asks.len asks.cap), (24, Value.bool true)] (by kernel_rfl) (by kernel_rfl) ?_
        exact ⟨[(0, Value.slice l_.ptr l_.len l_.cap), (1, Value.slice asks.ptr asks.len asks.cap), (24, Value.bool true)], Sub.mk (by kernel_rfl), true, rfl, h⟩
      · replace h := h.2 hb
        refine reg_run [] 4 [(0, [], Value.slice l_.ptr l_.len l_.cap), (1, [], Value.slice asks.ptr asks.len asks.cap), (14, [], Value.bool false), (15, [], Value.slice l_.ptr l_.len l_.cap)] (by kernel_rfl) (by kernel_rfl) ?_
        refine reg_run [] 4 [(0, [], Value.slice l_.ptr l_.len l_.cap), (1, [], Value.slice asks.ptr asks.len asks.cap), (14, [], Value.bool false), (15, [], Value.slice l_.ptr l_.len l_.cap)] (by kernel_rfl) (by kernel_rfl) ?_
        refine reg_enter (op := (Go.Op.call (Go.Call.mk (Go.Callee.value (Go.Operand.func 16)) #[(Go.Operand.tmp 15)] #[37]))) (ty := 3) (dst := some 16) 16 #[Value.slice l_.ptr l_.len l_.cap] (by kernel_rfl) (fun ww => by kernel_rfl) (Calls.mono h ?_)
        rintro _ w20 ⟨v16, rfl, h⟩
        refine ⟨_, rfl, ?_⟩
        refine reg_run [] 5 [(0, [], Value.slice l_.ptr l_.len l_.cap), (1, [], Value.slice asks.ptr asks.len asks.cap), (14, [], Value.bool false), (16, [], Value.int .i64 v16)] (by kernel_rfl) (by kernel_rfl) ?_
        refine reg_new (op := (Go.Op.buildSlice 25 1 #[(0, (Go.Operand.tmp 16))])) (ty := 25) (dst := some 17) (fun bb => Value.slice (some ⟨bb, 0, none⟩) 1 1) (Obj.cells ([Value.int .i64 v16]).toArray ty_int (0, 0)) (by kernel_rfl) (by kernel_rfl) (fun b_2 w21 hb hw => ?_)
        replace h := h b_2 w21 hb hw
        clear hb hw
        refine reg_run [] 6 [(0, [], Value.slice l_.ptr l_.len l_.cap), (1, [], Value.slice asks.ptr asks.len asks.cap), (14, [], Value.bool false), (17, [], Value.slice (some ⟨b_2, 0, none⟩) 1 1)] (by kernel_rfl) (by kernel_rfl) ?_
        refine reg_enter (op := (Go.Op.call (Go.Call.mk (Go.Callee.value (Go.Operand.func 10)) #[(Go.Operand.tmp 17)] #[25]))) (ty := 4) (dst := some 18) 10 #[Value.slice (some ⟨b_2, 0, none⟩) 1 1] (by kernel_rfl) (fun ww => by kernel_rfl) (Calls.mono h ?_)
        rintro _ w22 ⟨v18, rfl, h⟩
        refine ⟨_, rfl, ?_⟩
        refine reg_run [.plain, .plain, .plain, .plain, .plain, .pick] 13 [(0, [], Value.slice l_.ptr l_.len l_.cap), (1, [], Value.slice asks.ptr asks.len asks.cap), (24, [], Value.bool (v18 || (decide (((asks.len : Nat) : Int) > 1000))))] (by kernel_rfl) (by kernel_rfl) ?_
        refine reg_end [(0, Value.slice l_.ptr l_.len l_.cap), (1, Value.slice asks.ptr asks.len asks.cap), (24, Value.bool (v18 || (decide (((asks.len : Nat) : Int) > 1000))))] (by kernel_rfl) (by kernel_rfl) ?_
        exact ⟨[(0, Value.slice l_.ptr l_.len l_.cap), (1, Value.slice asks.ptr asks.len asks.cap), (24, Value.bool (v18 || (decide (((asks.len : Nat) : Int) > 1000))))], Sub.mk (by kernel_rfl), (v18 || (decide (((asks.len : Nat) : Int) > 1000))), rfl, h⟩
    · rintro _ w1 ⟨t24, rfl, h⟩
      unfold F_towpathlaw06_LogfileAsked_k0 at h
      refine wpE_cond (o := (Operand.tmp 24)) (b := t24) (x := c_towpathlaw06_LogfileAsked_8) (y := c_towpathlaw06_LogfileAsked_12) (by kernel_rfl) (by kernel_rfl) (fun hb => ?_) (fun hb => ?_)
      · replace h := h.1 hb
        refine wpE_seq (x := c_towpathlaw06_LogfileAsked_9) (y := c_towpathlaw06_LogfileAsked_11) (by kernel_rfl) ?_
        refine wpE_region (id := 2) (ops := r_towpathlaw06_LogfileAsked_9) (by kernel_rfl) ?_
        refine reg_run [] 0 [] (by kernel_rfl) (by kernel_rfl) ?_
        refine reg_enter (op := (Go.Op.call (Go.Call.mk (Go.Callee.value (Go.Operand.func 15)) #[] #[]))) (ty := 4) (dst := some 25) 15 #[] (by kernel_rfl) (fun ww => by kernel_rfl) (Calls.mono h ?_)
        rintro _ w2 ⟨v25, rfl, h⟩
        refine ⟨_, rfl, ?_⟩
        refine reg_run [.plain] 2 [(4, [], Value.bool v25)] (by kernel_rfl) (by kernel_rfl) ?_
        refine reg_end [(4, Value.bool v25)] (by kernel_rfl) (by kernel_rfl) ?_
        change WpE _ _ c_towpathlaw06_LogfileAsked_11 _ _ _
        refine wpE_ret (by kernel_rfl) ?_
        repeat (first | refine seqQ_ret ?_ | refine blockQ_ret ?_ | refine loopQ_ret ?_ | refine cutQ_ret ?_)
        exact retS (rs := [(Go.ResultVar.tmp 4)]) (v := Value.bool v25) (by kernel_rfl) (⟨by kernel_rfl, trivial⟩) ⟨v25, rfl, h⟩
      · replace h := h.2 hb
        refine wpE_skip (by kernel_rfl) ?_
        change WpE _ _ c_towpathlaw06_LogfileAsked_13 _ _ _
        refine wpE_seq (x := c_towpathlaw06_LogfileAsked_14) (y := c_towpathlaw06_LogfileAsked_16) (by kernel_rfl) ?_
        refine wpE_region (id := 3) (ops := r_towpathlaw06_LogfileAsked_14) (by kernel_rfl) ?_
        refine reg_run [.plain] 1 [(0, [], Value.slice l_.ptr l_.len l_.cap), (1, [], Value.slice asks.ptr asks.len asks.cap), (27, [], Value.slice l_.ptr l_.len l_.cap)] (by kernel_rfl) (by kernel_rfl) ?_
        refine reg_enter (op := (Go.Op.call (Go.Call.mk (Go.Callee.value (Go.Operand.func 24)) #[(Go.Operand.tmp 27)] #[37]))) (ty := 54) (dst := some 28) 24 #[Value.slice l_.ptr l_.len l_.cap] (by kernel_rfl) (fun ww => by kernel_rfl) (Calls.mono h ?_)
        rintro _ w3 ⟨s, e, rfl, h⟩
        refine ⟨_, rfl, ?_⟩
        refine reg_run [.plain, .plain, .plain, .plain, .plain] 7 [(0, [], Value.slice l_.ptr l_.len l_.cap), (1, [], Value.slice asks.ptr asks.len asks.cap), (5, [], Value.pointer s), (6, [], Value.int .i64 e)] (by kernel_rfl) (by kernel_rfl) ?_
        refine reg_end [(0, Value.slice l_.ptr l_.len l_.cap), (1, Value.slice asks.ptr asks.len asks.cap), (5, Value.pointer s), (6, Value.int .i64 e)] (by kernel_rfl) (by kernel_rfl) ?_
        change WpE _ _ c_towpathlaw06_LogfileAsked_16 _ _ _
        refine wpE_seq (x := c_towpathlaw06_LogfileAsked_17) (y := c_towpathlaw06_LogfileAsked_26) (by kernel_rfl) ?_
        refine wpE_seq (x := c_towpathlaw06_LogfileAsked_18) (y := c_towpathlaw06_LogfileAsked_20) (by kernel_rfl) ?_
        refine wpE_region (id := 4) (ops := r_towpathlaw06_LogfileAsked_18) (by kernel_rfl) ?_
        refine reg_run [.plain, .plain] 2 [(0, [], Value.slice l_.ptr l_.len l_.cap), (1, [], Value.slice asks.ptr asks.len asks.cap), (5, [], Value.pointer s), (6, [], Value.int .i64 e), (32, [], Value.bool (e != 0))] (by kernel_rfl) (by kernel_rfl) ?_
        refine reg_end [(0, Value.slice l_.ptr l_.len l_.cap), (1, Value.slice asks.ptr asks.len asks.cap), (5, Value.pointer s), (6, Value.int .i64 e), (32, Value.bool (e != 0))] (by kernel_rfl) (by kernel_rfl) ?_
        change WpE _ _ c_towpathlaw06_LogfileAsked_20 _ _ _
        refine wpE_cond (o := (Operand.tmp 32)) (b := (e != 0)) (x := c_towpathlaw06_LogfileAsked_21) (y := c_towpathlaw06_LogfileAsked_25) (by kernel_rfl) (by kernel_rfl) (fun hb => ?_) (fun hb => ?_)
        · replace h := h.1 hb
          refine wpE_seq (x := c_towpathlaw06_LogfileAsked_22) (y := c_towpathlaw06_LogfileAsked_24) (by kernel_rfl) ?_
          refine wpE_region (id := 5) (ops := r_towpathlaw06_LogfileAsked_22) (by kernel_rfl) ?_
          refine reg_run [.plain] 1 [(0, [], Value.slice l_.ptr l_.len l_.cap), (6, [], Value.int .i64 e), (33, [], Value.pointer s)] (by kernel_rfl) (by kernel_rfl) ?_
          refine reg_val (op := (Go.Op.binOp Go.BinOp.eql 53 (Go.Operand.tmp 33) (Go.Operand.const (Go.Value.pointer none)) 53)) (ty := 4) (dst := some 34) (Value.bool s.isNone) (by kernel_rfl) (fun ww => run_ptr_eql_R (p := s) (by kernel_rfl) (by kernel_rfl) (by kernel_rfl) ww) ?_
          refine reg_run [.plain, .plain] 4 [(6, [], Value.int .i64 e), (35, [], Value.bool s.isNone), (36, [(35, true)], Value.slice l_.ptr l_.len l_.cap)] (by kernel_rfl) (by kernel_rfl) ?_
          refine reg_split 35 s.isNone (by kernel_rfl) (fun hb => ?_) (fun hb => ?_)
          · replace h := h.1 hb
            refine reg_run [] 4 [(6, [], Value.int .i64 e), (35, [], Value.bool true), (36, [], Value.slice l_.ptr l_.len l_.cap)] (by kernel_rfl) (by kernel_rfl) ?_
            refine reg_run [] 4 [(6, [], Value.int .i64 e), (35, [], Value.bool true), (36, [], Value.slice l_.ptr l_.len l_.cap)] (by kernel_rfl) (by kernel_rfl) ?_
            refine reg_enter (op := (Go.Op.call (Go.Call.mk (Go.Callee.value (Go.Operand.func 18)) #[(Go.Operand.tmp 36)] #[37]))) (ty := 29) (dst := some 37) 18 #[Value.slice l_.ptr l_.len l_.cap] (by kernel_rfl) (fun ww => by kernel_rfl) (Calls.mono h ?_)
            rintro _ w4 ⟨v37, rfl, h⟩
            refine ⟨_, rfl, ?_⟩
            refine reg_run [.sure, .sure, .plain, .plain] 9 [(4, [], Value.bool (v37 == e))] (by kernel_rfl) (by kernel_rfl) ?_
            refine reg_end [(4, Value.bool (v37 == e))] (by kernel_rfl) (by kernel_rfl) ?_
            change WpE _ _ c_towpathlaw06_LogfileAsked_24 _ _ _
            refine wpE_ret (by kernel_rfl) ?_
            repeat (first | refine seqQ_ret ?_ | refine blockQ_ret ?_ | refine loopQ_ret ?_ | refine cutQ_ret ?_)
            exact retS (rs := [(Go.ResultVar.tmp 4)]) (v := Value.bool (v37 == e)) (by kernel_rfl) (⟨by kernel_rfl, trivial⟩) ⟨(v37 == e), rfl, h⟩
          · replace h := h.2 hb
            refine reg_run [] 4 [(6, [], Value.int .i64 e), (35, [], Value.bool false), (36, [], undef)] (by kernel_rfl) (by kernel_rfl) ?_
            refine reg_run [.skip, .skip, .skip, .plain, .plain] 9 [(4, [], Value.bool false)] (by kernel_rfl) (by kernel_rfl) ?_
            refine reg_end [(4, Value.bool false)] (by kernel_rfl) (by kernel_rfl) ?_
            change WpE _ _ c_towpathlaw06_LogfileAsked_24 _ _ _
            refine wpE_ret (by kernel_rfl) ?_
            repeat (first | refine seqQ_ret ?_ | refine blockQ_ret ?_ | refine loopQ_ret ?_ | refine cutQ_ret ?_)
            exact retS (rs := [(Go.ResultVar.tmp 4)]) (v := Value.bool false) (by kernel_rfl) (⟨by kernel_rfl, trivial⟩) ⟨false, rfl, h⟩
        · replace h := h.2 hb
          refine wpE_skip (by kernel_rfl) ?_
          change WpE _ _ c_towpathlaw06_LogfileAsked_26 _ _ _
          refine wpE_seq (x := c_towpathlaw06_LogfileAsked_27) (y := c_towpathlaw06_LogfileAsked_29) (by kernel_rfl) ?_
          refine wpE_region (id := 6) (ops := r_towpathlaw06_LogfileAsked_27) (by kernel_rfl) ?_
          refine reg_run [.plain] 1 [(0, [], Value.slice l_.ptr l_.len l_.cap), (1, [], Value.slice asks.ptr asks.len asks.cap), (5, [], Value.pointer s), (7, [], Value.slice none 0 0)] (by kernel_rfl) (by kernel_rfl) ?_
          refine reg_end [(0, Value.slice l_.ptr l_.len l_.cap), (1, Value.slice asks.ptr asks.len asks.cap), (5, Value.pointer s), (7, Value.slice none 0 0)] (by kernel_rfl) (by kernel_rfl) ?_
          change WpE _ _ c_towpathlaw06_LogfileAsked_29 _ _ _
          refine wpE_seq (x := c_towpathlaw06_LogfileAsked_30) (y := c_towpathlaw06_LogfileAsked_81) (by kernel_rfl) ?_
          refine wpE_seq (x := c_towpathlaw06_LogfileAsked_31) (y := c_towpathlaw06_LogfileAsked_33) (by kernel_rfl) ?_
          refine wpE_region (id := 7) (ops := r_towpathlaw06_LogfileAsked_31) (by kernel_rfl) ?_
          refine reg_run [.plain] 1 [(0, [], Value.slice l_.ptr l_.len l_.cap), (1, [], Value.slice asks.ptr asks.len asks.cap), (5, [], Value.pointer s), (7, [], Value.slice none 0 0), (8, [], Value.int .i64 0)] (by kernel_rfl) (by kernel_rfl) ?_
          refine reg_end [(0, Value.slice l_.ptr l_.len l_.cap), (1, Value.slice asks.ptr asks.len asks.cap), (5, Value.pointer s), (7, Value.slice none 0 0), (8, Value.int .i64 0)] (by kernel_rfl) (by kernel_rfl) ?_
          change WpE _ _ c_towpathlaw06_LogfileAsked_33 _ _ _
          refine wpE_block (id := 0) (x := c_towpathlaw06_LogfileAsked_34) (by kernel_rfl) ?_
          obtain ⟨I, μ, h0, hr⟩ := h
          refine wpE_loop (x := c_towpathlaw06_LogfileAsked_35) (by kernel_rfl) (fun m l w => ∃ (want : Slc) (i : Int), l = [(0, Value.slice l_.ptr l_.len l_.cap), (1, Value.slice asks.ptr asks.len asks.cap), (5, Value.pointer s), (7, Value.slice want.ptr want.len want.cap), (8, Value.int .i64 i)] ∧ I want i w ∧ μ want i w = m) (l' := [(0, Value.slice l_.ptr l_.len l_.cap), (1, Value.slice asks.ptr asks.len asks.cap), (5, Value.pointer s), (7, Value.slice none 0 0), (8, Value.int .i64 0)]) (Sub.mk (by kernel_rfl)) ⟨(Slc.mk none 0 0), 0, rfl, h0, rfl⟩ ?_
          rintro _ _ w5 ⟨want, i, rfl, hI, rfl⟩
          obtain ⟨again_, again__h, h⟩ : ∃ again_ : Slc → Int → World → Prop, (∀ want' i' w', again_ want' i' w' → I want' i' w' ∧ μ want' i' w' < μ want i w5) ∧ F_towpathlaw06_LogfileAsked_L1 l_ asks R s again_ want i w5 := ⟨_, fun _ _ _ h => h, hr want i w5 hI⟩
          clear h0 hI
          unfold F_towpathlaw06_LogfileAsked_L1 at h
          refine wpE_seq (x := c_towpathlaw06_LogfileAsked_36) (y := c_towpathlaw06_LogfileAsked_42) (by kernel_rfl) ?_
          refine wpE_seq (x := c_towpathlaw06_LogfileAsked_37) (y := c_towpathlaw06_LogfileAsked_39) (by kernel_rfl) ?_
          refine wpE_region (id := 8) (ops := r_towpathlaw06_LogfileAsked_37) (by kernel_rfl) ?_
          refine reg_run [.plain, .plain, .plain, .plain] 4 [(0, [], Value.slice l_.ptr l_.len l_.cap), (1, [], Value.slice asks.ptr asks.len asks.cap), (5, [], Value.pointer s), (7, [], Value.slice want.ptr want.len want.cap), (8, [], Value.int .i64 i), (44, [], Value.bool (decide (i < ((asks.len : Nat) : Int))))] (by kernel_rfl) (by kernel_rfl) ?_
          refine reg_end [(0, Value.slice l_.ptr l_.len l_.cap), (1, Value.slice asks.ptr asks.len asks.cap), (5, Value.pointer s), (7, Value.slice want.ptr want.len want.cap), (8, Value.int .i64 i), (44, Value.bool (decide (i < ((asks.len : Nat) : Int))))] (by kernel_rfl) (by kernel_rfl) ?_
          change WpE _ _ c_towpathlaw06_LogfileAsked_39 _ _ _
          refine wpE_cond (o := (Operand.tmp 44)) (b := (decide (i < ((asks.len : Nat) : Int)))) (x := c_towpathlaw06_LogfileAsked_40) (y := c_towpathlaw06_LogfileAsked_41) (by kernel_rfl) (by kernel_rfl) (fun hb => ?_) (fun hb => ?_)
          · replace h := h.1 hb
            refine wpE_skip (by kernel_rfl) ?_
            change WpE _ _ c_towpathlaw06_LogfileAsked_42 _ _ _
            refine wpE_seq_cut (x := c_towpathlaw06_LogfileAsked_43) (y := c_towpathlaw06_LogfileAsked_79) (by kernel_rfl) (fun l w => ∃ (want1 : Slc), l = [(0, Value.slice l_.ptr l_.len l_.cap), (1, Value.slice asks.ptr asks.len asks.cap), (5, Value.pointer s), (7, Value.slice want1.ptr want1.len want1.cap), (8, Value.int .i64 i)] ∧ F_towpathlaw06_LogfileAsked_k2 i again_ want1 w) ?_ ?_
            · refine wpE_block (id := 1) (x := c_towpathlaw06_LogfileAsked_44) (by kernel_rfl) ?_
              refine wpE_seq (x := c_towpathlaw06_LogfileAsked_45) (y := c_towpathlaw06_LogfileAsked_47) (by kernel_rfl) ?_
              refine wpE_region (id := 10) (ops := r_towpathlaw06_LogfileAsked_45) (by kernel_rfl) ?_
              refine reg_run [.plain, .plain] 2 [(0, [], Value.slice l_.ptr l_.len l_.cap), (1, [], Value.slice asks.ptr asks.len asks.cap), (5, [], Value.pointer s), (7, [], Value.slice want.ptr want.len want.cap), (8, [], Value.int .i64 i), (47, [], Value.slice asks.ptr asks.len asks.cap), (48, [], Value.int .i64 i)] (by kernel_rfl) (by kernel_rfl) ?_
              obtain ⟨hp_19, h⟩ := h
              refine reg_conv [(0, [], Value.slice l_.ptr l_.len l_.cap), (1, [], Value.slice asks.ptr asks.len asks.cap), (5, [], Value.pointer s), (7, [], Value.slice want.ptr want.len want.cap), (8, [], Value.int .i64 i), (47, [], Value.slice (some ⟨(pblk asks.ptr), (poff asks.ptr), none⟩) asks.len asks.cap), (48, [], Value.int .i64 i)] (congrArg (fun pp => ([(0, [], Value.slice l_.ptr l_.len l_.cap), (1, [], Value.slice asks.ptr asks.len asks.cap), (5, [], Value.pointer s), (7, [], Value.slice want.ptr want.len want.cap), (8, [], Value.int .i64 i), (47, [], Value.slice pp asks.len asks.cap), (48, [], Value.int .i64 i)] : GEnv)) hp_19) ?_
              obtain ⟨h0, h1, h⟩ := h
              refine reg_indexS1 (t := 22) (e := 5) (x := (Go.Operand.tmp 47)) (ix := (Go.Operand.tmp 48)) (b := (pblk asks.ptr)) (o := (poff asks.ptr)) (l := asks.len) (c := asks.cap) (k := .i64) (j := i) (ty := 0) (dst := some 49) (by kernel_rfl) (by kernel_rfl) (by kernel_rfl) (by kernel_rfl) (by kernel_rfl) h0 h1 ?_
              refine reg_run [] 3 [(0, [], Value.slice l_.ptr l_.len l_.cap), (1, [], Value.slice asks.ptr asks.len asks.cap), (5, [], Value.pointer s), (7, [], Value.slice want.ptr want.len want.cap), (8, [], Value.int .i64 i), (49, [], Value.pointer (some ⟨(pblk asks.ptr), (poff asks.ptr) + i.toNat, none⟩))] (by kernel_rfl) (by kernel_rfl) ?_
              obtain ⟨v50, hc, h⟩ := h
              refine reg_load1 (t := 5) (a := (Go.Operand.tmp 49)) (b := (pblk asks.ptr)) (o := ((poff asks.ptr) + i.toNat)) (ty := 5) (dst := some 50) (by kernel_rfl) (by kernel_rfl) (by kernel_rfl) hc ?_
              refine reg_run [.plain, .plain] 6 [(0, [], Value.slice l_.ptr l_.len l_.cap), (1, [], Value.slice asks.ptr asks.len asks.cap), (5, [], Value.pointer s), (7, [], Value.slice want.ptr want.len want.cap), (8, [], Value.int .i64 i), (9, [], Value.int .i64 (IntKind.i64.wrap v50))] (by kernel_rfl) (by kernel_rfl) ?_
              refine reg_end [(0, Value.slice l_.ptr l_.len l_.cap), (1, Value.slice asks.ptr asks.len asks.cap), (5, Value.pointer s), (7, Value.slice want.ptr want.len want.cap), (8, Value.int .i64 i), (9, Value.int .i64 (IntKind.i64.wrap v50))] (by kernel_rfl) (by kernel_rfl) ?_
              change WpE _ _ c_towpathlaw06_LogfileAsked_47 _ _ _
              refine wpE_seq (x := c_towpathlaw06_LogfileAsked_48) (y := c_towpathlaw06_LogfileAsked_50) (by kernel_rfl) ?_
              refine wpE_region (id := 11) (ops := r_towpathlaw06_LogfileAsked_48) (by kernel_rfl) ?_
              refine reg_run [.plain, .plain] 2 [(0, [], Value.slice l_.ptr l_.len l_.cap), (1, [], Value.slice asks.ptr asks.len asks.cap), (5, [], Value.pointer s), (7, [], Value.slice want.ptr want.len want.cap), (8, [], Value.int .i64 i), (9, [], Value.int .i64 (IntKind.i64.wrap v50)), (53, [], Value.pointer s), (54, [], Value.int .i64 (IntKind.i64.wrap v50))] (by kernel_rfl) (by kernel_rfl) ?_
              refine reg_enter (op := (Go.Op.call (Go.Call.mk (Go.Callee.value (Go.Operand.func 25)) #[(Go.Operand.tmp 53), (Go.Operand.tmp 54)] #[53, 3]))) (ty := 56) (dst := some 55) 25 #[Value.pointer s, Value.int .i64 (IntKind.i64.wrap v50)] (by kernel_rfl) (fun ww => by kernel_rfl) (Calls.mono h ?_)
              rintro _ w7 ⟨v55, f, rfl, h⟩
              refine ⟨_, rfl, ?_⟩
              refine reg_run [.plain, .plain, .plain] 6 [(0, [], Value.slice l_.ptr l_.len l_.cap), (1, [], Value.slice asks.ptr asks.len asks.cap), (5, [], Value.pointer s), (7, [], Value.slice want.ptr want.len want.cap), (8, [], Value.int .i64 i), (9, [], Value.int .i64 (IntKind.i64.wrap v50)), (56, [], Value.agg #[Value.int .i64 v55.Number, Value.slice v55.Writes.ptr v55.Writes.len v55.Writes.cap]), (57, [], Value.int .i64 f)] (by kernel_rfl) (by kernel_rfl) ?_
              refine reg_new (op := (Go.Op.alloc 49)) (ty := 0) (dst := some 10) (fun bb => Value.pointer (some ⟨bb, 0, none⟩)) (Obj.cells ([Value.int .i64 0, Value.slice none 0 0]).toArray ty_api_Txn (0, 0)) (by kernel_rfl) (by kernel_rfl) (fun b_ w8 hb hw => ?_)
              replace h := h b_ w8 hb hw
              clear hb hw
              refine reg_run [] 7 [(0, [], Value.slice l_.ptr l_.len l_.cap), (1, [], Value.slice asks.ptr asks.len asks.cap), (5, [], Value.pointer s), (7, [], Value.slice want.ptr want.len want.cap), (8, [], Value.int .i64 i), (9, [], Value.int .i64 (IntKind.i64.wrap v50)), (10, [], Value.pointer (some ⟨b_, 0, none⟩)), (56, [], Value.agg #[Value.int .i64 v55.Number, Value.slice v55.Writes.ptr v55.Writes.len v55.Writes.cap]), (57, [], Value.int .i64 f)] (by kernel_rfl) (by kernel_rfl) ?_
              obtain ⟨hc, h⟩ := h
              refine reg_store (t := 49) (a := (Go.Operand.tmp 10)) (x := (Go.Operand.tmp 56)) (b := b_) (o := 0) (ty := 0) (dst := none) [Value.int .i64 v55.Number, Value.slice v55.Writes.ptr v55.Writes.len v55.Writes.cap] (by kernel_rfl) (by kernel_rfl) (by kernel_rfl) (k := 2) (by kernel_rfl) (by kernel_rfl) (by kernel_rfl) hc (fun w9 hw => ?_)
              replace h := h w9 hw
              clear hw
              refine reg_run [.plain] 9 [(0, [], Value.slice l_.ptr l_.len l_.cap), (1, [], Value.slice asks.ptr asks.len asks.cap), (5, [], Value.pointer s), (7, [], Value.slice want.ptr want.len want.cap), (8, [], Value.int .i64 i), (9, [], Value.int .i64 (IntKind.i64.wrap v50)), (10, [], Value.pointer (some ⟨b_, 0, none⟩)), (11, [], Value.int .i64 f)] (by kernel_rfl) (by kernel_rfl) ?_
              refine reg_end [(0, Value.slice l_.ptr l_.len l_.cap), (1, Value.slice asks.ptr asks.len asks.cap), (5, Value.pointer s), (7, Value.slice want.ptr want.len want.cap), (8, Value.int .i64 i), (9, Value.int .i64 (IntKind.i64.wrap v50)), (10, Value.pointer (some ⟨b_, 0, none⟩)), (11, Value.int .i64 f)] (by kernel_rfl) (by kernel_rfl) ?_
              change WpE _ _ c_towpathlaw06_LogfileAsked_50 _ _ _
              refine wpE_seq (x := c_towpathlaw06_LogfileAsked_51) (y := c_towpathlaw06_LogfileAsked_67) (by kernel_rfl) ?_
              refine wpE_seq (x := c_towpathlaw06_LogfileAsked_52) (y := c_towpathlaw06_LogfileAsked_54) (by kernel_rfl) ?_
              refine wpE_region (id := 12) (ops := r_towpathlaw06_LogfileAsked_52) (by kernel_rfl) ?_
              refine reg_run [.plain, .plain, .plain, .plain, .plain, .plain, .plain, .pick] 8 [(0, [], Value.slice l_.ptr l_.len l_.cap), (1, [], Value.slice asks.ptr asks.len asks.cap), (5, [], Value.pointer s), (7, [], Value.slice want.ptr want.len want.cap), (8, [], Value.int .i64 i), (9, [], Value.int .i64 (IntKind.i64.wrap v50)), (10, [], Value.pointer (some ⟨b_, 0, none⟩)), (11, [], Value.int .i64 f), (65, [], Value.bool ((decide ((IntKind.i64.wrap v50) < 1)) || (decide ((IntKind.i64.wrap v50) > ((l_.len : Nat) : Int)))))] (by kernel_rfl) (by kernel_rfl) ?_
              refine reg_end [(0, Value.slice l_.ptr l_.len l_.cap), (1, Value.slice asks.ptr asks.len asks.cap), (5, Value.pointer s), (7, Value.slice want.ptr want.len want.cap), (8, Value.int .i64 i), (9, Value.int .i64 (IntKind.i64.wrap v50)), (10, Value.pointer (some ⟨b_, 0, none⟩)), (11, Value.int .i64 f), (65, Value.bool ((decide ((IntKind.i64.wrap v50) < 1)) || (decide ((IntKind.i64.wrap v50) > ((l_.len : Nat) : Int)))))] (by kernel_rfl) (by kernel_rfl) ?_
              change WpE _ _ c_towpathlaw06_LogfileAsked_54 _ _ _
              refine wpE_cond (o := (Operand.tmp 65)) (b := ((decide ((IntKind.i64.wrap v50) < 1)) || (decide ((IntKind.i64.wrap v50) > ((l_.len : Nat) : Int))))) (x := c_towpathlaw06_LogfileAsked_55) (y := c_towpathlaw06_LogfileAsked_66) (by kernel_rfl) (by kernel_rfl) (fun hb => ?_) (fun hb => ?_)
              · replace h := h.1 hb
                refine wpE_seq (x := c_towpathlaw06_LogfileAsked_56) (y := c_towpathlaw06_LogfileAsked_65) (by kernel_rfl) ?_
                refine wpE_seq_cut (x := c_towpathlaw06_LogfileAsked_57) (y := c_towpathlaw06_LogfileAsked_59) (by kernel_rfl) (fun l w => ∃ (t72 : Bool), l = [(0, Value.slice l_.ptr l_.len l_.cap), (1, Value.slice asks.ptr asks.len asks.cap), (5, Value.pointer s), (7, Value.slice want.ptr want.len want.cap), (8, Value.int .i64 i), (72, Value.bool t72)] ∧ F_towpathlaw06_LogfileAsked_k3 R want i again_ t72 w) ?_ ?_
                · refine wpE_region (id := 13) (ops := r_towpathlaw06_LogfileAsked_57) (by kernel_rfl) ?_
                  refine reg_run [.plain, .plain, .plain, .plain] 4 [(0, [], Value.slice l_.ptr l_.len l_.cap), (1, [], Value.slice asks.ptr asks.len asks.cap), (5, [], Value.pointer s), (7, [], Value.slice want.ptr want.len want.cap), (8, [], Value.int .i64 i), (68, [], Value.bool (f != 1)), (69, [(68, false)], Value.pointer (some ⟨b_, 0, none⟩))] (by kernel_rfl) (by kernel_rfl) ?_
                  refine reg_split 68 (f != 1) (by kernel_rfl) (fun hb => ?_) (fun hb => ?_)
                  · replace h := h.1 hb
                    refine reg_run [] 4 [(0, [], Value.slice l_.ptr l_.len l_.cap), (1, [], Value.slice asks.ptr asks.len asks.cap), (5, [], Value.pointer s), (7, [], Value.slice want.ptr want.len want.cap), (8, [], Value.int .i64 i), (68, [], Value.bool true), (69, [], undef)] (by kernel_rfl) (by kernel_rfl) ?_
                    refine reg_run [.skip, .skip, .plain] 7 [(0, [], Value.slice l_.ptr l_.len l_.cap), (1, [], Value.slice asks.ptr asks.len asks.cap), (5, [], Value.pointer s), (7, [], Value.slice want.ptr want.len want.cap), (8, [], Value.int .i64 i), (72, [], Value.bool true)] (by kernel_rfl) (by kernel_rfl) ?_
                    refine reg_end [(0, Value.slice l_.ptr l_.len l_.cap), (1, Value.slice asks.ptr asks.len asks.cap), (5, Value.pointer s), (7, Value.slice want.ptr want.len want.cap), (8, Value.int .i64 i), (72, Value.bool true)] (by kernel_rfl) (by kernel_rfl) ?_
                    exact ⟨[(0, Value.slice l_.ptr l_.len l_.cap), (1, Value.slice asks.ptr asks.len asks.cap), (5, Value.pointer s), (7, Value.slice want.ptr want.len want.cap), (8, Value.int .i64 i), (72, Value.bool true)], Sub.mk (by kernel_rfl), true, rfl, h⟩
                  · replace h := h.2 hb
                    refine reg_run [] 4 [(0, [], Value.slice l_.ptr l_.len l_.cap), (1, [], Value.slice asks.ptr asks.len asks.cap), (5, [], Value.pointer s), (7, [], Value.slice want.ptr want.len want.cap), (8, [], Value.int .i64 i), (68, [], Value.bool false), (69, [], Value.pointer (some ⟨b_, 0, none⟩))] (by kernel_rfl) (by kernel_rfl) ?_
                    refine reg_run [] 4 [(0, [], Value.slice l_.ptr l_.len l_.cap), (1, [], Value.slice asks.ptr asks.len asks.cap), (5, [], Value.pointer s), (7, [], Value.slice want.ptr want.len want.cap), (8, [], Value.int .i64 i), (68, [], Value.bool false), (69, [], Value.pointer (some ⟨b_, 0, none⟩))] (by kernel_rfl) (by kernel_rfl) ?_
                    obtain ⟨v70, hc, h⟩ := h
                    refine reg_load1 (t := 3) (a := (Go.Operand.tmp 69)) (b := b_) (o := 0) (ty := 3) (dst := some 70) (by kernel_rfl) (by kernel_rfl) (by kernel_rfl) hc ?_
                    refine reg_run [.sure, .plain] 7 [(0, [], Value.slice l_.ptr l_.len l_.cap), (1, [], Value.slice asks.ptr asks.len asks.cap), (5, [], Value.pointer s), (7, [], Value.slice want.ptr want.len want.cap), (8, [], Value.int .i64 i), (72, [], Value.bool (v70 != 0))] (by kernel_rfl) (by kernel_rfl) ?_
                    refine reg_end [(0, Value.slice l_.ptr l_.len l_.cap), (1, Value.slice asks.ptr asks.len asks.cap), (5, Value.pointer s), (7, Value.slice want.ptr want.len want.cap), (8, Value.int .i64 i), (72, Value.bool (v70 != 0))] (by kernel_rfl) (by kernel_rfl) ?_
                    exact ⟨[(0, Value.slice l_.ptr l_.len l_.cap), (1, Value.slice asks.ptr asks.len asks.cap), (5, Value.pointer s), (7, Value.slice want.ptr want.len want.cap), (8, Value.int .i64 i), (72, Value.bool (v70 != 0))], Sub.mk (by kernel_rfl), (v70 != 0), rfl, h⟩
                · rintro _ w10 ⟨t72, rfl, h⟩
                  unfold F_towpathlaw06_LogfileAsked_k3 at h
                  refine wpE_cond (o := (Operand.tmp 72)) (b := t72) (x := c_towpathlaw06_LogfileAsked_60) (y := c_towpathlaw06_LogfileAsked_64) (by kernel_rfl) (by kernel_rfl) (fun hb => ?_) (fun hb => ?_)
                  · replace h := h.1 hb
                    refine wpE_seq (x := c_towpathlaw06_LogfileAsked_61) (y := c_towpathlaw06_LogfileAsked_63) (by kernel_rfl) ?_
                    refine wpE_region (id := 14) (ops := r_towpathlaw06_LogfileAsked_61) (by kernel_rfl) ?_
                    refine reg_run [.plain] 1 [(4, [], Value.bool false)] (by kernel_rfl) (by kernel_rfl) ?_
                    refine reg_end [(4, Value.bool false)] (by kernel_rfl) (by kernel_rfl) ?_
                    change WpE _ _ c_towpathlaw06_LogfileAsked_63 _ _ _
                    refine wpE_ret (by kernel_rfl) ?_
                    repeat (first | refine seqQ_ret ?_ | refine blockQ_ret ?_ | refine loopQ_ret ?_ | refine cutQ_ret ?_)
                    exact retS (rs := [(Go.ResultVar.tmp 4)]) (v := Value.bool false) (by kernel_rfl) (⟨by kernel_rfl, trivial⟩) ⟨false, rfl, h⟩
                  · replace h := h.2 hb
                    refine wpE_skip (by kernel_rfl) ?_
                    change WpE _ _ c_towpathlaw06_LogfileAsked_65 _ _ _
                    refine wpE_exit (id := 1) (by kernel_rfl) ?_
                    exact ⟨[(0, Value.slice l_.ptr l_.len l_.cap), (1, Value.slice asks.ptr asks.len asks.cap), (5, Value.pointer s), (7, Value.slice want.ptr want.len want.cap), (8, Value.int .i64 i)], Sub.mk (by kernel_rfl), want, rfl, h⟩
              · replace h := h.2 hb
                refine wpE_skip (by kernel_rfl) ?_
                change WpE _ _ c_towpathlaw06_LogfileAsked_67 _ _ _
                refine wpE_seq (x := c_towpathlaw06_LogfileAsked_68) (y := c_towpathlaw06_LogfileAsked_77) (by kernel_rfl) ?_
                refine wpE_seq_cut (x := c_towpathlaw06_LogfileAsked_69) (y := c_towpathlaw06_LogfileAsked_71) (by kernel_rfl) (fun l w => ∃ (t84 : Bool), l = [(0, Value.slice l_.ptr l_.len l_.cap), (1, Value.slice asks.ptr asks.len asks.cap), (5, Value.pointer s), (7, Value.slice want.ptr want.len want.cap), (8, Value.int .i64 i), (9, Value.int .i64 (IntKind.i64.wrap v50)), (84, Value.bool t84)] ∧ F_towpathlaw06_LogfileAsked_k4 R want i again_ v50 t84 w) ?_ ?_
                · refine wpE_mixregion (id := 15) (ops := r_towpathlaw06_LogfileAsked_69) o_towpathlaw06_LogfileAsked_69 (by kernel_rfl) (by kernel_rfl) (by kernel_rfl) (by kernel_rfl) (fun w14 hw => ?_)
                  replace h := h w14 hw
                  clear hw
                  refine mreg_run [.plain, .plain, .plain] 3 [(0, [], Value.slice l_.ptr l_.len l_.cap), (1, [], Value.slice asks.ptr asks.len asks.cap), (5, [], Value.pointer s), (7, [], Value.slice want.ptr want.len want.cap), (8, [], Value.int .i64 i), (9, [], Value.int .i64 (IntKind.i64.wrap v50)), (10, [], Value.pointer (some ⟨b_, 0, none⟩)), (75, [], Value.bool (f != 0))] (by kernel_rfl) (by kernel_rfl) ?_
                  refine mreg_split 75 (f != 0) (by kernel_rfl) (fun hb => ?_) (fun hb => ?_)
                  · replace h := h.1 hb
                    refine mreg_run [] 3 [(0, [], Value.slice l_.ptr l_.len l_.cap), (1, [], Value.slice asks.ptr asks.len asks.cap), (5, [], Value.pointer s), (7, [], Value.slice want.ptr want.len want.cap), (8, [], Value.int .i64 i), (9, [], Value.int .i64 (IntKind.i64.wrap v50)), (10, [], Value.pointer (some ⟨b_, 0, none⟩)), (75, [], Value.bool true)] (by kernel_rfl) (by kernel_rfl) ?_
                    refine mreg_run [.skip, .skip, .skip, .skip, .skip, .skip, .skip, .skip, .plain] 12 [(0, [], Value.slice l_.ptr l_.len l_.cap), (1, [], Value.slice asks.ptr asks.len asks.cap), (5, [], Value.pointer s), (7, [], Value.slice want.ptr want.len want.cap), (8, [], Value.int .i64 i), (9, [], Value.int .i64 (IntKind.i64.wrap v50)), (84, [], Value.bool true)] (by kernel_rfl) (by kernel_rfl) ?_
                    refine mreg_end [(0, Value.slice l_.ptr l_.len l_.cap), (1, Value.slice asks.ptr asks.len asks.cap), (5, Value.pointer s), (7, Value.slice want.ptr want.len want.cap), (8, Value.int .i64 i), (9, Value.int .i64 (IntKind.i64.wrap v50)), (84, Value.bool true)] (by kernel_rfl) (by kernel_rfl) (by kernel_rfl) ?_
                    exact ⟨[(0, Value.slice l_.ptr l_.len l_.cap), (1, Value.slice asks.ptr asks.len asks.cap), (5, Value.pointer s), (7, Value.slice want.ptr want.len want.cap), (8, Value.int .i64 i), (9, Value.int .i64 (IntKind.i64.wrap v50)), (84, Value.bool true)], Sub.mk (by kernel_rfl), true, rfl, h⟩
                  · replace h := h.2 hb
                    refine mreg_run [] 3 [(0, [], Value.slice l_.ptr l_.len l_.cap), (1, [], Value.slice asks.ptr asks.len asks.cap), (5, [], Value.pointer s), (7, [], Value.slice want.ptr want.len want.cap), (8, [], Value.int .i64 i), (9, [], Value.int .i64 (IntKind.i64.wrap v50)), (10, [], Value.pointer (some ⟨b_, 0, none⟩)), (75, [], Value.bool false)] (by kernel_rfl) (by kernel_rfl) ?_
                    refine mreg_run [] 3 [(0, [], Value.slice l_.ptr l_.len l_.cap), (1, [], Value.slice asks.ptr asks.len asks.cap), (5, [], Value.pointer s), (7, [], Value.slice want.ptr want.len want.cap), (8, [], Value.int .i64 i), (9, [], Value.int .i64 (IntKind.i64.wrap v50)), (10, [], Value.pointer (some ⟨b_, 0, none⟩)), (75, [], Value.bool false)] (by kernel_rfl) (by kernel_rfl) ?_
                    obtain ⟨v76, hc, h⟩ := h
                    refine mreg_loadN (i := 3) (by kernel_rfl) (t := 49) (a := (Go.Operand.tmp 10)) (b := b_) (o := 0) (ty := 49) (dst := some 76) [Value.int .i64 v76.Number, Value.slice v76.Writes.ptr v76.Writes.len v76.Writes.cap] (by kernel_rfl) (by kernel_rfl) (by kernel_rfl) (k := 2) (by kernel_rfl) (by kernel_rfl) hc ?_
                    refine mreg_run [.sure, .sure, .sure] 7 [(0, [], Value.slice l_.ptr l_.len l_.cap), (1, [], Value.slice asks.ptr asks.len asks.cap), (5, [], Value.pointer s), (7, [], Value.slice want.ptr want.len want.cap), (8, [], Value.int .i64 i), (9, [], Value.int .i64 (IntKind.i64.wrap v50)), (75, [], Value.bool false), (76, [], Value.agg #[Value.int .i64 v76.Number, Value.slice v76.Writes.ptr v76.Writes.len v76.Writes.cap]), (77, [], Value.slice l_.ptr l_.len l_.cap), (79, [], Value.int .i64 (IntKind.i64.wrap ((IntKind.i64.wrap v50) - 1)))] (by kernel_rfl) (by kernel_rfl) ?_
                    obtain ⟨hp_23, h⟩ := h
                    refine mreg_conv [(0, [], Value.slice l_.ptr l_.len l_.cap), (1, [], Value.slice asks.ptr asks.len asks.cap), (5, [], Value.pointer s), (7, [], Value.slice want.ptr want.len want.cap), (8, [], Value.int .i64 i), (9, [], Value.int .i64 (IntKind.i64.wrap v50)), (75, [], Value.bool false), (76, [], Value.agg #[Value.int .i64 v76.Number, Value.slice v76.Writes.ptr v76.Writes.len v76.Writes.cap]), (77, [], Value.slice (some ⟨(pblk l_.ptr), (poff l_.ptr), none⟩) l_.len l_.cap), (79, [], Value.int .i64 (IntKind.i64.wrap ((IntKind.i64.wrap v50) - 1)))] (congrArg (fun pp => ([(0, [], Value.slice l_.ptr l_.len l_.cap), (1, [], Value.slice asks.ptr asks.len asks.cap), (5, [], Value.pointer s), (7, [], Value.slice want.ptr want.len want.cap), (8, [], Value.int .i64 i), (9, [], Value.int .i64 (IntKind.i64.wrap v50)), (75, [], Value.bool false), (76, [], Value.agg #[Value.int .i64 v76.Number, Value.slice v76.Writes.ptr v76.Writes.len v76.Writes.cap]), (77, [], Value.slice pp l_.len l_.cap), (79, [], Value.int .i64 (IntKind.i64.wrap ((IntKind.i64.wrap v50) - 1)))] : GEnv)) hp_23) ?_
                    obtain ⟨h0, h1, h⟩ := h
                    refine mreg_indexS (i := 7) (by kernel_rfl) (t := 37) (e := 49) (x := (Go.Operand.tmp 77)) (ix := (Go.Operand.tmp 79)) (b := (pblk l_.ptr)) (o := (poff l_.ptr)) (l := l_.len) (c := l_.cap) (k := .i64) (j := (IntKind.i64.wrap ((IntKind.i64.wrap v50) - 1))) (ty := 0) (dst := some 80) (sz := 2) (by kernel_rfl) (by kernel_rfl) (by kernel_rfl) (by kernel_rfl) (by kernel_rfl) h0 h1 ?_
                    refine mreg_run [] 8 [(0, [], Value.slice l_.ptr l_.len l_.cap), (1, [], Value.slice asks.ptr asks.len asks.cap), (5, [], Value.pointer s), (7, [], Value.slice want.ptr want.len want.cap), (8, [], Value.int .i64 i), (9, [], Value.int .i64 (IntKind.i64.wrap v50)), (75, [], Value.bool false), (76, [], Value.agg #[Value.int .i64 v76.Number, Value.slice v76.Writes.ptr v76.Writes.len v76.Writes.cap]), (80, [], Value.pointer (some ⟨(pblk l_.ptr), (poff l_.ptr) + (IntKind.i64.wrap ((IntKind.i64.wrap v50) - 1)).toNat * 2, none⟩))] (by kernel_rfl) (by kernel_rfl) ?_
                    obtain ⟨v81, hc, h⟩ := h
                    refine mreg_loadN (i := 8) (by kernel_rfl) (t := 49) (a := (Go.Operand.tmp 80)) (b := (pblk l_.ptr)) (o := ((poff l_.ptr) + (IntKind.i64.wrap ((IntKind.i64.wrap v50) - 1)).toNat * 2)) (ty := 49) (dst := some 81) [Value.int .i64 v81.Number, Value.slice v81.Writes.ptr v81.Writes.len v81.Writes.cap] (by kernel_rfl) (by kernel_rfl) (by kernel_rfl) (k := 2) (by kernel_rfl) (by kernel_rfl) hc ?_
                    refine mreg_run [] 9 [(0, [], Value.slice l_.ptr l_.len l_.cap), (1, [], Value.slice asks.ptr asks.len asks.cap), (5, [], Value.pointer s), (7, [], Value.slice want.ptr want.len want.cap), (8, [], Value.int .i64 i), (9, [], Value.int .i64 (IntKind.i64.wrap v50)), (75, [], Value.bool false), (76, [], Value.agg #[Value.int .i64 v76.Number, Value.slice v76.Writes.ptr v76.Writes.len v76.Writes.cap]), (81, [], Value.agg #[Value.int .i64 v81.Number, Value.slice v81.Writes.ptr v81.Writes.len v81.Writes.cap])] (by kernel_rfl) (by kernel_rfl) ?_
                    refine mreg_enter (op := (Go.Op.call (Go.Call.mk (Go.Callee.value (Go.Operand.func 23)) #[(Go.Operand.tmp 76), (Go.Operand.tmp 81)] #[49, 49]))) (ty := 4) (dst := some 82) 9 [2, 3, 8, 1, 7, 0, 4, 6, 5] [] 23 #[Value.agg #[Value.int .i64 v76.Number, Value.slice v76.Writes.ptr v76.Writes.len v76.Writes.cap], Value.agg #[Value.int .i64 v81.Number, Value.slice v81.Writes.ptr v81.Writes.len v81.Writes.cap]] (by kernel_rfl) (by kernel_rfl) (by kernel_rfl) (by kernel_rfl) (by kernel_rfl) (fun ww => by kernel_rfl) (Calls.mono h ?_)
                    rintro _ w15 ⟨v82, rfl, h⟩
                    refine ⟨_, rfl, trivial, ?_⟩
                    refine mreg_run [.sure, .plain] 12 [(0, [], Value.slice l_.ptr l_.len l_.cap), (1, [], Value.slice asks.ptr asks.len asks.cap), (5, [], Value.pointer s), (7, [], Value.slice want.ptr want.len want.cap), (8, [], Value.int .i64 i), (9, [], Value.int .i64 (IntKind.i64.wrap v50)), (84, [], Value.bool (!v82))] (by kernel_rfl) (by kernel_rfl) ?_
                    refine mreg_end [(0, Value.slice l_.ptr l_.len l_.cap), (1, Value.slice asks.ptr asks.len asks.cap), (5, Value.pointer s), (7, Value.slice want.ptr want.len want.cap), (8, Value.int .i64 i), (9, Value.int .i64 (IntKind.i64.wrap v50)), (84, Value.bool (!v82))] (by kernel_rfl) (by kernel_rfl) (by kernel_rfl) ?_
                    exact ⟨[(0, Value.slice l_.ptr l_.len l_.cap), (1, Value.slice asks.ptr asks.len asks.cap), (5, Value.pointer s), (7, Value.slice want.ptr want.len want.cap), (8, Value.int .i64 i), (9, Value.int .i64 (IntKind.i64.wrap v50)), (84, Value.bool (!v82))], Sub.mk (by kernel_rfl), (!v82), rfl, h⟩
                · rintro _ w11 ⟨t84, rfl, h⟩
                  unfold F_towpathlaw06_LogfileAsked_k4 at h
                  refine wpE_cond (o := (Operand.tmp 84)) (b := t84) (x := c_towpathlaw06_LogfileAsked_72) (y := c_towpathlaw06_LogfileAsked_76) (by kernel_rfl) (by kernel_rfl) (fun hb => ?_) (fun hb => ?_)
                  · replace h := h.1 hb
                    refine wpE_seq (x := c_towpathlaw06_LogfileAsked_73) (y := c_towpathlaw06_LogfileAsked_75) (by kernel_rfl) ?_
                    refine wpE_region (id := 16) (ops := r_towpathlaw06_LogfileAsked_73) (by kernel_rfl) ?_
                    refine reg_run [.plain] 1 [(4, [], Value.bool false)] (by kernel_rfl) (by kernel_rfl) ?_
                    refine reg_end [(4, Value.bool false)] (by kernel_rfl) (by kernel_rfl) ?_
                    change WpE _ _ c_towpathlaw06_LogfileAsked_75 _ _ _
                    refine wpE_ret (by kernel_rfl) ?_
                    repeat (first | refine seqQ_ret ?_ | refine blockQ_ret ?_ | refine loopQ_ret ?_ | refine cutQ_ret ?_)
                    exact retS (rs := [(Go.ResultVar.tmp 4)]) (v := Value.bool false) (by kernel_rfl) (⟨by kernel_rfl, trivial⟩) ⟨false, rfl, h⟩
                  · replace h := h.2 hb
                    refine wpE_skip (by kernel_rfl) ?_
                    change WpE _ _ c_towpathlaw06_LogfileAsked_77 _ _ _
                    refine wpE_region (id := 17) (ops := r_towpathlaw06_LogfileAsked_77) (by kernel_rfl) ?_
                    refine reg_run [.plain, .plain] 2 [(0, [], Value.slice l_.ptr l_.len l_.cap), (1, [], Value.slice asks.ptr asks.len asks.cap), (5, [], Value.pointer s), (7, [], Value.slice want.ptr want.len want.cap), (8, [], Value.int .i64 i), (85, [], Value.slice want.ptr want.len want.cap), (86, [], Value.int .i64 (IntKind.i64.wrap v50))] (by kernel_rfl) (by kernel_rfl) ?_
                    refine reg_new (op := (Go.Op.buildSlice 25 1 #[(0, (Go.Operand.tmp 86))])) (ty := 25) (dst := some 87) (fun bb => Value.slice (some ⟨bb, 0, none⟩) 1 1) (Obj.cells ([Value.int .i64 (IntKind.i64.wrap v50)]).toArray ty_int (0, 0)) (by kernel_rfl) (by kernel_rfl) (fun b_1 w12 hb hw => ?_)
                    replace h := h b_1 w12 hb hw
                    clear hb hw
                    refine reg_run [] 3 [(0, [], Value.slice l_.ptr l_.len l_.cap), (1, [], Value.slice asks.ptr asks.len asks.cap), (5, [], Value.pointer s), (7, [], Value.slice want.ptr want.len want.cap), (8, [], Value.int .i64 i), (85, [], Value.slice want.ptr want.len want.cap), (87, [], Value.slice (some ⟨b_1, 0, none⟩) 1 1)] (by kernel_rfl) (by kernel_rfl) ?_
                    obtain ⟨src, hs, h⟩ := h
                    refine reg_append (t := 25) (tx := 25) (e := 3) (a := (Go.Operand.tmp 85)) (xo := (Go.Operand.tmp 87)) (s := want) (x := (Slc.mk (some ⟨b_1, 0, none⟩) 1 1)) (sz := 1) (by_ := 8) (zs := [Value.int .i64 0]) (ty := 25) (dst := some 88)  src (by kernel_rfl) (by kernel_rfl) (by kernel_rfl) (by kernel_rfl) (by kernel_rfl) (by kernel_rfl) (by kernel_rfl) (by kernel_rfl) (by kernel_rfl) hs (AppendW.mono h (fun want2 w13 h => ?_))
                    refine reg_run [.plain] 5 [(0, [], Value.slice l_.ptr l_.len l_.cap), (1, [], Value.slice asks.ptr asks.len asks.cap), (5, [], Value.pointer s), (7, [], Value.slice want2.ptr want2.len want2.cap), (8, [], Value.int .i64 i)] (by kernel_rfl) (by kernel_rfl) ?_
                    refine reg_end [(0, Value.slice l_.ptr l_.len l_.cap), (1, Value.slice asks.ptr asks.len asks.cap), (5, Value.pointer s), (7, Value.slice want2.ptr want2.len want2.cap), (8, Value.int .i64 i)] (by kernel_rfl) (by kernel_rfl) ?_
                    exact ⟨[(0, Value.slice l_.ptr l_.len l_.cap), (1, Value.slice asks.ptr asks.len asks.cap), (5, Value.pointer s), (7, Value.slice want2.ptr want2.len want2.cap), (8, Value.int .i64 i)], Sub.mk (by kernel_rfl), want2, rfl, h⟩
            · rintro _ w6 ⟨want1, rfl, h⟩
              unfold F_towpathlaw06_LogfileAsked_k2 at h
              refine wpE_region (id := 9) (ops := r_towpathlaw06_LogfileAsked_79) (by kernel_rfl) ?_
              refine reg_run [.plain, .plain, .plain] 3 [(0, [], Value.slice l_.ptr l_.len l_.cap), (1, [], Value.slice asks.ptr asks.len asks.cap), (5, [], Value.pointer s), (7, [], Value.slice want1.ptr want1.len want1.cap), (8, [], Value.int .i64 (IntKind.i64.wrap (i + 1)))] (by kernel_rfl) (by kernel_rfl) ?_
              refine reg_end [(0, Value.slice l_.ptr l_.len l_.cap), (1, Value.slice asks.ptr asks.len asks.cap), (5, Value.pointer s), (7, Value.slice want1.ptr want1.len want1.cap), (8, Value.int .i64 (IntKind.i64.wrap (i + 1)))] (by kernel_rfl) (by kernel_rfl) ?_
              have hb_ := again__h _ _ _ h
              exact ⟨_, hb_.2, [(0, Value.slice l_.ptr l_.len l_.cap), (1, Value.slice asks.ptr asks.len asks.cap), (5, Value.pointer s), (7, Value.slice want1.ptr want1.len want1.cap), (8, Value.int .i64 (IntKind.i64.wrap (i + 1)))], Sub.mk (by kernel_rfl), want1, (IntKind.i64.wrap (i + 1)), rfl, hb_.1, rfl⟩
          · replace h := h.2 hb
            refine wpE_exit (id := 0) (by kernel_rfl) ?_
            change WpE _ _ c_towpathlaw06_LogfileAsked_81 _ _ _
            refine wpE_seq (x := c_towpathlaw06_LogfileAsked_82) (y := c_towpathlaw06_LogfileAsked_84) (by kernel_rfl) ?_
            refine wpE_region (id := 18) (ops := r_towpathlaw06_LogfileAsked_82) (by kernel_rfl) ?_
            refine reg_run [.plain] 1 [(0, [], Value.slice l_.ptr l_.len l_.cap), (5, [], Value.pointer s), (7, [], Value.slice want.ptr want.len want.cap), (89, [], Value.pointer s)] (by kernel_rfl) (by kernel_rfl) ?_
            refine reg_enter (op := (Go.Op.call (Go.Call.mk (Go.Callee.value (Go.Operand.func 27)) #[(Go.Operand.tmp 89)] #[53]))) (ty := 25) (dst := some 90) 27 #[Value.pointer s] (by kernel_rfl) (fun ww => by kernel_rfl) (Calls.mono h ?_)
            rintro _ w16 ⟨v90, rfl, h⟩
            refine ⟨_, rfl, ?_⟩
            refine reg_run [.plain] 3 [(0, [], Value.slice l_.ptr l_.len l_.cap), (5, [], Value.pointer s), (90, [], Value.slice v90.ptr v90.len v90.cap), (91, [], Value.slice want.ptr want.len want.cap)] (by kernel_rfl) (by kernel_rfl) ?_
            refine reg_enter (op := (Go.Op.call (Go.Call.mk (Go.Callee.value (Go.Operand.func 26)) #[(Go.Operand.tmp 90), (Go.Operand.tmp 91)] #[25, 25]))) (ty := 4) (dst := some 92) 26 #[Value.slice v90.ptr v90.len v90.cap, Value.slice want.ptr want.len want.cap] (by kernel_rfl) (fun ww => by kernel_rfl) (Calls.mono h ?_)
            rintro _ w17 ⟨v92, rfl, h⟩
            refine ⟨_, rfl, ?_⟩
            refine reg_run [.plain, .plain] 6 [(0, [], Value.slice l_.ptr l_.len l_.cap), (93, [], Value.bool v92), (94, [(93, true)], Value.pointer s)] (by kernel_rfl) (by kernel_rfl) ?_
            refine reg_split 93 v92 (by kernel_rfl) (fun hb => ?_) (fun hb => ?_)
            · replace h := h.1 hb
              refine reg_run [] 6 [(0, [], Value.slice l_.ptr l_.len l_.cap), (93, [], Value.bool true), (94, [], Value.pointer s)] (by kernel_rfl) (by kernel_rfl) ?_
              refine reg_run [] 6 [(0, [], Value.slice l_.ptr l_.len l_.cap), (93, [], Value.bool true), (94, [], Value.pointer s)] (by kernel_rfl) (by kernel_rfl) ?_
              refine reg_enter (op := (Go.Op.call (Go.Call.mk (Go.Callee.value (Go.Operand.func 28)) #[(Go.Operand.tmp 94)] #[53]))) (ty := 3) (dst := some 95) 28 #[Value.pointer s] (by kernel_rfl) (fun ww => by kernel_rfl) (Calls.mono h ?_)
              rintro _ w18 ⟨v95, rfl, h⟩
              refine ⟨_, rfl, ?_⟩
              refine reg_run [.sure, .sure, .sure, .plain, .plain] 12 [(4, [], Value.bool (v95 == ((l_.len : Nat) : Int)))] (by kernel_rfl) (by kernel_rfl) ?_
              refine reg_end [(4, Value.bool (v95 == ((l_.len : Nat) : Int)))] (by kernel_rfl) (by kernel_rfl) ?_
              change WpE _ _ c_towpathlaw06_LogfileAsked_84 _ _ _
              refine wpE_ret (by kernel_rfl) ?_
              repeat (first | refine seqQ_ret ?_ | refine blockQ_ret ?_ | refine loopQ_ret ?_ | refine cutQ_ret ?_)
              exact retS (rs := [(Go.ResultVar.tmp 4)]) (v := Value.bool (v95 == ((l_.len : Nat) : Int))) (by kernel_rfl) (⟨by kernel_rfl, trivial⟩) ⟨(v95 == ((l_.len : Nat) : Int)), rfl, h⟩
            · replace h := h.2 hb
              refine reg_run [] 6 [(0, [], Value.slice l_.ptr l_.len l_.cap), (93, [], Value.bool false), (94, [], undef)] (by kernel_rfl) (by kernel_rfl) ?_
              refine reg_run [.skip, .skip, .skip, .skip, .plain, .plain] 12 [(4, [], Value.bool false)] (by kernel_rfl) (by kernel_rfl) ?_
              refine reg_end [(4, Value.bool false)] (by kernel_rfl) (by kernel_rfl) ?_
              change WpE _ _ c_towpathlaw06_LogfileAsked_84 _ _ _
              refine wpE_ret (by kernel_rfl) ?_
              repeat (first | refine seqQ_ret ?_ | refine blockQ_ret ?_ | refine loopQ_ret ?_ | refine cutQ_ret ?_)
              exact retS (rs := [(Go.ResultVar.tmp 4)]) (v := Value.bool false) (by kernel_rfl) (⟨by kernel_rfl, trivial⟩) ⟨false, rfl, h⟩
  · rintro e w' ⟨v, rfl, r0, rfl, h⟩; exact ⟨r0, rfl, h⟩
end Go.Proofs.Ytpdegdnigcnjiaa
