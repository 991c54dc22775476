/- WRITTEN BY PROGRAM (dec.py): for each Go function the clean formula F, the call's contract C, and the proof S that F gives C. -/
import Derived.Test.YtcgfmkpddhhmgaaRows
import Derived.Test.YtcgfmkpddhhmgaaGF
namespace Go.Proofs.Ytcgfmkpddhhmgaa
open Go
set_option linter.unusedVariables false

/-! ### towpath/towpathlaw08.ChainTwice (function 5) -/
noncomputable def c_towpathlaw08_ChainTwice_0 : Code := (Try.f5.body).getD Code.skip
noncomputable def c_towpathlaw08_ChainTwice_1 : Code := Code.l c_towpathlaw08_ChainTwice_0
noncomputable def r_towpathlaw08_ChainTwice_1 : Array Oper := Code.ops c_towpathlaw08_ChainTwice_1
noncomputable def c_towpathlaw08_ChainTwice_3 : Code := Code.r c_towpathlaw08_ChainTwice_0
noncomputable def c_towpathlaw08_ChainTwice_4 : Code := Code.l c_towpathlaw08_ChainTwice_3
noncomputable def c_towpathlaw08_ChainTwice_5 : Code := Code.l c_towpathlaw08_ChainTwice_4
noncomputable def r_towpathlaw08_ChainTwice_5 : Array Oper := Code.ops c_towpathlaw08_ChainTwice_5
noncomputable def c_towpathlaw08_ChainTwice_7 : Code := Code.r c_towpathlaw08_ChainTwice_4
noncomputable def c_towpathlaw08_ChainTwice_8 : Code := Code.l c_towpathlaw08_ChainTwice_7
noncomputable def c_towpathlaw08_ChainTwice_9 : Code := Code.l c_towpathlaw08_ChainTwice_8
noncomputable def r_towpathlaw08_ChainTwice_9 : Array Oper := Code.ops c_towpathlaw08_ChainTwice_9
noncomputable def c_towpathlaw08_ChainTwice_11 : Code := Code.r c_towpathlaw08_ChainTwice_8
noncomputable def c_towpathlaw08_ChainTwice_12 : Code := Code.r c_towpathlaw08_ChainTwice_7
noncomputable def c_towpathlaw08_ChainTwice_13 : Code := Code.r c_towpathlaw08_ChainTwice_3
noncomputable def c_towpathlaw08_ChainTwice_14 : Code := Code.l c_towpathlaw08_ChainTwice_13
noncomputable def r_towpathlaw08_ChainTwice_14 : Array Oper := Code.ops c_towpathlaw08_ChainTwice_14
noncomputable def c_towpathlaw08_ChainTwice_16 : Code := Code.r c_towpathlaw08_ChainTwice_13
noncomputable def c_towpathlaw08_ChainTwice_17 : Code := Code.l c_towpathlaw08_ChainTwice_16
noncomputable def r_towpathlaw08_ChainTwice_17 : Array Oper := Code.ops c_towpathlaw08_ChainTwice_17
noncomputable def c_towpathlaw08_ChainTwice_19 : Code := Code.r c_towpathlaw08_ChainTwice_16
noncomputable def c_towpathlaw08_ChainTwice_20 : Code := Code.l c_towpathlaw08_ChainTwice_19
noncomputable def r_towpathlaw08_ChainTwice_20 : Array Oper := Code.ops c_towpathlaw08_ChainTwice_20
noncomputable def c_towpathlaw08_ChainTwice_22 : Code := Code.r c_towpathlaw08_ChainTwice_19
noncomputable def c_towpathlaw08_ChainTwice_23 : Code := Code.l c_towpathlaw08_ChainTwice_22
noncomputable def r_towpathlaw08_ChainTwice_23 : Array Oper := Code.ops c_towpathlaw08_ChainTwice_23
noncomputable def c_towpathlaw08_ChainTwice_25 : Code := Code.r c_towpathlaw08_ChainTwice_22
noncomputable def c_towpathlaw08_ChainTwice_26 : Code := Code.l c_towpathlaw08_ChainTwice_25
noncomputable def r_towpathlaw08_ChainTwice_26 : Array Oper := Code.ops c_towpathlaw08_ChainTwice_26
noncomputable def c_towpathlaw08_ChainTwice_28 : Code := Code.r c_towpathlaw08_ChainTwice_25

set_option maxRecDepth 100000 in
set_option maxHeartbeats 4000000 in
theorem S_towpathlaw08_ChainTwice {l_ : Slc} {a_ : Int} {b_ : Int} {w : World} {R : Bool → World → Prop} (h : F_towpathlaw08_ChainTwice l_ a_ b_ R w) : C_towpathlaw08_ChainTwice l_ a_ b_ w R := by
  unfold F_towpathlaw08_ChainTwice at h
  unfold C_towpathlaw08_ChainTwice
  refine Calls.mono (calls_of_wpE (args := [Value.slice l_.ptr l_.len l_.cap, Value.int .u16 a_, Value.int .u16 b_]) (R := fun v w' => ∃ (r0 : Bool), v = Value.bool r0 ∧ R r0 w') Try.func5 (c := c_towpathlaw08_ChainTwice_0) (by kernel_rfl) 85 (by kernel_rfl) (by kernel_rfl) [(0, Value.slice l_.ptr l_.len l_.cap), (1, Value.int .u16 a_), (2, Value.int .u16 b_)] (by kernel_rfl) ?_) ?_
  · refine wpE_seq (x := c_towpathlaw08_ChainTwice_1) (y := c_towpathlaw08_ChainTwice_3) (by kernel_rfl) ?_
    refine wpE_region (id := 0) (ops := r_towpathlaw08_ChainTwice_1) (by kernel_rfl) ?_
    refine reg_run [.plain] 1 [(0, [], Value.slice l_.ptr l_.len l_.cap), (1, [], Value.int .u16 a_), (2, [], Value.int .u16 b_)] (by kernel_rfl) (by kernel_rfl) ?_
    refine reg_end [(0, Value.slice l_.ptr l_.len l_.cap), (1, Value.int .u16 a_), (2, Value.int .u16 b_)] (by kernel_rfl) (by kernel_rfl) ?_
    change WpE _ _ c_towpathlaw08_ChainTwice_3 _ _ _
    refine wpE_seq (x := c_towpathlaw08_ChainTwice_4) (y := c_towpathlaw08_ChainTwice_13) (by kernel_rfl) ?_
    refine wpE_seq_cut (x := c_towpathlaw08_ChainTwice_5) (y := c_towpathlaw08_ChainTwice_7) (by kernel_rfl) (fun l w => ∃ (t30 : Bool), l = [(0, Value.slice l_.ptr l_.len l_.cap), (1, Value.int .u16 a_), (2, Value.int .u16 b_), (30, Value.bool t30)] ∧ F_towpathlaw08_ChainTwice_k0 l_ a_ b_ R t30 w) ?_ ?_
    · refine wpE_region (id := 1) (ops := r_towpathlaw08_ChainTwice_5) (by kernel_rfl) ?_
      refine reg_run [] 0 [(0, [], Value.slice l_.ptr l_.len l_.cap), (1, [], Value.int .u16 a_), (2, [], Value.int .u16 b_)] (by kernel_rfl) (by kernel_rfl) ?_
      refine reg_enter (op := (Go.Op.call (Go.Call.mk (Go.Callee.value (Go.Operand.func 7)) #[] #[]))) (ty := 4) (dst := some 18) 7 #[] (by kernel_rfl) (fun ww => by kernel_rfl) (Calls.mono h ?_)
      rintro _ w7 ⟨v18, rfl, h⟩
      refine ⟨_, rfl, ?_⟩
      refine reg_run [.plain, .plain, .plain] 4 [(0, [], Value.slice l_.ptr l_.len l_.cap), (1, [], Value.int .u16 a_), (2, [], Value.int .u16 b_), (20, [], Value.bool (!v18)), (21, [(20, false)], Value.slice l_.ptr l_.len l_.cap)] (by kernel_rfl) (by kernel_rfl) ?_
      refine reg_split 20 (!v18) (by kernel_rfl) (fun hb => ?_) (fun hb => ?_)
      · replace h := h.1 hb
        refine reg_run [] 4 [(0, [], Value.slice l_.ptr l_.len l_.cap), (1, [], Value.int .u16 a_), (2, [], Value.int .u16 b_), (20, [], Value.bool true), (21, [], undef)] (by kernel_rfl) (by kernel_rfl) ?_
        refine reg_run [.skip, .skip, .plain, .plain, .skip, .skip, .skip, .skip, .plain] 13 [(0, [], Value.slice l_.ptr l_.len l_.cap), (1, [], Value.int .u16 a_), (2, [], Value.int .u16 b_), (30, [], Value.bool true)] (by kernel_rfl) (by kernel_rfl) ?_
        refine reg_end [(0, Value.slice l_.ptr l_.len l_.cap), (1, Value.int .u16 a_), (2, Value.int .u16 b_), (30, Value.bool true)] (by kernel_rfl) (by kernel_rfl) ?_
        exact ⟨[(0, Value.slice l_.ptr l_.len l_.cap), (1, Value.int .u16 a_), (2, Value.int .u16 b_), (30, Value.bool true)], Sub.mk (by kernel_rfl), true, rfl, h⟩
      · replace h := h.2 hb
        refine reg_run [] 4 [(0, [], Value.slice l_.ptr l_.len l_.cap), (1, [], Value.int .u16 a_), (2, [], Value.int .u16 b_), (20, [], Value.bool false), (21, [], Value.slice l_.ptr l_.len l_.cap)] (by kernel_rfl) (by kernel_rfl) ?_
        refine reg_run [] 4 [(0, [], Value.slice l_.ptr l_.len l_.cap), (1, [], Value.int .u16 a_), (2, [], Value.int .u16 b_), (20, [], Value.bool false), (21, [], Value.slice l_.ptr l_.len l_.cap)] (by kernel_rfl) (by kernel_rfl) ?_
        refine reg_enter (op := (Go.Op.call (Go.Call.mk (Go.Callee.value (Go.Operand.func 11)) #[(Go.Operand.tmp 21)] #[22]))) (ty := 26) (dst := some 22) 11 #[Value.slice l_.ptr l_.len l_.cap] (by kernel_rfl) (fun ww => by kernel_rfl) (Calls.mono h ?_)
        rintro _ w8 ⟨v22, rfl, h⟩
        refine ⟨_, rfl, ?_⟩
        refine reg_run [.sure, .plain, .plain, .plain] 9 [(0, [], Value.slice l_.ptr l_.len l_.cap), (1, [], Value.int .u16 a_), (2, [], Value.int .u16 b_), (25, [], Value.bool (v22 != 0)), (26, [(25, false)], Value.slice l_.ptr l_.len l_.cap)] (by kernel_rfl) (by kernel_rfl) ?_
        refine reg_split 25 (v22 != 0) (by kernel_rfl) (fun hb => ?_) (fun hb => ?_)
        · replace h := h.1 hb
          refine reg_run [] 9 [(0, [], Value.slice l_.ptr l_.len l_.cap), (1, [], Value.int .u16 a_), (2, [], Value.int .u16 b_), (25, [], Value.bool true), (26, [], undef)] (by kernel_rfl) (by kernel_rfl) ?_
          refine reg_run [.skip, .skip, .skip, .plain] 13 [(0, [], Value.slice l_.ptr l_.len l_.cap), (1, [], Value.int .u16 a_), (2, [], Value.int .u16 b_), (30, [], Value.bool true)] (by kernel_rfl) (by kernel_rfl) ?_
          refine reg_end [(0, Value.slice l_.ptr l_.len l_.cap), (1, Value.int .u16 a_), (2, Value.int .u16 b_), (30, Value.bool true)] (by kernel_rfl) (by kernel_rfl) ?_
          exact ⟨[(0, Value.slice l_.ptr l_.len l_.cap), (1, Value.int .u16 a_), (2, Value.int .u16 b_), (30, Value.bool true)], Sub.mk (by kernel_rfl), true, rfl, h⟩
        · replace h := h.2 hb
          refine reg_run [] 9 [(0, [], Value.slice l_.ptr l_.len l_.cap), (1, [], Value.int .u16 a_), (2, [], Value.int .u16 b_), (25, [], Value.bool false), (26, [], Value.slice l_.ptr l_.len l_.cap)] (by kernel_rfl) (by kernel_rfl) ?_
          refine reg_run [] 9 [(0, [], Value.slice l_.ptr l_.len l_.cap), (1, [], Value.int .u16 a_), (2, [], Value.int .u16 b_), (25, [], Value.bool false), (26, [], Value.slice l_.ptr l_.len l_.cap)] (by kernel_rfl) (by kernel_rfl) ?_
          refine reg_enter (op := (Go.Op.call (Go.Call.mk (Go.Callee.value (Go.Operand.func 9)) #[(Go.Operand.tmp 26)] #[22]))) (ty := 3) (dst := some 27) 9 #[Value.slice l_.ptr l_.len l_.cap] (by kernel_rfl) (fun ww => by kernel_rfl) (Calls.mono h ?_)
          rintro _ w9 ⟨v27, rfl, h⟩
          refine ⟨_, rfl, ?_⟩
          refine reg_run [] 10 [(0, [], Value.slice l_.ptr l_.len l_.cap), (1, [], Value.int .u16 a_), (2, [], Value.int .u16 b_), (25, [], Value.bool false), (27, [], Value.int .i64 v27)] (by kernel_rfl) (by kernel_rfl) ?_
          refine reg_new (op := (Go.Op.buildSlice 41 1 #[(0, (Go.Operand.tmp 27))])) (ty := 41) (dst := some 28) (fun bb => Value.slice (some ⟨bb, 0, none⟩) 1 1) (Obj.cells ([Value.int .i64 v27]).toArray ty_int (0, 0)) (by kernel_rfl) (by kernel_rfl) (fun b_1 w10 hb hw => ?_)
          replace h := h b_1 w10 hb hw
          clear hb hw
          refine reg_run [] 11 [(0, [], Value.slice l_.ptr l_.len l_.cap), (1, [], Value.int .u16 a_), (2, [], Value.int .u16 b_), (25, [], Value.bool false), (28, [], Value.slice (some ⟨b_1, 0, none⟩) 1 1)] (by kernel_rfl) (by kernel_rfl) ?_
          refine reg_enter (op := (Go.Op.call (Go.Call.mk (Go.Callee.value (Go.Operand.func 8)) #[(Go.Operand.tmp 28)] #[41]))) (ty := 4) (dst := some 29) 8 #[Value.slice (some ⟨b_1, 0, none⟩) 1 1] (by kernel_rfl) (fun ww => by kernel_rfl) (Calls.mono h ?_)
          rintro _ w11 ⟨v29, rfl, h⟩
          refine ⟨_, rfl, ?_⟩
          refine reg_run [.plain] 13 [(0, [], Value.slice l_.ptr l_.len l_.cap), (1, [], Value.int .u16 a_), (2, [], Value.int .u16 b_), (30, [], Value.bool v29)] (by kernel_rfl) (by kernel_rfl) ?_
          refine reg_end [(0, Value.slice l_.ptr l_.len l_.cap), (1, Value.int .u16 a_), (2, Value.int .u16 b_), (30, Value.bool v29)] (by kernel_rfl) (by kernel_rfl) ?_
          exact ⟨[(0, Value.slice l_.ptr l_.len l_.cap), (1, Value.int .u16 a_), (2, Value.int .u16 b_), (30, Value.bool v29)], Sub.mk (by kernel_rfl), v29, rfl, h⟩
    · rintro _ w1 ⟨t30, rfl, h⟩
      unfold F_towpathlaw08_ChainTwice_k0 at h
      refine wpE_cond (o := (Operand.tmp 30)) (b := t30) (x := c_towpathlaw08_ChainTwice_8) (y := c_towpathlaw08_ChainTwice_12) (by kernel_rfl) (by kernel_rfl) (fun hb => ?_) (fun hb => ?_)
      · replace h := h.1 hb
        refine wpE_seq (x := c_towpathlaw08_ChainTwice_9) (y := c_towpathlaw08_ChainTwice_11) (by kernel_rfl) ?_
        refine wpE_region (id := 2) (ops := r_towpathlaw08_ChainTwice_9) (by kernel_rfl) ?_
        refine reg_run [] 0 [] (by kernel_rfl) (by kernel_rfl) ?_
        refine reg_enter (op := (Go.Op.call (Go.Call.mk (Go.Callee.value (Go.Operand.func 7)) #[] #[]))) (ty := 4) (dst := some 31) 7 #[] (by kernel_rfl) (fun ww => by kernel_rfl) (Calls.mono h ?_)
        rintro _ w2 ⟨v31, rfl, h⟩
        refine ⟨_, rfl, ?_⟩
        refine reg_run [.plain] 2 [(6, [], Value.bool v31)] (by kernel_rfl) (by kernel_rfl) ?_
        refine reg_end [(6, Value.bool v31)] (by kernel_rfl) (by kernel_rfl) ?_
        change WpE _ _ c_towpathlaw08_ChainTwice_11 _ _ _
        refine wpE_ret (by kernel_rfl) ?_
        repeat (first | refine seqQ_ret ?_ | refine blockQ_ret ?_ | refine loopQ_ret ?_ | refine cutQ_ret ?_)
        exact retS (rs := [(Go.ResultVar.tmp 6)]) (v := Value.bool v31) (by kernel_rfl) (⟨by kernel_rfl, trivial⟩) ⟨v31, rfl, h⟩
      · replace h := h.2 hb
        refine wpE_skip (by kernel_rfl) ?_
        change WpE _ _ c_towpathlaw08_ChainTwice_13 _ _ _
        refine wpE_seq (x := c_towpathlaw08_ChainTwice_14) (y := c_towpathlaw08_ChainTwice_16) (by kernel_rfl) ?_
        refine wpE_region (id := 3) (ops := r_towpathlaw08_ChainTwice_14) (by kernel_rfl) ?_
        refine reg_run [.plain, .plain, .plain, .plain, .plain, .plain, .plain, .plain, .plain, .plain, .plain, .plain] 12 [(0, [], Value.slice l_.ptr l_.len l_.cap), (7, [], Value.int .i64 (if (IntKind.i64.wrap b_) < (IntKind.i64.wrap a_) then (IntKind.i64.wrap b_) else (IntKind.i64.wrap a_))), (8, [], Value.int .i64 (if (IntKind.i64.wrap b_) > (IntKind.i64.wrap a_) then (IntKind.i64.wrap b_) else (IntKind.i64.wrap a_)))] (by kernel_rfl) (by kernel_rfl) ?_
        refine reg_end [(0, Value.slice l_.ptr l_.len l_.cap), (7, Value.int .i64 (if (IntKind.i64.wrap b_) < (IntKind.i64.wrap a_) then (IntKind.i64.wrap b_) else (IntKind.i64.wrap a_))), (8, Value.int .i64 (if (IntKind.i64.wrap b_) > (IntKind.i64.wrap a_) then (IntKind.i64.wrap b_) else (IntKind.i64.wrap a_)))] (by kernel_rfl) (by kernel_rfl) ?_
        change WpE _ _ c_towpathlaw08_ChainTwice_16 _ _ _
        refine wpE_seq (x := c_towpathlaw08_ChainTwice_17) (y := c_towpathlaw08_ChainTwice_19) (by kernel_rfl) ?_
        refine wpE_region (id := 4) (ops := r_towpathlaw08_ChainTwice_17) (by kernel_rfl) ?_
        refine reg_run [.plain, .plain] 2 [(0, [], Value.slice l_.ptr l_.len l_.cap), (8, [], Value.int .i64 (if (IntKind.i64.wrap b_) > (IntKind.i64.wrap a_) then (IntKind.i64.wrap b_) else (IntKind.i64.wrap a_))), (43, [], Value.slice l_.ptr l_.len l_.cap), (44, [], Value.int .i64 (if (IntKind.i64.wrap b_) < (IntKind.i64.wrap a_) then (IntKind.i64.wrap b_) else (IntKind.i64.wrap a_)))] (by kernel_rfl) (by kernel_rfl) ?_
        refine reg_enter (op := (Go.Op.call (Go.Call.mk (Go.Callee.value (Go.Operand.func 14)) #[(Go.Operand.tmp 43), (Go.Operand.tmp 44)] #[22, 3]))) (ty := 37) (dst := some 45) 14 #[Value.slice l_.ptr l_.len l_.cap, Value.int .i64 (if (IntKind.i64.wrap b_) < (IntKind.i64.wrap a_) then (IntKind.i64.wrap b_) else (IntKind.i64.wrap a_))] (by kernel_rfl) (fun ww => by kernel_rfl) (Calls.mono h ?_)
        rintro _ w3 ⟨x, n_, e, rfl, h⟩
        refine ⟨_, rfl, ?_⟩
        refine reg_run [.plain, .plain, .plain, .plain, .plain, .plain, .plain] 10 [(0, [], Value.slice l_.ptr l_.len l_.cap), (8, [], Value.int .i64 (if (IntKind.i64.wrap b_) > (IntKind.i64.wrap a_) then (IntKind.i64.wrap b_) else (IntKind.i64.wrap a_))), (9, [], Value.slice x.ptr x.len x.cap), (10, [], Value.int .i64 n_), (11, [], Value.int .i64 e)] (by kernel_rfl) (by kernel_rfl) ?_
        refine reg_end [(0, Value.slice l_.ptr l_.len l_.cap), (8, Value.int .i64 (if (IntKind.i64.wrap b_) > (IntKind.i64.wrap a_) then (IntKind.i64.wrap b_) else (IntKind.i64.wrap a_))), (9, Value.slice x.ptr x.len x.cap), (10, Value.int .i64 n_), (11, Value.int .i64 e)] (by kernel_rfl) (by kernel_rfl) ?_
        change WpE _ _ c_towpathlaw08_ChainTwice_19 _ _ _
        refine wpE_seq (x := c_towpathlaw08_ChainTwice_20) (y := c_towpathlaw08_ChainTwice_22) (by kernel_rfl) ?_
        refine wpE_region (id := 5) (ops := r_towpathlaw08_ChainTwice_20) (by kernel_rfl) ?_
        refine reg_run [.plain, .plain] 2 [(0, [], Value.slice l_.ptr l_.len l_.cap), (8, [], Value.int .i64 (if (IntKind.i64.wrap b_) > (IntKind.i64.wrap a_) then (IntKind.i64.wrap b_) else (IntKind.i64.wrap a_))), (10, [], Value.int .i64 n_), (11, [], Value.int .i64 e), (50, [], Value.slice x.ptr x.len x.cap), (51, [], Value.int .i64 (if (IntKind.i64.wrap b_) > (IntKind.i64.wrap a_) then (IntKind.i64.wrap b_) else (IntKind.i64.wrap a_)))] (by kernel_rfl) (by kernel_rfl) ?_
        refine reg_enter (op := (Go.Op.call (Go.Call.mk (Go.Callee.value (Go.Operand.func 14)) #[(Go.Operand.tmp 50), (Go.Operand.tmp 51)] #[22, 3]))) (ty := 37) (dst := some 52) 14 #[Value.slice x.ptr x.len x.cap, Value.int .i64 (if (IntKind.i64.wrap b_) > (IntKind.i64.wrap a_) then (IntKind.i64.wrap b_) else (IntKind.i64.wrap a_))] (by kernel_rfl) (fun ww => by kernel_rfl) (Calls.mono h ?_)
        rintro _ w4 ⟨y, m_, f, rfl, h⟩
        refine ⟨_, rfl, ?_⟩
        refine reg_run [.plain, .plain, .plain, .plain, .plain, .plain, .plain] 10 [(0, [], Value.slice l_.ptr l_.len l_.cap), (8, [], Value.int .i64 (if (IntKind.i64.wrap b_) > (IntKind.i64.wrap a_) then (IntKind.i64.wrap b_) else (IntKind.i64.wrap a_))), (10, [], Value.int .i64 n_), (11, [], Value.int .i64 e), (12, [], Value.slice y.ptr y.len y.cap), (13, [], Value.int .i64 m_), (14, [], Value.int .i64 f)] (by kernel_rfl) (by kernel_rfl) ?_
        refine reg_end [(0, Value.slice l_.ptr l_.len l_.cap), (8, Value.int .i64 (if (IntKind.i64.wrap b_) > (IntKind.i64.wrap a_) then (IntKind.i64.wrap b_) else (IntKind.i64.wrap a_))), (10, Value.int .i64 n_), (11, Value.int .i64 e), (12, Value.slice y.ptr y.len y.cap), (13, Value.int .i64 m_), (14, Value.int .i64 f)] (by kernel_rfl) (by kernel_rfl) ?_
        change WpE _ _ c_towpathlaw08_ChainTwice_22 _ _ _
        refine wpE_seq (x := c_towpathlaw08_ChainTwice_23) (y := c_towpathlaw08_ChainTwice_25) (by kernel_rfl) ?_
        refine wpE_region (id := 6) (ops := r_towpathlaw08_ChainTwice_23) (by kernel_rfl) ?_
        refine reg_run [.plain, .plain] 2 [(10, [], Value.int .i64 n_), (11, [], Value.int .i64 e), (12, [], Value.slice y.ptr y.len y.cap), (13, [], Value.int .i64 m_), (14, [], Value.int .i64 f), (57, [], Value.slice l_.ptr l_.len l_.cap), (58, [], Value.int .i64 (if (IntKind.i64.wrap b_) > (IntKind.i64.wrap a_) then (IntKind.i64.wrap b_) else (IntKind.i64.wrap a_)))] (by kernel_rfl) (by kernel_rfl) ?_
        refine reg_enter (op := (Go.Op.call (Go.Call.mk (Go.Callee.value (Go.Operand.func 14)) #[(Go.Operand.tmp 57), (Go.Operand.tmp 58)] #[22, 3]))) (ty := 37) (dst := some 59) 14 #[Value.slice l_.ptr l_.len l_.cap, Value.int .i64 (if (IntKind.i64.wrap b_) > (IntKind.i64.wrap a_) then (IntKind.i64.wrap b_) else (IntKind.i64.wrap a_))] (by kernel_rfl) (fun ww => by kernel_rfl) (Calls.mono h ?_)
        rintro _ w5 ⟨z, k, g, rfl, h⟩
        refine ⟨_, rfl, ?_⟩
        refine reg_run [.plain, .plain, .plain, .plain, .plain, .plain, .plain] 10 [(10, [], Value.int .i64 n_), (11, [], Value.int .i64 e), (12, [], Value.slice y.ptr y.len y.cap), (13, [], Value.int .i64 m_), (14, [], Value.int .i64 f), (15, [], Value.slice z.ptr z.len z.cap), (16, [], Value.int .i64 k), (17, [], Value.int .i64 g)] (by kernel_rfl) (by kernel_rfl) ?_
        refine reg_end [(10, Value.int .i64 n_), (11, Value.int .i64 e), (12, Value.slice y.ptr y.len y.cap), (13, Value.int .i64 m_), (14, Value.int .i64 f), (15, Value.slice z.ptr z.len z.cap), (16, Value.int .i64 k), (17, Value.int .i64 g)] (by kernel_rfl) (by kernel_rfl) ?_
        change WpE _ _ c_towpathlaw08_ChainTwice_25 _ _ _
        refine wpE_seq (x := c_towpathlaw08_ChainTwice_26) (y := c_towpathlaw08_ChainTwice_28) (by kernel_rfl) ?_
        refine wpE_region (id := 7) (ops := r_towpathlaw08_ChainTwice_26) (by kernel_rfl) ?_
        refine reg_run [.plain, .plain, .plain, .plain, .plain, .pick, .plain, .plain, .plain, .pick, .plain, .plain, .plain, .plain, .plain, .plain, .pick, .plain, .plain, .plain] 20 [(80, [], Value.bool ((((e == 0) && (f == 0)) && (g == 0)) && ((IntKind.i64.wrap (n_ + m_)) == k))), (81, [(80, true)], Value.slice y.ptr y.len y.cap), (82, [(80, true)], Value.slice z.ptr z.len z.cap)] (by kernel_rfl) (by kernel_rfl) ?_
        refine reg_split 80 ((((e == 0) && (f == 0)) && (g == 0)) && ((IntKind.i64.wrap (n_ + m_)) == k)) (by kernel_rfl) (fun hb => ?_) (fun hb => ?_)
        · replace h := h.1 hb
          refine reg_run [] 20 [(80, [], Value.bool true), (81, [], Value.slice y.ptr y.len y.cap), (82, [], Value.slice z.ptr z.len z.cap)] (by kernel_rfl) (by kernel_rfl) ?_
          refine reg_run [] 20 [(80, [], Value.bool true), (81, [], Value.slice y.ptr y.len y.cap), (82, [], Value.slice z.ptr z.len z.cap)] (by kernel_rfl) (by kernel_rfl) ?_
          refine reg_enter (op := (Go.Op.call (Go.Call.mk (Go.Callee.value (Go.Operand.func 12)) #[(Go.Operand.tmp 81), (Go.Operand.tmp 82)] #[22, 22]))) (ty := 4) (dst := some 83) 12 #[Value.slice y.ptr y.len y.cap, Value.slice z.ptr z.len z.cap] (by kernel_rfl) (fun ww => by kernel_rfl) (Calls.mono h ?_)
          rintro _ w6 ⟨v83, rfl, h⟩
          refine ⟨_, rfl, ?_⟩
          refine reg_run [.plain, .plain] 23 [(6, [], Value.bool v83)] (by kernel_rfl) (by kernel_rfl) ?_
          refine reg_end [(6, Value.bool v83)] (by kernel_rfl) (by kernel_rfl) ?_
          change WpE _ _ c_towpathlaw08_ChainTwice_28 _ _ _
          refine wpE_ret (by kernel_rfl) ?_
          repeat (first | refine seqQ_ret ?_ | refine blockQ_ret ?_ | refine loopQ_ret ?_ | refine cutQ_ret ?_)
          exact retS (rs := [(Go.ResultVar.tmp 6)]) (v := Value.bool v83) (by kernel_rfl) (⟨by kernel_rfl, trivial⟩) ⟨v83, rfl, h⟩
        · replace h := h.2 hb
          refine reg_run [] 20 [(80, [], Value.bool false), (81, [], undef), (82, [], undef)] (by kernel_rfl) (by kernel_rfl) ?_
          refine reg_run [.skip, .plain, .plain] 23 [(6, [], Value.bool false)] (by kernel_rfl) (by kernel_rfl) ?_
          refine reg_end [(6, Value.bool false)] (by kernel_rfl) (by kernel_rfl) ?_
          change WpE _ _ c_towpathlaw08_ChainTwice_28 _ _ _
          refine wpE_ret (by kernel_rfl) ?_
          repeat (first | refine seqQ_ret ?_ | refine blockQ_ret ?_ | refine loopQ_ret ?_ | refine cutQ_ret ?_)
          exact retS (rs := [(Go.ResultVar.tmp 6)]) (v := Value.bool false) (by kernel_rfl) (⟨by kernel_rfl, trivial⟩) ⟨false, rfl, h⟩
  · rintro e w' ⟨v, rfl, r0, rfl, h⟩; exact ⟨r0, rfl, h⟩
end Go.Proofs.Ytcgfmkpddhhmgaa
