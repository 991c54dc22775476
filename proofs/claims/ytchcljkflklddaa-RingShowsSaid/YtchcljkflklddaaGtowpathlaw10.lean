/- WRITTEN BY PROGRAM (dec.py): for each Go function the clean formula F, the call's contract C, and the proof S that F gives C. -/
import Derived.Test.YtchcljkflklddaaRows
import Derived.Test.YtchcljkflklddaaGF
namespace Go.Proofs.Ytchcljkflklddaa
open Go
set_option linter.unusedVariables false

/-! ### towpath/towpathlaw10.alive (function 21) -/
noncomputable def c_towpathlaw10_alive_0 : Code := (Try.f21.body).getD Code.skip
noncomputable def c_towpathlaw10_alive_1 : Code := Code.l c_towpathlaw10_alive_0
noncomputable def r_towpathlaw10_alive_1 : Array Oper := Code.ops c_towpathlaw10_alive_1
noncomputable def c_towpathlaw10_alive_3 : Code := Code.r c_towpathlaw10_alive_0
noncomputable def c_towpathlaw10_alive_4 : Code := Code.l c_towpathlaw10_alive_3
noncomputable def r_towpathlaw10_alive_4 : Array Oper := Code.ops c_towpathlaw10_alive_4
noncomputable def c_towpathlaw10_alive_6 : Code := Code.r c_towpathlaw10_alive_3
noncomputable def c_towpathlaw10_alive_7 : Code := Code.l c_towpathlaw10_alive_6
noncomputable def r_towpathlaw10_alive_7 : Array Oper := Code.ops c_towpathlaw10_alive_7
noncomputable def c_towpathlaw10_alive_9 : Code := Code.r c_towpathlaw10_alive_6
noncomputable def c_towpathlaw10_alive_10 : Code := Code.l c_towpathlaw10_alive_9
noncomputable def c_towpathlaw10_alive_11 : Code := Code.l c_towpathlaw10_alive_10
noncomputable def r_towpathlaw10_alive_11 : Array Oper := Code.ops c_towpathlaw10_alive_11
noncomputable def c_towpathlaw10_alive_13 : Code := Code.r c_towpathlaw10_alive_10
noncomputable def c_towpathlaw10_alive_14 : Code := Code.l c_towpathlaw10_alive_13
noncomputable def c_towpathlaw10_alive_15 : Code := Code.l c_towpathlaw10_alive_14
noncomputable def r_towpathlaw10_alive_15 : Array Oper := Code.ops c_towpathlaw10_alive_15
noncomputable def c_towpathlaw10_alive_17 : Code := Code.r c_towpathlaw10_alive_14
noncomputable def c_towpathlaw10_alive_18 : Code := Code.r c_towpathlaw10_alive_13
noncomputable def c_towpathlaw10_alive_19 : Code := Code.r c_towpathlaw10_alive_9
noncomputable def c_towpathlaw10_alive_20 : Code := Code.l c_towpathlaw10_alive_19
noncomputable def r_towpathlaw10_alive_20 : Array Oper := Code.ops c_towpathlaw10_alive_20
noncomputable def c_towpathlaw10_alive_22 : Code := Code.r c_towpathlaw10_alive_19
noncomputable def c_towpathlaw10_alive_23 : Code := Code.l c_towpathlaw10_alive_22
noncomputable def r_towpathlaw10_alive_23 : Array Oper := Code.ops c_towpathlaw10_alive_23
noncomputable def c_towpathlaw10_alive_25 : Code := Code.r c_towpathlaw10_alive_22
noncomputable def c_towpathlaw10_alive_26 : Code := Code.l c_towpathlaw10_alive_25
noncomputable def r_towpathlaw10_alive_26 : Array Oper := Code.ops c_towpathlaw10_alive_26
noncomputable def c_towpathlaw10_alive_28 : Code := Code.r c_towpathlaw10_alive_25

set_option maxRecDepth 100000 in
set_option maxHeartbeats 4000000 in
theorem S_towpathlaw10_alive {w : World} {R : Bool → World → Prop} (h : F_towpathlaw10_alive R w) : C_towpathlaw10_alive w R := by
  unfold F_towpathlaw10_alive at h
  unfold C_towpathlaw10_alive
  refine Calls.mono (calls_of_wpE (args := []) (R := fun v w' => ∃ (r0 : Bool), v = Value.bool r0 ∧ R r0 w') Try.func21 (c := c_towpathlaw10_alive_0) (by kernel_rfl) 72 (by kernel_rfl) (by kernel_rfl) [] (by kernel_rfl) ?_) ?_
  · refine wpE_seq (x := c_towpathlaw10_alive_1) (y := c_towpathlaw10_alive_3) (by kernel_rfl) ?_
    refine wpE_region (id := 0) (ops := r_towpathlaw10_alive_1) (by kernel_rfl) ?_
    refine reg_run [.plain] 1 [] (by kernel_rfl) (by kernel_rfl) ?_
    refine reg_end [] (by kernel_rfl) (by kernel_rfl) ?_
    change WpE _ _ c_towpathlaw10_alive_3 _ _ _
    refine wpE_seq (x := c_towpathlaw10_alive_4) (y := c_towpathlaw10_alive_6) (by kernel_rfl) ?_
    refine wpE_region (id := 1) (ops := r_towpathlaw10_alive_4) (by kernel_rfl) ?_
    refine reg_run [] 0 [] (by kernel_rfl) (by kernel_rfl) ?_
    refine reg_enter (op := (Go.Op.call (Go.Call.mk (Go.Callee.value (Go.Operand.func 22)) #[(Go.Operand.const (Go.Value.int Go.IntKind.i64 2))] #[3]))) (ty := 37) (dst := some 8) 22 #[Value.int .i64 2] (by kernel_rfl) (fun ww => by kernel_rfl) (Calls.mono h ?_)
    rintro _ w1 ⟨r, e, rfl, h⟩
    refine ⟨_, rfl, ?_⟩
    refine reg_run [.plain, .plain, .plain, .plain, .plain] 6 [(1, [], Value.pointer r), (2, [], Value.int .i64 e)] (by kernel_rfl) (by kernel_rfl) ?_
    refine reg_end [(1, Value.pointer r), (2, Value.int .i64 e)] (by kernel_rfl) (by kernel_rfl) ?_
    change WpE _ _ c_towpathlaw10_alive_6 _ _ _
    refine wpE_seq (x := c_towpathlaw10_alive_7) (y := c_towpathlaw10_alive_9) (by kernel_rfl) ?_
    refine wpE_region (id := 2) (ops := r_towpathlaw10_alive_7) (by kernel_rfl) ?_
    refine reg_run [] 0 [(1, [], Value.pointer r), (2, [], Value.int .i64 e)] (by kernel_rfl) (by kernel_rfl) ?_
    refine reg_enter (op := (Go.Op.call (Go.Call.mk (Go.Callee.value (Go.Operand.func 22)) #[(Go.Operand.const (Go.Value.int Go.IntKind.i64 0))] #[3]))) (ty := 37) (dst := some 12) 22 #[Value.int .i64 0] (by kernel_rfl) (fun ww => by kernel_rfl) (Calls.mono h ?_)
    rintro _ w2 ⟨v12, f, rfl, h⟩
    refine ⟨_, rfl, ?_⟩
    refine reg_run [.plain, .plain, .plain, .plain, .plain] 6 [(1, [], Value.pointer r), (2, [], Value.int .i64 e), (4, [], Value.int .i64 f)] (by kernel_rfl) (by kernel_rfl) ?_
    refine reg_end [(1, Value.pointer r), (2, Value.int .i64 e), (4, Value.int .i64 f)] (by kernel_rfl) (by kernel_rfl) ?_
    change WpE _ _ c_towpathlaw10_alive_9 _ _ _
    refine wpE_seq (x := c_towpathlaw10_alive_10) (y := c_towpathlaw10_alive_19) (by kernel_rfl) ?_
    refine wpE_seq_cut (x := c_towpathlaw10_alive_11) (y := c_towpathlaw10_alive_13) (by kernel_rfl) (fun l w => ∃ (t44 : Bool), l = [(1, Value.pointer r), (44, Value.bool t44)] ∧ F_towpathlaw10_alive_k0 R r t44 w) ?_ ?_
    · refine wpE_region (id := 3) (ops := r_towpathlaw10_alive_11) (by kernel_rfl) ?_
      refine reg_run [.plain, .plain, .plain, .plain, .plain, .pick, .plain, .plain] 8 [(1, [], Value.pointer r), (21, [], Value.bool ((e != 0) || (f != 1))), (22, [(21, false)], Value.pointer r)] (by kernel_rfl) (by kernel_rfl) ?_
      refine reg_split 21 ((e != 0) || (f != 1)) (by kernel_rfl) (fun hb => ?_) (fun hb => ?_)
      · replace h := h.1 hb
        refine reg_run [] 8 [(1, [], Value.pointer r), (21, [], Value.bool true), (22, [], undef)] (by kernel_rfl) (by kernel_rfl) ?_
        refine reg_run [.skip, .skip, .plain, .plain, .skip, .skip, .skip, .plain, .plain, .skip, .skip, .plain, .plain, .skip, .skip, .skip, .plain, .plain, .skip, .skip, .skip, .plain] 30 [(1, [], Value.pointer r), (44, [], Value.bool true)] (by kernel_rfl) (by kernel_rfl) ?_
        refine reg_end [(1, Value.pointer r), (44, Value.bool true)] (by kernel_rfl) (by kernel_rfl) ?_
        exact ⟨[(1, Value.pointer r), (44, Value.bool true)], Sub.mk (by kernel_rfl), true, rfl, h⟩
      · replace h := h.2 hb
        refine reg_run [] 8 [(1, [], Value.pointer r), (21, [], Value.bool false), (22, [], Value.pointer r)] (by kernel_rfl) (by kernel_rfl) ?_
        refine reg_run [] 8 [(1, [], Value.pointer r), (21, [], Value.bool false), (22, [], Value.pointer r)] (by kernel_rfl) (by kernel_rfl) ?_
        refine reg_enter (op := (Go.Op.call (Go.Call.mk (Go.Callee.value (Go.Operand.func 23)) #[(Go.Operand.tmp 22), (Go.Operand.const (Go.Value.int Go.IntKind.i64 1))] #[36, 3]))) (ty := 4) (dst := some 23) 23 #[Value.pointer r, Value.int .i64 1] (by kernel_rfl) (fun ww => by kernel_rfl) (Calls.mono h ?_)
        rintro _ w9 ⟨v23, rfl, h⟩
        refine ⟨_, rfl, ?_⟩
        refine reg_run [.sure, .plain, .plain, .plain] 13 [(1, [], Value.pointer r), (26, [], Value.bool (!v23)), (27, [(26, false)], Value.pointer r)] (by kernel_rfl) (by kernel_rfl) ?_
        refine reg_split 26 (!v23) (by kernel_rfl) (fun hb => ?_) (fun hb => ?_)
        · replace h := h.1 hb
          refine reg_run [] 13 [(1, [], Value.pointer r), (26, [], Value.bool true), (27, [], undef)] (by kernel_rfl) (by kernel_rfl) ?_
          refine reg_run [.skip, .skip, .plain, .plain, .skip, .skip, .plain, .plain, .skip, .skip, .skip, .plain, .plain, .skip, .skip, .skip, .plain] 30 [(1, [], Value.pointer r), (44, [], Value.bool true)] (by kernel_rfl) (by kernel_rfl) ?_
          refine reg_end [(1, Value.pointer r), (44, Value.bool true)] (by kernel_rfl) (by kernel_rfl) ?_
          exact ⟨[(1, Value.pointer r), (44, Value.bool true)], Sub.mk (by kernel_rfl), true, rfl, h⟩
        · replace h := h.2 hb
          refine reg_run [] 13 [(1, [], Value.pointer r), (26, [], Value.bool false), (27, [], Value.pointer r)] (by kernel_rfl) (by kernel_rfl) ?_
          refine reg_run [] 13 [(1, [], Value.pointer r), (26, [], Value.bool false), (27, [], Value.pointer r)] (by kernel_rfl) (by kernel_rfl) ?_
          refine reg_enter (op := (Go.Op.call (Go.Call.mk (Go.Callee.value (Go.Operand.func 23)) #[(Go.Operand.tmp 27), (Go.Operand.const (Go.Value.int Go.IntKind.i64 2))] #[36, 3]))) (ty := 4) (dst := some 28) 23 #[Value.pointer r, Value.int .i64 2] (by kernel_rfl) (fun ww => by kernel_rfl) (Calls.mono h ?_)
          rintro _ w10 ⟨v28, rfl, h⟩
          refine ⟨_, rfl, ?_⟩
          refine reg_run [.sure, .plain, .plain, .plain] 18 [(1, [], Value.pointer r), (31, [], Value.bool (!v28)), (32, [(31, false)], Value.pointer r)] (by kernel_rfl) (by kernel_rfl) ?_
          refine reg_split 31 (!v28) (by kernel_rfl) (fun hb => ?_) (fun hb => ?_)
          · replace h := h.1 hb
            refine reg_run [] 18 [(1, [], Value.pointer r), (31, [], Value.bool true), (32, [], undef)] (by kernel_rfl) (by kernel_rfl) ?_
            refine reg_run [.skip, .plain, .plain, .skip, .skip, .skip, .plain, .plain, .skip, .skip, .skip, .plain] 30 [(1, [], Value.pointer r), (44, [], Value.bool true)] (by kernel_rfl) (by kernel_rfl) ?_
            refine reg_end [(1, Value.pointer r), (44, Value.bool true)] (by kernel_rfl) (by kernel_rfl) ?_
            exact ⟨[(1, Value.pointer r), (44, Value.bool true)], Sub.mk (by kernel_rfl), true, rfl, h⟩
          · replace h := h.2 hb
            refine reg_run [] 18 [(1, [], Value.pointer r), (31, [], Value.bool false), (32, [], Value.pointer r)] (by kernel_rfl) (by kernel_rfl) ?_
            refine reg_run [] 18 [(1, [], Value.pointer r), (31, [], Value.bool false), (32, [], Value.pointer r)] (by kernel_rfl) (by kernel_rfl) ?_
            refine reg_enter (op := (Go.Op.call (Go.Call.mk (Go.Callee.value (Go.Operand.func 23)) #[(Go.Operand.tmp 32), (Go.Operand.const (Go.Value.int Go.IntKind.i64 3))] #[36, 3]))) (ty := 4) (dst := some 33) 23 #[Value.pointer r, Value.int .i64 3] (by kernel_rfl) (fun ww => by kernel_rfl) (Calls.mono h ?_)
            rintro _ w11 ⟨v33, rfl, h⟩
            refine ⟨_, rfl, ?_⟩
            refine reg_run [.plain, .plain, .plain] 22 [(1, [], Value.pointer r), (35, [], Value.bool v33), (36, [(35, false)], Value.pointer r)] (by kernel_rfl) (by kernel_rfl) ?_
            refine reg_split 35 v33 (by kernel_rfl) (fun hb => ?_) (fun hb => ?_)
            · replace h := h.1 hb
              refine reg_run [] 22 [(1, [], Value.pointer r), (35, [], Value.bool true), (36, [], undef)] (by kernel_rfl) (by kernel_rfl) ?_
              refine reg_run [.skip, .skip, .plain, .plain, .skip, .skip, .skip, .plain] 30 [(1, [], Value.pointer r), (44, [], Value.bool true)] (by kernel_rfl) (by kernel_rfl) ?_
              refine reg_end [(1, Value.pointer r), (44, Value.bool true)] (by kernel_rfl) (by kernel_rfl) ?_
              exact ⟨[(1, Value.pointer r), (44, Value.bool true)], Sub.mk (by kernel_rfl), true, rfl, h⟩
            · replace h := h.2 hb
              refine reg_run [] 22 [(1, [], Value.pointer r), (35, [], Value.bool false), (36, [], Value.pointer r)] (by kernel_rfl) (by kernel_rfl) ?_
              refine reg_run [] 22 [(1, [], Value.pointer r), (35, [], Value.bool false), (36, [], Value.pointer r)] (by kernel_rfl) (by kernel_rfl) ?_
              refine reg_enter (op := (Go.Op.call (Go.Call.mk (Go.Callee.value (Go.Operand.func 25)) #[(Go.Operand.tmp 36)] #[36]))) (ty := 3) (dst := some 37) 25 #[Value.pointer r] (by kernel_rfl) (fun ww => by kernel_rfl) (Calls.mono h ?_)
              rintro _ w12 ⟨v37, rfl, h⟩
              refine ⟨_, rfl, ?_⟩
              refine reg_run [.sure, .plain, .plain, .plain] 27 [(1, [], Value.pointer r), (40, [], Value.bool (v37 != 2)), (41, [(40, false)], Value.pointer r)] (by kernel_rfl) (by kernel_rfl) ?_
              refine reg_split 40 (v37 != 2) (by kernel_rfl) (fun hb => ?_) (fun hb => ?_)
              · replace h := h.1 hb
                refine reg_run [] 27 [(1, [], Value.pointer r), (40, [], Value.bool true), (41, [], undef)] (by kernel_rfl) (by kernel_rfl) ?_
                refine reg_run [.skip, .skip, .plain] 30 [(1, [], Value.pointer r), (44, [], Value.bool true)] (by kernel_rfl) (by kernel_rfl) ?_
                refine reg_end [(1, Value.pointer r), (44, Value.bool true)] (by kernel_rfl) (by kernel_rfl) ?_
                exact ⟨[(1, Value.pointer r), (44, Value.bool true)], Sub.mk (by kernel_rfl), true, rfl, h⟩
              · replace h := h.2 hb
                refine reg_run [] 27 [(1, [], Value.pointer r), (40, [], Value.bool false), (41, [], Value.pointer r)] (by kernel_rfl) (by kernel_rfl) ?_
                refine reg_run [] 27 [(1, [], Value.pointer r), (40, [], Value.bool false), (41, [], Value.pointer r)] (by kernel_rfl) (by kernel_rfl) ?_
                refine reg_enter (op := (Go.Op.call (Go.Call.mk (Go.Callee.value (Go.Operand.func 26)) #[(Go.Operand.tmp 41)] #[36]))) (ty := 3) (dst := some 42) 26 #[Value.pointer r] (by kernel_rfl) (fun ww => by kernel_rfl) (Calls.mono h ?_)
                rintro _ w13 ⟨v42, rfl, h⟩
                refine ⟨_, rfl, ?_⟩
                refine reg_run [.sure, .plain] 30 [(1, [], Value.pointer r), (44, [], Value.bool (v42 != 0))] (by kernel_rfl) (by kernel_rfl) ?_
                refine reg_end [(1, Value.pointer r), (44, Value.bool (v42 != 0))] (by kernel_rfl) (by kernel_rfl) ?_
                exact ⟨[(1, Value.pointer r), (44, Value.bool (v42 != 0))], Sub.mk (by kernel_rfl), (v42 != 0), rfl, h⟩
    · rintro _ w3 ⟨t44, rfl, h⟩
      unfold F_towpathlaw10_alive_k0 at h
      refine wpE_cond (o := (Operand.tmp 44)) (b := t44) (x := c_towpathlaw10_alive_14) (y := c_towpathlaw10_alive_18) (by kernel_rfl) (by kernel_rfl) (fun hb => ?_) (fun hb => ?_)
      · replace h := h.1 hb
        refine wpE_seq (x := c_towpathlaw10_alive_15) (y := c_towpathlaw10_alive_17) (by kernel_rfl) ?_
        refine wpE_region (id := 4) (ops := r_towpathlaw10_alive_15) (by kernel_rfl) ?_
        refine reg_run [.plain] 1 [(0, [], Value.bool false)] (by kernel_rfl) (by kernel_rfl) ?_
        refine reg_end [(0, Value.bool false)] (by kernel_rfl) (by kernel_rfl) ?_
        change WpE _ _ c_towpathlaw10_alive_17 _ _ _
        refine wpE_ret (by kernel_rfl) ?_
        repeat (first | refine seqQ_ret ?_ | refine blockQ_ret ?_ | refine loopQ_ret ?_ | refine cutQ_ret ?_)
        exact retS (rs := [(Go.ResultVar.tmp 0)]) (v := Value.bool false) (by kernel_rfl) (⟨by kernel_rfl, trivial⟩) ⟨false, rfl, h⟩
      · replace h := h.2 hb
        refine wpE_skip (by kernel_rfl) ?_
        change WpE _ _ c_towpathlaw10_alive_19 _ _ _
        refine wpE_seq (x := c_towpathlaw10_alive_20) (y := c_towpathlaw10_alive_22) (by kernel_rfl) ?_
        refine wpE_region (id := 5) (ops := r_towpathlaw10_alive_20) (by kernel_rfl) ?_
        refine reg_run [.plain] 1 [(1, [], Value.pointer r), (46, [], Value.pointer r)] (by kernel_rfl) (by kernel_rfl) ?_
        refine reg_enter (op := (Go.Op.call (Go.Call.mk (Go.Callee.value (Go.Operand.func 24)) #[(Go.Operand.tmp 46)] #[36]))) (ty := 40) (dst := some 47) 24 #[Value.pointer r] (by kernel_rfl) (fun ww => by kernel_rfl) (Calls.mono h ?_)
        rintro _ w4 ⟨x, ok, rfl, h⟩
        refine ⟨_, rfl, ?_⟩
        refine reg_run [.plain, .plain, .plain, .plain, .plain] 7 [(1, [], Value.pointer r), (5, [], Value.int .i64 x), (6, [], Value.bool ok)] (by kernel_rfl) (by kernel_rfl) ?_
        refine reg_end [(1, Value.pointer r), (5, Value.int .i64 x), (6, Value.bool ok)] (by kernel_rfl) (by kernel_rfl) ?_
        change WpE _ _ c_towpathlaw10_alive_22 _ _ _
        refine wpE_seq (x := c_towpathlaw10_alive_23) (y := c_towpathlaw10_alive_25) (by kernel_rfl) ?_
        refine wpE_region (id := 6) (ops := r_towpathlaw10_alive_23) (by kernel_rfl) ?_
        refine reg_run [.plain] 1 [(1, [], Value.pointer r), (5, [], Value.int .i64 x), (6, [], Value.bool ok), (50, [], Value.pointer r)] (by kernel_rfl) (by kernel_rfl) ?_
        refine reg_enter (op := (Go.Op.call (Go.Call.mk (Go.Callee.value (Go.Operand.func 27)) #[(Go.Operand.tmp 50)] #[36]))) (ty := 0) (dst := some 51) 27 #[Value.pointer r] (by kernel_rfl) (fun ww => by kernel_rfl) (Calls.mono h ?_)
        rintro _ w5 ⟨rfl, h⟩
        refine ⟨_, rfl, ?_⟩
        refine reg_end [(1, Value.pointer r), (5, Value.int .i64 x), (6, Value.bool ok)] (by kernel_rfl) (by kernel_rfl) ?_
        change WpE _ _ c_towpathlaw10_alive_25 _ _ _
        refine wpE_seq (x := c_towpathlaw10_alive_26) (y := c_towpathlaw10_alive_28) (by kernel_rfl) ?_
        refine wpE_region (id := 7) (ops := r_towpathlaw10_alive_26) (by kernel_rfl) ?_
        refine reg_run [.plain, .plain, .plain, .plain, .pick, .plain, .plain] 7 [(1, [], Value.pointer r), (57, [], Value.bool (ok && (x == 1))), (58, [(57, true)], Value.pointer r)] (by kernel_rfl) (by kernel_rfl) ?_
        refine reg_split 57 (ok && (x == 1)) (by kernel_rfl) (fun hb => ?_) (fun hb => ?_)
        · replace h := h.1 hb
          refine reg_run [] 7 [(1, [], Value.pointer r), (57, [], Value.bool true), (58, [], Value.pointer r)] (by kernel_rfl) (by kernel_rfl) ?_
          refine reg_run [] 7 [(1, [], Value.pointer r), (57, [], Value.bool true), (58, [], Value.pointer r)] (by kernel_rfl) (by kernel_rfl) ?_
          refine reg_enter (op := (Go.Op.call (Go.Call.mk (Go.Callee.value (Go.Operand.func 23)) #[(Go.Operand.tmp 58), (Go.Operand.const (Go.Value.int Go.IntKind.i64 4))] #[36, 3]))) (ty := 4) (dst := some 59) 23 #[Value.pointer r, Value.int .i64 4] (by kernel_rfl) (fun ww => by kernel_rfl) (Calls.mono h ?_)
          rintro _ w6 ⟨v59, rfl, h⟩
          refine ⟨_, rfl, ?_⟩
          refine reg_run [.sure, .plain, .plain, .plain] 12 [(1, [], Value.pointer r), (62, [], Value.bool (!v59)), (63, [(62, true)], Value.pointer r)] (by kernel_rfl) (by kernel_rfl) ?_
          refine reg_split 62 (!v59) (by kernel_rfl) (fun hb => ?_) (fun hb => ?_)
          · replace h := h.1 hb
            refine reg_run [] 12 [(1, [], Value.pointer r), (62, [], Value.bool true), (63, [], Value.pointer r)] (by kernel_rfl) (by kernel_rfl) ?_
            refine reg_run [] 12 [(1, [], Value.pointer r), (62, [], Value.bool true), (63, [], Value.pointer r)] (by kernel_rfl) (by kernel_rfl) ?_
            refine reg_enter (op := (Go.Op.call (Go.Call.mk (Go.Callee.value (Go.Operand.func 28)) #[(Go.Operand.tmp 63)] #[36]))) (ty := 4) (dst := some 64) 28 #[Value.pointer r] (by kernel_rfl) (fun ww => by kernel_rfl) (Calls.mono h ?_)
            rintro _ w7 ⟨v64, rfl, h⟩
            refine ⟨_, rfl, ?_⟩
            refine reg_run [.sure, .plain, .plain, .plain] 17 [(67, [], Value.bool (!v64)), (68, [(67, true)], Value.pointer r)] (by kernel_rfl) (by kernel_rfl) ?_
            refine reg_split 67 (!v64) (by kernel_rfl) (fun hb => ?_) (fun hb => ?_)
            · replace h := h.1 hb
              refine reg_run [] 17 [(67, [], Value.bool true), (68, [], Value.pointer r)] (by kernel_rfl) (by kernel_rfl) ?_
              refine reg_run [] 17 [(67, [], Value.bool true), (68, [], Value.pointer r)] (by kernel_rfl) (by kernel_rfl) ?_
              refine reg_enter (op := (Go.Op.call (Go.Call.mk (Go.Callee.value (Go.Operand.func 25)) #[(Go.Operand.tmp 68)] #[36]))) (ty := 3) (dst := some 69) 25 #[Value.pointer r] (by kernel_rfl) (fun ww => by kernel_rfl) (Calls.mono h ?_)
              rintro _ w8 ⟨v69, rfl, h⟩
              refine ⟨_, rfl, ?_⟩
              refine reg_run [.sure, .plain, .plain] 21 [(0, [], Value.bool (v69 == 1))] (by kernel_rfl) (by kernel_rfl) ?_
              refine reg_end [(0, Value.bool (v69 == 1))] (by kernel_rfl) (by kernel_rfl) ?_
              change WpE _ _ c_towpathlaw10_alive_28 _ _ _
              refine wpE_ret (by kernel_rfl) ?_
              repeat (first | refine seqQ_ret ?_ | refine blockQ_ret ?_ | refine loopQ_ret ?_ | refine cutQ_ret ?_)
              exact retS (rs := [(Go.ResultVar.tmp 0)]) (v := Value.bool (v69 == 1)) (by kernel_rfl) (⟨by kernel_rfl, trivial⟩) ⟨(v69 == 1), rfl, h⟩
            · replace h := h.2 hb
              refine reg_run [] 17 [(67, [], Value.bool false), (68, [], undef)] (by kernel_rfl) (by kernel_rfl) ?_
              refine reg_run [.skip, .skip, .plain, .plain] 21 [(0, [], Value.bool false)] (by kernel_rfl) (by kernel_rfl) ?_
              refine reg_end [(0, Value.bool false)] (by kernel_rfl) (by kernel_rfl) ?_
              change WpE _ _ c_towpathlaw10_alive_28 _ _ _
              refine wpE_ret (by kernel_rfl) ?_
              repeat (first | refine seqQ_ret ?_ | refine blockQ_ret ?_ | refine loopQ_ret ?_ | refine cutQ_ret ?_)
              exact retS (rs := [(Go.ResultVar.tmp 0)]) (v := Value.bool false) (by kernel_rfl) (⟨by kernel_rfl, trivial⟩) ⟨false, rfl, h⟩
          · replace h := h.2 hb
            refine reg_run [] 12 [(1, [], Value.pointer r), (62, [], Value.bool false), (63, [], undef)] (by kernel_rfl) (by kernel_rfl) ?_
            refine reg_run [.skip, .skip, .plain, .plain, .skip, .skip, .skip, .plain, .plain] 21 [(0, [], Value.bool false)] (by kernel_rfl) (by kernel_rfl) ?_
            refine reg_end [(0, Value.bool false)] (by kernel_rfl) (by kernel_rfl) ?_
            change WpE _ _ c_towpathlaw10_alive_28 _ _ _
            refine wpE_ret (by kernel_rfl) ?_
            repeat (first | refine seqQ_ret ?_ | refine blockQ_ret ?_ | refine loopQ_ret ?_ | refine cutQ_ret ?_)
            exact retS (rs := [(Go.ResultVar.tmp 0)]) (v := Value.bool false) (by kernel_rfl) (⟨by kernel_rfl, trivial⟩) ⟨false, rfl, h⟩
        · replace h := h.2 hb
          refine reg_run [] 7 [(1, [], Value.pointer r), (57, [], Value.bool false), (58, [], undef)] (by kernel_rfl) (by kernel_rfl) ?_
          refine reg_run [.skip, .skip, .plain, .plain, .skip, .skip, .skip, .plain, .plain, .skip, .skip, .skip, .plain, .plain] 21 [(0, [], Value.bool false)] (by kernel_rfl) (by kernel_rfl) ?_
          refine reg_end [(0, Value.bool false)] (by kernel_rfl) (by kernel_rfl) ?_
          change WpE _ _ c_towpathlaw10_alive_28 _ _ _
          refine wpE_ret (by kernel_rfl) ?_
          repeat (first | refine seqQ_ret ?_ | refine blockQ_ret ?_ | refine loopQ_ret ?_ | refine cutQ_ret ?_)
          exact retS (rs := [(Go.ResultVar.tmp 0)]) (v := Value.bool false) (by kernel_rfl) (⟨by kernel_rfl, trivial⟩) ⟨false, rfl, h⟩
  · rintro e w' ⟨v, rfl, r0, rfl, h⟩; exact ⟨r0, rfl, h⟩

/-! ### towpath/towpathlaw10.asked (function 39) -/
noncomputable def c_towpathlaw10_asked_0 : Code := (Try.f39.body).getD Code.skip
noncomputable def c_towpathlaw10_asked_1 : Code := Code.l c_towpathlaw10_asked_0
noncomputable def r_towpathlaw10_asked_1 : Array Oper := Code.ops c_towpathlaw10_asked_1
noncomputable def c_towpathlaw10_asked_3 : Code := Code.r c_towpathlaw10_asked_0
noncomputable def c_towpathlaw10_asked_4 : Code := Code.l c_towpathlaw10_asked_3
noncomputable def c_towpathlaw10_asked_5 : Code := Code.l c_towpathlaw10_asked_4
noncomputable def r_towpathlaw10_asked_5 : Array Oper := Code.ops c_towpathlaw10_asked_5
noncomputable def c_towpathlaw10_asked_7 : Code := Code.r c_towpathlaw10_asked_4
noncomputable def c_towpathlaw10_asked_8 : Code := Code.l c_towpathlaw10_asked_7
noncomputable def c_towpathlaw10_asked_9 : Code := Code.l c_towpathlaw10_asked_8
noncomputable def r_towpathlaw10_asked_9 : Array Oper := Code.ops c_towpathlaw10_asked_9
noncomputable def c_towpathlaw10_asked_11 : Code := Code.r c_towpathlaw10_asked_8
noncomputable def c_towpathlaw10_asked_12 : Code := Code.l c_towpathlaw10_asked_11
noncomputable def c_towpathlaw10_asked_13 : Code := Code.l c_towpathlaw10_asked_12
noncomputable def r_towpathlaw10_asked_13 : Array Oper := Code.ops c_towpathlaw10_asked_13
noncomputable def c_towpathlaw10_asked_15 : Code := Code.r c_towpathlaw10_asked_12
noncomputable def c_towpathlaw10_asked_16 : Code := Code.l c_towpathlaw10_asked_15
noncomputable def c_towpathlaw10_asked_17 : Code := Code.l c_towpathlaw10_asked_16
noncomputable def r_towpathlaw10_asked_17 : Array Oper := Code.ops c_towpathlaw10_asked_17
noncomputable def c_towpathlaw10_asked_19 : Code := Code.r c_towpathlaw10_asked_16
noncomputable def c_towpathlaw10_asked_20 : Code := Code.r c_towpathlaw10_asked_15
noncomputable def c_towpathlaw10_asked_21 : Code := Code.r c_towpathlaw10_asked_11
noncomputable def c_towpathlaw10_asked_22 : Code := Code.l c_towpathlaw10_asked_21
noncomputable def r_towpathlaw10_asked_22 : Array Oper := Code.ops c_towpathlaw10_asked_22
noncomputable def c_towpathlaw10_asked_24 : Code := Code.r c_towpathlaw10_asked_21
noncomputable def c_towpathlaw10_asked_25 : Code := Code.l c_towpathlaw10_asked_24
noncomputable def c_towpathlaw10_asked_26 : Code := Code.l c_towpathlaw10_asked_25
noncomputable def r_towpathlaw10_asked_26 : Array Oper := Code.ops c_towpathlaw10_asked_26
noncomputable def c_towpathlaw10_asked_28 : Code := Code.r c_towpathlaw10_asked_25
noncomputable def c_towpathlaw10_asked_29 : Code := Code.l c_towpathlaw10_asked_28
noncomputable def r_towpathlaw10_asked_29 : Array Oper := Code.ops c_towpathlaw10_asked_29
noncomputable def c_towpathlaw10_asked_31 : Code := Code.r c_towpathlaw10_asked_28
noncomputable def c_towpathlaw10_asked_32 : Code := Code.l c_towpathlaw10_asked_31
noncomputable def r_towpathlaw10_asked_32 : Array Oper := Code.ops c_towpathlaw10_asked_32
noncomputable def c_towpathlaw10_asked_34 : Code := Code.r c_towpathlaw10_asked_31
noncomputable def c_towpathlaw10_asked_35 : Code := Code.l c_towpathlaw10_asked_34
noncomputable def c_towpathlaw10_asked_36 : Code := Code.l c_towpathlaw10_asked_35
noncomputable def r_towpathlaw10_asked_36 : Array Oper := Code.ops c_towpathlaw10_asked_36
noncomputable def c_towpathlaw10_asked_38 : Code := Code.r c_towpathlaw10_asked_35
noncomputable def c_towpathlaw10_asked_39 : Code := Code.r c_towpathlaw10_asked_34
noncomputable def c_towpathlaw10_asked_40 : Code := Code.r c_towpathlaw10_asked_24
noncomputable def c_towpathlaw10_asked_41 : Code := Code.l c_towpathlaw10_asked_40
noncomputable def r_towpathlaw10_asked_41 : Array Oper := Code.ops c_towpathlaw10_asked_41
noncomputable def c_towpathlaw10_asked_43 : Code := Code.r c_towpathlaw10_asked_40
noncomputable def c_towpathlaw10_asked_44 : Code := Code.l c_towpathlaw10_asked_43
noncomputable def c_towpathlaw10_asked_45 : Code := Code.l c_towpathlaw10_asked_44
noncomputable def r_towpathlaw10_asked_45 : Array Oper := Code.ops c_towpathlaw10_asked_45
noncomputable def c_towpathlaw10_asked_47 : Code := Code.r c_towpathlaw10_asked_44
noncomputable def r_towpathlaw10_asked_47 : Array Oper := Code.ops c_towpathlaw10_asked_47
noncomputable def c_towpathlaw10_asked_49 : Code := Code.r c_towpathlaw10_asked_43
noncomputable def c_towpathlaw10_asked_50 : Code := Code.l c_towpathlaw10_asked_49
noncomputable def r_towpathlaw10_asked_50 : Array Oper := Code.ops c_towpathlaw10_asked_50
noncomputable def c_towpathlaw10_asked_52 : Code := Code.r c_towpathlaw10_asked_49
noncomputable def c_towpathlaw10_asked_53 : Code := Code.l c_towpathlaw10_asked_52
noncomputable def c_towpathlaw10_asked_54 : Code := Code.l c_towpathlaw10_asked_53
noncomputable def r_towpathlaw10_asked_54 : Array Oper := Code.ops c_towpathlaw10_asked_54
noncomputable def c_towpathlaw10_asked_56 : Code := Code.r c_towpathlaw10_asked_53
noncomputable def c_towpathlaw10_asked_57 : Code := Code.l c_towpathlaw10_asked_56
noncomputable def c_towpathlaw10_asked_58 : Code := Code.l c_towpathlaw10_asked_57
noncomputable def r_towpathlaw10_asked_58 : Array Oper := Code.ops c_towpathlaw10_asked_58
noncomputable def c_towpathlaw10_asked_60 : Code := Code.r c_towpathlaw10_asked_57
noncomputable def c_towpathlaw10_asked_61 : Code := Code.r c_towpathlaw10_asked_56
noncomputable def c_towpathlaw10_asked_62 : Code := Code.r c_towpathlaw10_asked_52
noncomputable def c_towpathlaw10_asked_63 : Code := Code.r c_towpathlaw10_asked_3
noncomputable def c_towpathlaw10_asked_64 : Code := Code.l c_towpathlaw10_asked_63
noncomputable def r_towpathlaw10_asked_64 : Array Oper := Code.ops c_towpathlaw10_asked_64
noncomputable def c_towpathlaw10_asked_66 : Code := Code.r c_towpathlaw10_asked_63
noncomputable def c_towpathlaw10_asked_67 : Code := Code.l c_towpathlaw10_asked_66
noncomputable def r_towpathlaw10_asked_67 : Array Oper := Code.ops c_towpathlaw10_asked_67
noncomputable def c_towpathlaw10_asked_69 : Code := Code.r c_towpathlaw10_asked_66
noncomputable def c_towpathlaw10_asked_70 : Code := Code.l c_towpathlaw10_asked_69
noncomputable def r_towpathlaw10_asked_70 : Array Oper := Code.ops c_towpathlaw10_asked_70
noncomputable def c_towpathlaw10_asked_72 : Code := Code.r c_towpathlaw10_asked_69
def o_towpathlaw10_asked_13 : List Nat := [0, 1, 2, 4, 5, 6, 3, 7, 8]
def o_towpathlaw10_asked_54 : List Nat := [0, 1, 2, 4, 6, 7, 3, 5, 8, 9, 10]

set_option maxRecDepth 100000 in
set_option maxHeartbeats 4000000 in
theorem S_towpathlaw10_asked {r : Option Addr} {x : Option Addr} {o_ : T_towpathlaw10_Op} {w : World} {R : Bool → World → Prop} (h : F_towpathlaw10_asked r x o_ R w) : C_towpathlaw10_asked r x o_ w R := by
  unfold F_towpathlaw10_asked at h
  unfold C_towpathlaw10_asked
  refine Calls.mono (calls_of_wpE (args := [Value.pointer r, Value.pointer x, Value.agg #[Value.int .u8 o_.Kind, Value.int .i64 o_.X]]) (R := fun v w' => ∃ (r0 : Bool), v = Value.bool r0 ∧ R r0 w') Try.func39 (c := c_towpathlaw10_asked_0) (by kernel_rfl) 106 (by kernel_rfl) (by kernel_rfl) [(0, Value.pointer r), (1, Value.pointer x), (2, Value.agg #[Value.int .u8 o_.Kind, Value.int .i64 o_.X])] (by kernel_rfl) ?_) ?_
  · refine wpE_seq (x := c_towpathlaw10_asked_1) (y := c_towpathlaw10_asked_3) (by kernel_rfl) ?_
    refine wpE_region (id := 0) (ops := r_towpathlaw10_asked_1) (by kernel_rfl) ?_
    refine reg_run [] 0 [(0, [], Value.pointer r), (1, [], Value.pointer x), (2, [], Value.agg #[Value.int .u8 o_.Kind, Value.int .i64 o_.X])] (by kernel_rfl) (by kernel_rfl) ?_
    refine reg_new (op := (Go.Op.box 67 (Go.Operand.tmp 2))) (ty := 0) (dst := some 5) (fun bb => Value.pointer (some ⟨bb, 0, none⟩)) (Obj.cells ([Value.int .u8 o_.Kind, Value.int .i64 o_.X]).toArray ty_towpathlaw10_Op (0, 0)) (by kernel_rfl) (by kernel_rfl) (fun b_ w1 hb hw => ?_)
    replace h := h b_ w1 hb hw
    clear hb hw
    refine reg_run [.plain] 2 [(0, [], Value.pointer r), (1, [], Value.pointer x), (5, [], Value.pointer (some ⟨b_, 0, none⟩))] (by kernel_rfl) (by kernel_rfl) ?_
    refine reg_end [(0, Value.pointer r), (1, Value.pointer x), (5, Value.pointer (some ⟨b_, 0, none⟩))] (by kernel_rfl) (by kernel_rfl) ?_
    change WpE _ _ c_towpathlaw10_asked_3 _ _ _
    refine wpE_seq_cut (x := c_towpathlaw10_asked_4) (y := c_towpathlaw10_asked_63) (by kernel_rfl) (fun l w => l = [(0, Value.pointer r), (1, Value.pointer x)] ∧ F_towpathlaw10_asked_k0 r x R w) ?_ ?_
    · refine wpE_seq (x := c_towpathlaw10_asked_5) (y := c_towpathlaw10_asked_7) (by kernel_rfl) ?_
      refine wpE_region (id := 1) (ops := r_towpathlaw10_asked_5) (by kernel_rfl) ?_
      refine reg_run [.plain] 1 [(0, [], Value.pointer r), (1, [], Value.pointer x), (5, [], Value.pointer (some ⟨b_, 0, none⟩)), (15, [], Value.pointer (some ⟨b_, 0, none⟩))] (by kernel_rfl) (by kernel_rfl) ?_
      obtain ⟨v16, hc, h⟩ := h
      refine reg_load1 (t := 5) (a := (Go.Operand.tmp 15)) (b := b_) (o := 0) (ty := 5) (dst := some 16) (by kernel_rfl) (by kernel_rfl) (by kernel_rfl) hc ?_
      refine reg_end [(0, Value.pointer r), (1, Value.pointer x), (5, Value.pointer (some ⟨b_, 0, none⟩)), (16, Value.int .u8 v16)] (by kernel_rfl) (by kernel_rfl) ?_
      change WpE _ _ c_towpathlaw10_asked_7 _ _ _
      refine wpE_block (id := 0) (x := c_towpathlaw10_asked_8) (by kernel_rfl) ?_
      refine wpE_seq (x := c_towpathlaw10_asked_9) (y := c_towpathlaw10_asked_11) (by kernel_rfl) ?_
      refine wpE_region (id := 2) (ops := r_towpathlaw10_asked_9) (by kernel_rfl) ?_
      refine reg_run [.plain, .plain] 2 [(0, [], Value.pointer r), (1, [], Value.pointer x), (5, [], Value.pointer (some ⟨b_, 0, none⟩)), (16, [], Value.int .u8 v16), (17, [], Value.bool (v16 == 1))] (by kernel_rfl) (by kernel_rfl) ?_
      refine reg_end [(0, Value.pointer r), (1, Value.pointer x), (5, Value.pointer (some ⟨b_, 0, none⟩)), (16, Value.int .u8 v16), (17, Value.bool (v16 == 1))] (by kernel_rfl) (by kernel_rfl) ?_
      change WpE _ _ c_towpathlaw10_asked_11 _ _ _
      refine wpE_cond (o := (Operand.tmp 17)) (b := (v16 == 1)) (x := c_towpathlaw10_asked_12) (y := c_towpathlaw10_asked_21) (by kernel_rfl) (by kernel_rfl) (fun hb => ?_) (fun hb => ?_)
      · replace h := h.1 hb
        refine wpE_seq (x := c_towpathlaw10_asked_13) (y := c_towpathlaw10_asked_15) (by kernel_rfl) ?_
        refine wpE_mixregion (id := 3) (ops := r_towpathlaw10_asked_13) o_towpathlaw10_asked_13 (by kernel_rfl) (by kernel_rfl) (by kernel_rfl) (by kernel_rfl) (fun w11 hw => ?_)
        replace h := h w11 hw
        clear hw
        refine mreg_run [.plain, .plain] 2 [(0, [], Value.pointer r), (1, [], Value.pointer x), (5, [], Value.pointer (some ⟨b_, 0, none⟩)), (19, [], Value.pointer r), (20, [], Value.pointer (some ⟨b_, 1, none⟩))] (by kernel_rfl) (by kernel_rfl) ?_
        obtain ⟨v21, hc, h⟩ := h
        refine mreg_load1 (i := 2) (by kernel_rfl) (t := 3) (a := (Go.Operand.tmp 20)) (b := b_) (o := 1) (ty := 3) (dst := some 21) (by kernel_rfl) (by kernel_rfl) (by kernel_rfl) hc ?_
        refine mreg_run [.plain, .plain] 5 [(0, [], Value.pointer r), (1, [], Value.pointer x), (19, [], Value.pointer r), (21, [], Value.int .i64 v21), (23, [], Value.pointer x), (24, [], Value.pointer (some ⟨b_, 1, none⟩))] (by kernel_rfl) (by kernel_rfl) ?_
        obtain ⟨v25, hc, h⟩ := h
        refine mreg_load1 (i := 6) (by kernel_rfl) (t := 3) (a := (Go.Operand.tmp 24)) (b := b_) (o := 1) (ty := 3) (dst := some 25) (by kernel_rfl) (by kernel_rfl) (by kernel_rfl) hc ?_
        refine mreg_run [] 6 [(0, [], Value.pointer r), (1, [], Value.pointer x), (19, [], Value.pointer r), (21, [], Value.int .i64 v21), (23, [], Value.pointer x), (25, [], Value.int .i64 v25)] (by kernel_rfl) (by kernel_rfl) ?_
        refine mreg_enter (op := (Go.Op.call (Go.Call.mk (Go.Callee.value (Go.Operand.func 23)) #[(Go.Operand.tmp 19), (Go.Operand.tmp 21)] #[36, 3]))) (ty := 4) (dst := some 22) 3 [0, 2, 1] [(6, fun w' => w'.cell? ⟨b_, 1, none⟩ = some (Value.int .i64 v25))] 23 #[Value.pointer r, Value.int .i64 v21] (by kernel_rfl) (by kernel_rfl) (by kernel_rfl) (by kernel_rfl) (by kernel_rfl) (fun ww => by kernel_rfl) (Calls.mono h ?_)
        rintro _ w12 ⟨v22, rfl, h⟩
        obtain ⟨hk0, h⟩ := h
        refine ⟨_, rfl, ⟨hk0, trivial⟩, ?_⟩
        refine mreg_run [] 7 [(0, [], Value.pointer r), (1, [], Value.pointer x), (22, [], Value.bool v22), (23, [], Value.pointer x), (25, [], Value.int .i64 v25)] (by kernel_rfl) (by kernel_rfl) ?_
        refine mreg_enter (op := (Go.Op.call (Go.Call.mk (Go.Callee.value (Go.Operand.func 51)) #[(Go.Operand.tmp 23), (Go.Operand.tmp 25)] #[60, 3]))) (ty := 4) (dst := some 26) 7 [3, 4, 6, 0, 2, 5, 1] [] 51 #[Value.pointer x, Value.int .i64 v25] (by kernel_rfl) (by kernel_rfl) (by kernel_rfl) (by kernel_rfl) (by kernel_rfl) (fun ww => by kernel_rfl) (Calls.mono h ?_)
        rintro _ w13 ⟨v26, rfl, h⟩
        refine ⟨_, rfl, trivial, ?_⟩
        refine mreg_run [.plain] 9 [(0, [], Value.pointer r), (1, [], Value.pointer x), (27, [], Value.bool (!(v22 == v26)))] (by kernel_rfl) (by kernel_rfl) ?_
        refine mreg_end [(0, Value.pointer r), (1, Value.pointer x), (27, Value.bool (!(v22 == v26)))] (by kernel_rfl) (by kernel_rfl) (by kernel_rfl) ?_
        change WpE _ _ c_towpathlaw10_asked_15 _ _ _
        refine wpE_cond (o := (Operand.tmp 27)) (b := (!(v22 == v26))) (x := c_towpathlaw10_asked_16) (y := c_towpathlaw10_asked_20) (by kernel_rfl) (by kernel_rfl) (fun hb => ?_) (fun hb => ?_)
        · replace h := h.1 hb
          refine wpE_seq (x := c_towpathlaw10_asked_17) (y := c_towpathlaw10_asked_19) (by kernel_rfl) ?_
          refine wpE_region (id := 4) (ops := r_towpathlaw10_asked_17) (by kernel_rfl) ?_
          refine reg_run [.plain] 1 [(6, [], Value.bool false)] (by kernel_rfl) (by kernel_rfl) ?_
          refine reg_end [(6, Value.bool false)] (by kernel_rfl) (by kernel_rfl) ?_
          change WpE _ _ c_towpathlaw10_asked_19 _ _ _
          refine wpE_ret (by kernel_rfl) ?_
          repeat (first | refine seqQ_ret ?_ | refine blockQ_ret ?_ | refine loopQ_ret ?_ | refine cutQ_ret ?_)
          exact retS (rs := [(Go.ResultVar.tmp 6)]) (v := Value.bool false) (by kernel_rfl) (⟨by kernel_rfl, trivial⟩) ⟨false, rfl, h⟩
        · replace h := h.2 hb
          refine wpE_skip (by kernel_rfl) ?_
          exact ⟨[(0, Value.pointer r), (1, Value.pointer x)], Sub.mk (by kernel_rfl), rfl, h⟩
      · replace h := h.2 hb
        refine wpE_seq (x := c_towpathlaw10_asked_22) (y := c_towpathlaw10_asked_24) (by kernel_rfl) ?_
        refine wpE_region (id := 5) (ops := r_towpathlaw10_asked_22) (by kernel_rfl) ?_
        refine reg_run [.plain, .plain] 2 [(0, [], Value.pointer r), (1, [], Value.pointer x), (5, [], Value.pointer (some ⟨b_, 0, none⟩)), (16, [], Value.int .u8 v16), (28, [], Value.bool (v16 == 2))] (by kernel_rfl) (by kernel_rfl) ?_
        refine reg_end [(0, Value.pointer r), (1, Value.pointer x), (5, Value.pointer (some ⟨b_, 0, none⟩)), (16, Value.int .u8 v16), (28, Value.bool (v16 == 2))] (by kernel_rfl) (by kernel_rfl) ?_
        change WpE _ _ c_towpathlaw10_asked_24 _ _ _
        refine wpE_cond (o := (Operand.tmp 28)) (b := (v16 == 2)) (x := c_towpathlaw10_asked_25) (y := c_towpathlaw10_asked_40) (by kernel_rfl) (by kernel_rfl) (fun hb => ?_) (fun hb => ?_)
        · replace h := h.1 hb
          refine wpE_seq (x := c_towpathlaw10_asked_26) (y := c_towpathlaw10_asked_28) (by kernel_rfl) ?_
          refine wpE_region (id := 6) (ops := r_towpathlaw10_asked_26) (by kernel_rfl) ?_
          refine reg_run [.plain] 1 [(0, [], Value.pointer r), (1, [], Value.pointer x), (31, [], Value.pointer r)] (by kernel_rfl) (by kernel_rfl) ?_
          refine reg_enter (op := (Go.Op.call (Go.Call.mk (Go.Callee.value (Go.Operand.func 24)) #[(Go.Operand.tmp 31)] #[36]))) (ty := 40) (dst := some 32) 24 #[Value.pointer r] (by kernel_rfl) (fun ww => by kernel_rfl) (Calls.mono h ?_)
          rintro _ w14 ⟨a_1, ok1, rfl, h⟩
          refine ⟨_, rfl, ?_⟩
          refine reg_run [.plain, .plain, .plain, .plain, .plain] 7 [(0, [], Value.pointer r), (1, [], Value.pointer x), (7, [], Value.int .i64 a_1), (8, [], Value.bool ok1)] (by kernel_rfl) (by kernel_rfl) ?_
          refine reg_end [(0, Value.pointer r), (1, Value.pointer x), (7, Value.int .i64 a_1), (8, Value.bool ok1)] (by kernel_rfl) (by kernel_rfl) ?_
          change WpE _ _ c_towpathlaw10_asked_28 _ _ _
          refine wpE_seq (x := c_towpathlaw10_asked_29) (y := c_towpathlaw10_asked_31) (by kernel_rfl) ?_
          refine wpE_region (id := 7) (ops := r_towpathlaw10_asked_29) (by kernel_rfl) ?_
          refine reg_run [.plain] 1 [(0, [], Value.pointer r), (1, [], Value.pointer x), (7, [], Value.int .i64 a_1), (8, [], Value.bool ok1), (36, [], Value.pointer x)] (by kernel_rfl) (by kernel_rfl) ?_
          refine reg_enter (op := (Go.Op.call (Go.Call.mk (Go.Callee.value (Go.Operand.func 52)) #[(Go.Operand.tmp 36)] #[60]))) (ty := 40) (dst := some 37) 52 #[Value.pointer x] (by kernel_rfl) (fun ww => by kernel_rfl) (Calls.mono h ?_)
          rintro _ w15 ⟨b_2, is1, rfl, h⟩
          refine ⟨_, rfl, ?_⟩
          refine reg_run [.plain, .plain, .plain, .plain, .plain] 7 [(0, [], Value.pointer r), (1, [], Value.pointer x), (7, [], Value.int .i64 a_1), (8, [], Value.bool ok1), (9, [], Value.int .i64 b_2), (10, [], Value.bool is1)] (by kernel_rfl) (by kernel_rfl) ?_
          refine reg_end [(0, Value.pointer r), (1, Value.pointer x), (7, Value.int .i64 a_1), (8, Value.bool ok1), (9, Value.int .i64 b_2), (10, Value.bool is1)] (by kernel_rfl) (by kernel_rfl) ?_
          change WpE _ _ c_towpathlaw10_asked_31 _ _ _
          refine wpE_seq (x := c_towpathlaw10_asked_32) (y := c_towpathlaw10_asked_34) (by kernel_rfl) ?_
          refine wpE_region (id := 8) (ops := r_towpathlaw10_asked_32) (by kernel_rfl) ?_
          refine reg_run [.plain, .plain, .plain, .plain, .plain, .plain, .plain, .pick] 8 [(0, [], Value.pointer r), (1, [], Value.pointer x), (47, [], Value.bool ((a_1 != b_2) || (!(ok1 == is1))))] (by kernel_rfl) (by kernel_rfl) ?_
          refine reg_end [(0, Value.pointer r), (1, Value.pointer x), (47, Value.bool ((a_1 != b_2) || (!(ok1 == is1))))] (by kernel_rfl) (by kernel_rfl) ?_
          change WpE _ _ c_towpathlaw10_asked_34 _ _ _
          refine wpE_cond (o := (Operand.tmp 47)) (b := ((a_1 != b_2) || (!(ok1 == is1)))) (x := c_towpathlaw10_asked_35) (y := c_towpathlaw10_asked_39) (by kernel_rfl) (by kernel_rfl) (fun hb => ?_) (fun hb => ?_)
          · replace h := h.1 hb
            refine wpE_seq (x := c_towpathlaw10_asked_36) (y := c_towpathlaw10_asked_38) (by kernel_rfl) ?_
            refine wpE_region (id := 9) (ops := r_towpathlaw10_asked_36) (by kernel_rfl) ?_
            refine reg_run [.plain] 1 [(6, [], Value.bool false)] (by kernel_rfl) (by kernel_rfl) ?_
            refine reg_end [(6, Value.bool false)] (by kernel_rfl) (by kernel_rfl) ?_
            change WpE _ _ c_towpathlaw10_asked_38 _ _ _
            refine wpE_ret (by kernel_rfl) ?_
            repeat (first | refine seqQ_ret ?_ | refine blockQ_ret ?_ | refine loopQ_ret ?_ | refine cutQ_ret ?_)
            exact retS (rs := [(Go.ResultVar.tmp 6)]) (v := Value.bool false) (by kernel_rfl) (⟨by kernel_rfl, trivial⟩) ⟨false, rfl, h⟩
          · replace h := h.2 hb
            refine wpE_skip (by kernel_rfl) ?_
            exact ⟨[(0, Value.pointer r), (1, Value.pointer x)], Sub.mk (by kernel_rfl), rfl, h⟩
        · replace h := h.2 hb
          refine wpE_seq (x := c_towpathlaw10_asked_41) (y := c_towpathlaw10_asked_43) (by kernel_rfl) ?_
          refine wpE_region (id := 10) (ops := r_towpathlaw10_asked_41) (by kernel_rfl) ?_
          refine reg_run [.plain, .plain] 2 [(0, [], Value.pointer r), (1, [], Value.pointer x), (5, [], Value.pointer (some ⟨b_, 0, none⟩)), (16, [], Value.int .u8 v16), (48, [], Value.bool (v16 == 3))] (by kernel_rfl) (by kernel_rfl) ?_
          refine reg_end [(0, Value.pointer r), (1, Value.pointer x), (5, Value.pointer (some ⟨b_, 0, none⟩)), (16, Value.int .u8 v16), (48, Value.bool (v16 == 3))] (by kernel_rfl) (by kernel_rfl) ?_
          change WpE _ _ c_towpathlaw10_asked_43 _ _ _
          refine wpE_cond (o := (Operand.tmp 48)) (b := (v16 == 3)) (x := c_towpathlaw10_asked_44) (y := c_towpathlaw10_asked_49) (by kernel_rfl) (by kernel_rfl) (fun hb => ?_) (fun hb => ?_)
          · replace h := h.1 hb
            refine wpE_seq (x := c_towpathlaw10_asked_45) (y := c_towpathlaw10_asked_47) (by kernel_rfl) ?_
            refine wpE_region (id := 11) (ops := r_towpathlaw10_asked_45) (by kernel_rfl) ?_
            refine reg_run [.plain] 1 [(0, [], Value.pointer r), (1, [], Value.pointer x), (50, [], Value.pointer r)] (by kernel_rfl) (by kernel_rfl) ?_
            refine reg_enter (op := (Go.Op.call (Go.Call.mk (Go.Callee.value (Go.Operand.func 27)) #[(Go.Operand.tmp 50)] #[36]))) (ty := 0) (dst := some 51) 27 #[Value.pointer r] (by kernel_rfl) (fun ww => by kernel_rfl) (Calls.mono h ?_)
            rintro _ w16 ⟨rfl, h⟩
            refine ⟨_, rfl, ?_⟩
            refine reg_end [(0, Value.pointer r), (1, Value.pointer x)] (by kernel_rfl) (by kernel_rfl) ?_
            change WpE _ _ c_towpathlaw10_asked_47 _ _ _
            refine wpE_region (id := 12) (ops := r_towpathlaw10_asked_47) (by kernel_rfl) ?_
            refine reg_run [.plain] 1 [(0, [], Value.pointer r), (1, [], Value.pointer x), (52, [], Value.pointer x)] (by kernel_rfl) (by kernel_rfl) ?_
            refine reg_enter (op := (Go.Op.call (Go.Call.mk (Go.Callee.value (Go.Operand.func 53)) #[(Go.Operand.tmp 52)] #[60]))) (ty := 0) (dst := some 53) 53 #[Value.pointer x] (by kernel_rfl) (fun ww => by kernel_rfl) (Calls.mono h ?_)
            rintro _ w17 ⟨rfl, h⟩
            refine ⟨_, rfl, ?_⟩
            refine reg_end [(0, Value.pointer r), (1, Value.pointer x)] (by kernel_rfl) (by kernel_rfl) ?_
            exact ⟨[(0, Value.pointer r), (1, Value.pointer x)], Sub.mk (by kernel_rfl), rfl, h⟩
          · replace h := h.2 hb
            refine wpE_seq (x := c_towpathlaw10_asked_50) (y := c_towpathlaw10_asked_52) (by kernel_rfl) ?_
            refine wpE_region (id := 13) (ops := r_towpathlaw10_asked_50) (by kernel_rfl) ?_
            refine reg_run [.plain, .plain] 2 [(0, [], Value.pointer r), (1, [], Value.pointer x), (5, [], Value.pointer (some ⟨b_, 0, none⟩)), (54, [], Value.bool (v16 == 4))] (by kernel_rfl) (by kernel_rfl) ?_
            refine reg_end [(0, Value.pointer r), (1, Value.pointer x), (5, Value.pointer (some ⟨b_, 0, none⟩)), (54, Value.bool (v16 == 4))] (by kernel_rfl) (by kernel_rfl) ?_
            change WpE _ _ c_towpathlaw10_asked_52 _ _ _
            refine wpE_cond (o := (Operand.tmp 54)) (b := (v16 == 4)) (x := c_towpathlaw10_asked_53) (y := c_towpathlaw10_asked_62) (by kernel_rfl) (by kernel_rfl) (fun hb => ?_) (fun hb => ?_)
            · replace h := h.1 hb
              refine wpE_seq (x := c_towpathlaw10_asked_54) (y := c_towpathlaw10_asked_56) (by kernel_rfl) ?_
              refine wpE_mixregion (id := 14) (ops := r_towpathlaw10_asked_54) o_towpathlaw10_asked_54 (by kernel_rfl) (by kernel_rfl) (by kernel_rfl) (by kernel_rfl) (fun w18 hw => ?_)
              replace h := h w18 hw
              clear hw
              refine mreg_run [.plain, .plain] 2 [(0, [], Value.pointer r), (1, [], Value.pointer x), (5, [], Value.pointer (some ⟨b_, 0, none⟩)), (56, [], Value.pointer r), (57, [], Value.pointer (some ⟨b_, 1, none⟩))] (by kernel_rfl) (by kernel_rfl) ?_
              obtain ⟨v58, hc, h⟩ := h
              refine mreg_load1 (i := 2) (by kernel_rfl) (t := 3) (a := (Go.Operand.tmp 57)) (b := b_) (o := 1) (ty := 3) (dst := some 58) (by kernel_rfl) (by kernel_rfl) (by kernel_rfl) hc ?_
              refine mreg_run [.plain, .plain] 5 [(0, [], Value.pointer r), (1, [], Value.pointer x), (56, [], Value.pointer r), (58, [], Value.int .i64 v58), (60, [], Value.pointer x), (62, [], Value.pointer (some ⟨b_, 1, none⟩))] (by kernel_rfl) (by kernel_rfl) ?_
              obtain ⟨v63, hc, h⟩ := h
              refine mreg_load1 (i := 7) (by kernel_rfl) (t := 3) (a := (Go.Operand.tmp 62)) (b := b_) (o := 1) (ty := 3) (dst := some 63) (by kernel_rfl) (by kernel_rfl) (by kernel_rfl) hc ?_
              refine mreg_run [] 6 [(0, [], Value.pointer r), (1, [], Value.pointer x), (56, [], Value.pointer r), (58, [], Value.int .i64 v58), (60, [], Value.pointer x), (63, [], Value.int .i64 v63)] (by kernel_rfl) (by kernel_rfl) ?_
              refine mreg_enter (op := (Go.Op.call (Go.Call.mk (Go.Callee.value (Go.Operand.func 40)) #[(Go.Operand.tmp 56), (Go.Operand.tmp 58)] #[36, 3]))) (ty := 49) (dst := some 59) 3 [0, 2, 1] [(7, fun w' => w'.cell? ⟨b_, 1, none⟩ = some (Value.int .i64 v63))] 40 #[Value.pointer r, Value.int .i64 v58] (by kernel_rfl) (by kernel_rfl) (by kernel_rfl) (by kernel_rfl) (by kernel_rfl) (fun ww => by kernel_rfl) (Calls.mono h ?_)
              rintro _ w19 ⟨v59, rfl, h⟩
              obtain ⟨hk0, h⟩ := h
              refine ⟨_, rfl, ⟨hk0, trivial⟩, ?_⟩
              refine mreg_run [] 7 [(0, [], Value.pointer r), (1, [], Value.pointer x), (59, [], Value.slice v59.ptr v59.len v59.cap), (60, [], Value.pointer x), (63, [], Value.int .i64 v63)] (by kernel_rfl) (by kernel_rfl) ?_
              refine mreg_enter (op := (Go.Op.call (Go.Call.mk (Go.Callee.value (Go.Operand.func 41)) #[(Go.Operand.tmp 60)] #[60]))) (ty := 49) (dst := some 61) 5 [3, 4, 0, 2, 1] [(7, fun w' => w'.cell? ⟨b_, 1, none⟩ = some (Value.int .i64 v63))] 41 #[Value.pointer x] (by kernel_rfl) (by kernel_rfl) (by kernel_rfl) (by kernel_rfl) (by kernel_rfl) (fun ww => by kernel_rfl) (Calls.mono h ?_)
              rintro _ w20 ⟨v61, rfl, h⟩
              obtain ⟨hk0, h⟩ := h
              refine ⟨_, rfl, ⟨hk0, trivial⟩, ?_⟩
              refine mreg_run [] 8 [(0, [], Value.pointer r), (1, [], Value.pointer x), (59, [], Value.slice v59.ptr v59.len v59.cap), (61, [], Value.slice v61.ptr v61.len v61.cap), (63, [], Value.int .i64 v63)] (by kernel_rfl) (by kernel_rfl) ?_
              refine mreg_enter (op := (Go.Op.call (Go.Call.mk (Go.Callee.value (Go.Operand.func 54)) #[(Go.Operand.tmp 61), (Go.Operand.tmp 63)] #[49, 3]))) (ty := 49) (dst := some 64) 8 [5, 7, 3, 4, 6, 0, 2, 1] [] 54 #[Value.slice v61.ptr v61.len v61.cap, Value.int .i64 v63] (by kernel_rfl) (by kernel_rfl) (by kernel_rfl) (by kernel_rfl) (by kernel_rfl) (fun ww => by kernel_rfl) (Calls.mono h ?_)
              rintro _ w21 ⟨v64, rfl, h⟩
              refine ⟨_, rfl, trivial, ?_⟩
              refine mreg_run [] 9 [(0, [], Value.pointer r), (1, [], Value.pointer x), (59, [], Value.slice v59.ptr v59.len v59.cap), (64, [], Value.slice v64.ptr v64.len v64.cap)] (by kernel_rfl) (by kernel_rfl) ?_
              refine mreg_enter (op := (Go.Op.call (Go.Call.mk (Go.Callee.value (Go.Operand.func 35)) #[(Go.Operand.tmp 59), (Go.Operand.tmp 64)] #[49, 49]))) (ty := 4) (dst := some 65) 9 [3, 8, 0, 2, 5, 7, 1, 4, 6] [] 35 #[Value.slice v59.ptr v59.len v59.cap, Value.slice v64.ptr v64.len v64.cap] (by kernel_rfl) (by kernel_rfl) (by kernel_rfl) (by kernel_rfl) (by kernel_rfl) (fun ww => by kernel_rfl) (Calls.mono h ?_)
              rintro _ w22 ⟨v65, rfl, h⟩
              refine ⟨_, rfl, trivial, ?_⟩
              refine mreg_run [.plain] 11 [(0, [], Value.pointer r), (1, [], Value.pointer x), (66, [], Value.bool (!v65))] (by kernel_rfl) (by kernel_rfl) ?_
              refine mreg_end [(0, Value.pointer r), (1, Value.pointer x), (66, Value.bool (!v65))] (by kernel_rfl) (by kernel_rfl) (by kernel_rfl) ?_
              change WpE _ _ c_towpathlaw10_asked_56 _ _ _
              refine wpE_cond (o := (Operand.tmp 66)) (b := (!v65)) (x := c_towpathlaw10_asked_57) (y := c_towpathlaw10_asked_61) (by kernel_rfl) (by kernel_rfl) (fun hb => ?_) (fun hb => ?_)
              · replace h := h.1 hb
                refine wpE_seq (x := c_towpathlaw10_asked_58) (y := c_towpathlaw10_asked_60) (by kernel_rfl) ?_
                refine wpE_region (id := 15) (ops := r_towpathlaw10_asked_58) (by kernel_rfl) ?_
                refine reg_run [.plain] 1 [(6, [], Value.bool false)] (by kernel_rfl) (by kernel_rfl) ?_
                refine reg_end [(6, Value.bool false)] (by kernel_rfl) (by kernel_rfl) ?_
                change WpE _ _ c_towpathlaw10_asked_60 _ _ _
                refine wpE_ret (by kernel_rfl) ?_
                repeat (first | refine seqQ_ret ?_ | refine blockQ_ret ?_ | refine loopQ_ret ?_ | refine cutQ_ret ?_)
                exact retS (rs := [(Go.ResultVar.tmp 6)]) (v := Value.bool false) (by kernel_rfl) (⟨by kernel_rfl, trivial⟩) ⟨false, rfl, h⟩
              · replace h := h.2 hb
                refine wpE_skip (by kernel_rfl) ?_
                exact ⟨[(0, Value.pointer r), (1, Value.pointer x)], Sub.mk (by kernel_rfl), rfl, h⟩
            · replace h := h.2 hb
              refine wpE_skip (by kernel_rfl) ?_
              exact ⟨[(0, Value.pointer r), (1, Value.pointer x)], Sub.mk (by kernel_rfl), rfl, h⟩
    · rintro _ w2 ⟨rfl, h⟩
      unfold F_towpathlaw10_asked_k0 at h
      refine wpE_seq (x := c_towpathlaw10_asked_64) (y := c_towpathlaw10_asked_66) (by kernel_rfl) ?_
      refine wpE_region (id := 16) (ops := r_towpathlaw10_asked_64) (by kernel_rfl) ?_
      refine reg_run [.plain] 1 [(0, [], Value.pointer r), (1, [], Value.pointer x), (68, [], Value.pointer r)] (by kernel_rfl) (by kernel_rfl) ?_
      refine reg_enter (op := (Go.Op.call (Go.Call.mk (Go.Callee.value (Go.Operand.func 47)) #[(Go.Operand.tmp 68)] #[36]))) (ty := 40) (dst := some 69) 47 #[Value.pointer r] (by kernel_rfl) (fun ww => by kernel_rfl) (Calls.mono h ?_)
      rintro _ w3 ⟨a_, ok, rfl, h⟩
      refine ⟨_, rfl, ?_⟩
      refine reg_run [.plain, .plain, .plain, .plain, .plain] 7 [(0, [], Value.pointer r), (1, [], Value.pointer x), (11, [], Value.int .i64 a_), (12, [], Value.bool ok)] (by kernel_rfl) (by kernel_rfl) ?_
      refine reg_end [(0, Value.pointer r), (1, Value.pointer x), (11, Value.int .i64 a_), (12, Value.bool ok)] (by kernel_rfl) (by kernel_rfl) ?_
      change WpE _ _ c_towpathlaw10_asked_66 _ _ _
      refine wpE_seq (x := c_towpathlaw10_asked_67) (y := c_towpathlaw10_asked_69) (by kernel_rfl) ?_
      refine wpE_region (id := 17) (ops := r_towpathlaw10_asked_67) (by kernel_rfl) ?_
      refine reg_run [.plain] 1 [(0, [], Value.pointer r), (1, [], Value.pointer x), (11, [], Value.int .i64 a_), (12, [], Value.bool ok), (73, [], Value.pointer x)] (by kernel_rfl) (by kernel_rfl) ?_
      refine reg_enter (op := (Go.Op.call (Go.Call.mk (Go.Callee.value (Go.Operand.func 55)) #[(Go.Operand.tmp 73)] #[60]))) (ty := 40) (dst := some 74) 55 #[Value.pointer x] (by kernel_rfl) (fun ww => by kernel_rfl) (Calls.mono h ?_)
      rintro _ w4 ⟨b_1, is, rfl, h⟩
      refine ⟨_, rfl, ?_⟩
      refine reg_run [.plain, .plain, .plain, .plain, .plain] 7 [(0, [], Value.pointer r), (1, [], Value.pointer x), (11, [], Value.int .i64 a_), (12, [], Value.bool ok), (13, [], Value.int .i64 b_1), (14, [], Value.bool is)] (by kernel_rfl) (by kernel_rfl) ?_
      refine reg_end [(0, Value.pointer r), (1, Value.pointer x), (11, Value.int .i64 a_), (12, Value.bool ok), (13, Value.int .i64 b_1), (14, Value.bool is)] (by kernel_rfl) (by kernel_rfl) ?_
      change WpE _ _ c_towpathlaw10_asked_69 _ _ _
      refine wpE_seq (x := c_towpathlaw10_asked_70) (y := c_towpathlaw10_asked_72) (by kernel_rfl) ?_
      refine wpE_region (id := 18) (ops := r_towpathlaw10_asked_70) (by kernel_rfl) ?_
      refine reg_run [.plain, .plain, .plain, .plain, .plain, .plain, .plain, .pick, .plain, .plain] 10 [(0, [], Value.pointer r), (1, [], Value.pointer x), (85, [], Value.bool ((a_ == b_1) && (ok == is))), (86, [(85, true)], Value.pointer r)] (by kernel_rfl) (by kernel_rfl) ?_
      refine reg_split 85 ((a_ == b_1) && (ok == is)) (by kernel_rfl) (fun hb => ?_) (fun hb => ?_)
      · replace h := h.1 hb
        refine reg_run [] 10 [(0, [], Value.pointer r), (1, [], Value.pointer x), (85, [], Value.bool true), (86, [], Value.pointer r)] (by kernel_rfl) (by kernel_rfl) ?_
        refine reg_run [] 10 [(0, [], Value.pointer r), (1, [], Value.pointer x), (85, [], Value.bool true), (86, [], Value.pointer r)] (by kernel_rfl) (by kernel_rfl) ?_
        refine reg_enter (op := (Go.Op.call (Go.Call.mk (Go.Callee.value (Go.Operand.func 25)) #[(Go.Operand.tmp 86)] #[36]))) (ty := 3) (dst := some 87) 25 #[Value.pointer r] (by kernel_rfl) (fun ww => by kernel_rfl) (Calls.mono h ?_)
        rintro _ w5 ⟨v87, rfl, h⟩
        refine ⟨_, rfl, ?_⟩
        refine reg_run [.sure] 12 [(0, [], Value.pointer r), (1, [], Value.pointer x), (85, [], Value.bool true), (87, [], Value.int .i64 v87), (88, [], Value.pointer x)] (by kernel_rfl) (by kernel_rfl) ?_
        refine reg_enter (op := (Go.Op.call (Go.Call.mk (Go.Callee.value (Go.Operand.func 56)) #[(Go.Operand.tmp 88)] #[60]))) (ty := 3) (dst := some 89) 56 #[Value.pointer x] (by kernel_rfl) (fun ww => by kernel_rfl) (Calls.mono h ?_)
        rintro _ w6 ⟨v89, rfl, h⟩
        refine ⟨_, rfl, ?_⟩
        refine reg_run [.sure, .plain, .plain, .plain] 17 [(0, [], Value.pointer r), (1, [], Value.pointer x), (92, [], Value.bool (v87 == v89)), (93, [(92, true)], Value.pointer r)] (by kernel_rfl) (by kernel_rfl) ?_
        refine reg_split 92 (v87 == v89) (by kernel_rfl) (fun hb => ?_) (fun hb => ?_)
        · replace h := h.1 hb
          refine reg_run [] 17 [(0, [], Value.pointer r), (1, [], Value.pointer x), (92, [], Value.bool true), (93, [], Value.pointer r)] (by kernel_rfl) (by kernel_rfl) ?_
          refine reg_run [] 17 [(0, [], Value.pointer r), (1, [], Value.pointer x), (92, [], Value.bool true), (93, [], Value.pointer r)] (by kernel_rfl) (by kernel_rfl) ?_
          refine reg_enter (op := (Go.Op.call (Go.Call.mk (Go.Callee.value (Go.Operand.func 26)) #[(Go.Operand.tmp 93)] #[36]))) (ty := 3) (dst := some 94) 26 #[Value.pointer r] (by kernel_rfl) (fun ww => by kernel_rfl) (Calls.mono h ?_)
          rintro _ w7 ⟨v94, rfl, h⟩
          refine ⟨_, rfl, ?_⟩
          refine reg_run [.sure] 19 [(0, [], Value.pointer r), (1, [], Value.pointer x), (92, [], Value.bool true), (94, [], Value.int .i64 v94), (95, [], Value.pointer x)] (by kernel_rfl) (by kernel_rfl) ?_
          refine reg_enter (op := (Go.Op.call (Go.Call.mk (Go.Callee.value (Go.Operand.func 57)) #[(Go.Operand.tmp 95)] #[60]))) (ty := 3) (dst := some 96) 57 #[Value.pointer x] (by kernel_rfl) (fun ww => by kernel_rfl) (Calls.mono h ?_)
          rintro _ w8 ⟨v96, rfl, h⟩
          refine ⟨_, rfl, ?_⟩
          refine reg_run [.sure, .plain, .plain, .plain] 24 [(1, [], Value.pointer x), (99, [], Value.bool (v94 == v96)), (100, [(99, true)], Value.pointer r)] (by kernel_rfl) (by kernel_rfl) ?_
          refine reg_split 99 (v94 == v96) (by kernel_rfl) (fun hb => ?_) (fun hb => ?_)
          · replace h := h.1 hb
            refine reg_run [] 24 [(1, [], Value.pointer x), (99, [], Value.bool true), (100, [], Value.pointer r)] (by kernel_rfl) (by kernel_rfl) ?_
            refine reg_run [] 24 [(1, [], Value.pointer x), (99, [], Value.bool true), (100, [], Value.pointer r)] (by kernel_rfl) (by kernel_rfl) ?_
            refine reg_enter (op := (Go.Op.call (Go.Call.mk (Go.Callee.value (Go.Operand.func 28)) #[(Go.Operand.tmp 100)] #[36]))) (ty := 4) (dst := some 101) 28 #[Value.pointer r] (by kernel_rfl) (fun ww => by kernel_rfl) (Calls.mono h ?_)
            rintro _ w9 ⟨v101, rfl, h⟩
            refine ⟨_, rfl, ?_⟩
            refine reg_run [.sure] 26 [(99, [], Value.bool true), (101, [], Value.bool v101), (102, [], Value.pointer x)] (by kernel_rfl) (by kernel_rfl) ?_
            refine reg_enter (op := (Go.Op.call (Go.Call.mk (Go.Callee.value (Go.Operand.func 58)) #[(Go.Operand.tmp 102)] #[60]))) (ty := 4) (dst := some 103) 58 #[Value.pointer x] (by kernel_rfl) (fun ww => by kernel_rfl) (Calls.mono h ?_)
            rintro _ w10 ⟨v103, rfl, h⟩
            refine ⟨_, rfl, ?_⟩
            refine reg_run [.sure, .plain, .plain] 30 [(6, [], Value.bool (v101 == v103))] (by kernel_rfl) (by kernel_rfl) ?_
            refine reg_end [(6, Value.bool (v101 == v103))] (by kernel_rfl) (by kernel_rfl) ?_
            change WpE _ _ c_towpathlaw10_asked_72 _ _ _
            refine wpE_ret (by kernel_rfl) ?_
            repeat (first | refine seqQ_ret ?_ | refine blockQ_ret ?_ | refine loopQ_ret ?_ | refine cutQ_ret ?_)
            exact retS (rs := [(Go.ResultVar.tmp 6)]) (v := Value.bool (v101 == v103)) (by kernel_rfl) (⟨by kernel_rfl, trivial⟩) ⟨(v101 == v103), rfl, h⟩
          · replace h := h.2 hb
            refine reg_run [] 24 [(1, [], Value.pointer x), (99, [], Value.bool false), (100, [], undef)] (by kernel_rfl) (by kernel_rfl) ?_
            refine reg_run [.skip, .skip, .skip, .skip, .plain, .plain] 30 [(6, [], Value.bool false)] (by kernel_rfl) (by kernel_rfl) ?_
            refine reg_end [(6, Value.bool false)] (by kernel_rfl) (by kernel_rfl) ?_
            change WpE _ _ c_towpathlaw10_asked_72 _ _ _
            refine wpE_ret (by kernel_rfl) ?_
            repeat (first | refine seqQ_ret ?_ | refine blockQ_ret ?_ | refine loopQ_ret ?_ | refine cutQ_ret ?_)
            exact retS (rs := [(Go.ResultVar.tmp 6)]) (v := Value.bool false) (by kernel_rfl) (⟨by kernel_rfl, trivial⟩) ⟨false, rfl, h⟩
        · replace h := h.2 hb
          refine reg_run [] 17 [(0, [], Value.pointer r), (1, [], Value.pointer x), (92, [], Value.bool false), (93, [], undef)] (by kernel_rfl) (by kernel_rfl) ?_
          refine reg_run [.skip, .skip, .skip, .skip, .plain, .plain, .skip, .skip, .skip, .skip, .skip, .plain, .plain] 30 [(6, [], Value.bool false)] (by kernel_rfl) (by kernel_rfl) ?_
          refine reg_end [(6, Value.bool false)] (by kernel_rfl) (by kernel_rfl) ?_
          change WpE _ _ c_towpathlaw10_asked_72 _ _ _
          refine wpE_ret (by kernel_rfl) ?_
          repeat (first | refine seqQ_ret ?_ | refine blockQ_ret ?_ | refine loopQ_ret ?_ | refine cutQ_ret ?_)
          exact retS (rs := [(Go.ResultVar.tmp 6)]) (v := Value.bool false) (by kernel_rfl) (⟨by kernel_rfl, trivial⟩) ⟨false, rfl, h⟩
      · replace h := h.2 hb
        refine reg_run [] 10 [(0, [], Value.pointer r), (1, [], Value.pointer x), (85, [], Value.bool false), (86, [], undef)] (by kernel_rfl) (by kernel_rfl) ?_
        refine reg_run [.skip, .skip, .skip, .skip, .plain, .plain, .skip, .skip, .skip, .skip, .skip, .plain, .plain, .skip, .skip, .skip, .skip, .skip, .plain, .plain] 30 [(6, [], Value.bool false)] (by kernel_rfl) (by kernel_rfl) ?_
        refine reg_end [(6, Value.bool false)] (by kernel_rfl) (by kernel_rfl) ?_
        change WpE _ _ c_towpathlaw10_asked_72 _ _ _
        refine wpE_ret (by kernel_rfl) ?_
        repeat (first | refine seqQ_ret ?_ | refine blockQ_ret ?_ | refine loopQ_ret ?_ | refine cutQ_ret ?_)
        exact retS (rs := [(Go.ResultVar.tmp 6)]) (v := Value.bool false) (by kernel_rfl) (⟨by kernel_rfl, trivial⟩) ⟨false, rfl, h⟩
  · rintro e w' ⟨v, rfl, r0, rfl, h⟩; exact ⟨r0, rfl, h⟩

/-! ### towpath/towpathlaw10.gone (function 40) -/
noncomputable def c_towpathlaw10_gone_0 : Code := (Try.f40.body).getD Code.skip
noncomputable def c_towpathlaw10_gone_1 : Code := Code.l c_towpathlaw10_gone_0
noncomputable def r_towpathlaw10_gone_1 : Array Oper := Code.ops c_towpathlaw10_gone_1
noncomputable def c_towpathlaw10_gone_3 : Code := Code.r c_towpathlaw10_gone_0
noncomputable def c_towpathlaw10_gone_4 : Code := Code.l c_towpathlaw10_gone_3
noncomputable def r_towpathlaw10_gone_4 : Array Oper := Code.ops c_towpathlaw10_gone_4
noncomputable def c_towpathlaw10_gone_6 : Code := Code.r c_towpathlaw10_gone_3
noncomputable def c_towpathlaw10_gone_7 : Code := Code.l c_towpathlaw10_gone_6
noncomputable def c_towpathlaw10_gone_8 : Code := Code.l c_towpathlaw10_gone_7
noncomputable def r_towpathlaw10_gone_8 : Array Oper := Code.ops c_towpathlaw10_gone_8
noncomputable def c_towpathlaw10_gone_10 : Code := Code.r c_towpathlaw10_gone_7
noncomputable def c_towpathlaw10_gone_11 : Code := Code.l c_towpathlaw10_gone_10
noncomputable def c_towpathlaw10_gone_12 : Code := Code.l c_towpathlaw10_gone_11
noncomputable def r_towpathlaw10_gone_12 : Array Oper := Code.ops c_towpathlaw10_gone_12
noncomputable def c_towpathlaw10_gone_14 : Code := Code.r c_towpathlaw10_gone_11
noncomputable def c_towpathlaw10_gone_15 : Code := Code.l c_towpathlaw10_gone_14
noncomputable def c_towpathlaw10_gone_16 : Code := Code.l c_towpathlaw10_gone_15
noncomputable def c_towpathlaw10_gone_17 : Code := Code.l c_towpathlaw10_gone_16
noncomputable def r_towpathlaw10_gone_17 : Array Oper := Code.ops c_towpathlaw10_gone_17
noncomputable def c_towpathlaw10_gone_19 : Code := Code.r c_towpathlaw10_gone_16
noncomputable def c_towpathlaw10_gone_20 : Code := Code.l c_towpathlaw10_gone_19
noncomputable def c_towpathlaw10_gone_21 : Code := Code.r c_towpathlaw10_gone_19
noncomputable def c_towpathlaw10_gone_22 : Code := Code.r c_towpathlaw10_gone_15
noncomputable def r_towpathlaw10_gone_22 : Array Oper := Code.ops c_towpathlaw10_gone_22
noncomputable def c_towpathlaw10_gone_24 : Code := Code.r c_towpathlaw10_gone_6
noncomputable def c_towpathlaw10_gone_25 : Code := Code.l c_towpathlaw10_gone_24
noncomputable def r_towpathlaw10_gone_25 : Array Oper := Code.ops c_towpathlaw10_gone_25
noncomputable def c_towpathlaw10_gone_27 : Code := Code.r c_towpathlaw10_gone_24

set_option maxRecDepth 100000 in
set_option maxHeartbeats 4000000 in
theorem S_towpathlaw10_gone {r : Option Addr} {most : Int} {w : World} {R : Slc → World → Prop} (h : F_towpathlaw10_gone r most R w) : C_towpathlaw10_gone r most w R := by
  unfold F_towpathlaw10_gone at h
  unfold C_towpathlaw10_gone
  refine Calls.mono (calls_of_wpY (args := [Value.pointer r, Value.int .i64 most]) (R := fun v w' => ∃ (r0 : Slc), v = Value.slice r0.ptr r0.len r0.cap ∧ R r0 w') Try.func40 (c := c_towpathlaw10_gone_0) (by kernel_rfl) 19 (by kernel_rfl) (by kernel_rfl) [(0, Value.pointer r), (1, Value.int .i64 most)] (by kernel_rfl) ?_) ?_
  · letI : Rnd := rndY Try.prog Try.f40 (fun v w' => ∃ (r0 : Slc), v = Value.slice r0.ptr r0.len r0.cap ∧ R r0 w')
    refine wpE_seq (x := c_towpathlaw10_gone_1) (y := c_towpathlaw10_gone_3) (by kernel_rfl) ?_
    refine wpE_region (id := 0) (ops := r_towpathlaw10_gone_1) (by kernel_rfl) ?_
    refine reg_run [] 0 [(0, [], Value.pointer r), (1, [], Value.int .i64 most)] (by kernel_rfl) (by kernel_rfl) ?_
    refine reg_new (op := (Go.Op.box 3 (Go.Operand.tmp 1))) (ty := 0) (dst := some 3) (fun bb => Value.pointer (some ⟨bb, 0, none⟩)) (Obj.cells ([Value.int .i64 most]).toArray ty_int (0, 0)) (by kernel_rfl) (by kernel_rfl) (fun b_ w1 hb hw => ?_)
    replace h := h b_ w1 hb hw
    clear hb hw
    refine reg_run [.plain] 2 [(0, [], Value.pointer r), (3, [], Value.pointer (some ⟨b_, 0, none⟩)), (4, [], Value.slice none 0 0)] (by kernel_rfl) (by kernel_rfl) ?_
    refine reg_end [(0, Value.pointer r), (3, Value.pointer (some ⟨b_, 0, none⟩)), (4, Value.slice none 0 0)] (by kernel_rfl) (by kernel_rfl) ?_
    change WpE _ _ c_towpathlaw10_gone_3 _ _ _
    refine wpE_seq (x := c_towpathlaw10_gone_4) (y := c_towpathlaw10_gone_6) (by kernel_rfl) ?_
    refine wpE_region (id := 1) (ops := r_towpathlaw10_gone_4) (by kernel_rfl) ?_
    refine reg_run [] 0 [(0, [], Value.pointer r), (3, [], Value.pointer (some ⟨b_, 0, none⟩)), (4, [], Value.slice none 0 0)] (by kernel_rfl) (by kernel_rfl) ?_
    refine reg_new (op := (Go.Op.alloc 49)) (ty := 0) (dst := some 5) (fun bb => Value.pointer (some ⟨bb, 0, none⟩)) (Obj.cells ([Value.slice none 0 0]).toArray ty_sl_int (0, 0)) (by kernel_rfl) (by kernel_rfl) (fun b_1 w2 hb hw => ?_)
    replace h := h b_1 w2 hb hw
    clear hb hw
    refine reg_end [(0, Value.pointer r), (3, Value.pointer (some ⟨b_, 0, none⟩)), (4, Value.slice none 0 0), (5, Value.pointer (some ⟨b_1, 0, none⟩))] (by kernel_rfl) (by kernel_rfl) ?_
    change WpE _ _ c_towpathlaw10_gone_6 _ _ _
    refine wpE_seq_range (x := c_towpathlaw10_gone_7) (r1 := c_towpathlaw10_gone_8) (b := c_towpathlaw10_gone_10) (id := 0) (rg := c_towpathlaw10_gone_11) (rest := c_towpathlaw10_gone_24) (assign := c_towpathlaw10_gone_12) (body := c_towpathlaw10_gone_14) (g := (Operand.tmp 8)) (ps := [9]) (psa := #[9]) (by kernel_rfl) (by kernel_rfl) (by kernel_rfl) (by kernel_rfl) (by kernel_rfl) ?_
    refine wpE_region (id := 2) (ops := r_towpathlaw10_gone_8) (by kernel_rfl) ?_
    refine reg_run [.plain] 1 [(3, [], Value.pointer (some ⟨b_, 0, none⟩)), (4, [], Value.slice none 0 0), (5, [], Value.pointer (some ⟨b_1, 0, none⟩)), (7, [], Value.pointer r)] (by kernel_rfl) (by kernel_rfl) ?_
    refine reg_enter (op := (Go.Op.call (Go.Call.mk (Go.Callee.value (Go.Operand.func 42)) #[(Go.Operand.tmp 7)] #[36]))) (ty := 72) (dst := some 8) 42 #[Value.pointer r] (by kernel_rfl) (fun ww => by kernel_rfl) (Calls.mono h ?_)
    rintro _ w3 ⟨v8, rfl, h⟩
    refine ⟨_, rfl, ?_⟩
    refine reg_end [(3, Value.pointer (some ⟨b_, 0, none⟩)), (4, Value.slice none 0 0), (5, Value.pointer (some ⟨b_1, 0, none⟩)), (8, v8)] (by kernel_rfl) (by kernel_rfl) ?_
    refine rangeJ_mk (gv := v8) (by kernel_rfl) (by kernel_rfl) (fun rec_ D w4 hD_ hw_ hB_ => ?_)
    have hB_ : ∀ (t9 : Int) (w5 : World) (Kb : Bool → World → Prop), w5.heap[D + 1]? = some (.loop (rec_ .ready none)) → (∀ w12, w12 = w5.putObj (D + 1) (.loop (rec_ .busy none)) → F_towpathlaw10_gone_B0 b_ b_1 rec_ D Kb t9 w12) → CallsY (P := Try.prog) (yieldV (D + 1)) #[Value.int .i64 t9] w5 (fun e_ W_ => ∃ b_, e_ = Ending.returned (.bool b_) ∧ Kb b_ W_) := by
      clear h
      intro t9 w5 Kb hl_ hf_
      refine hB_ [Value.int .i64 t9] w5 _ (by kernel_rfl) hl_ ?_
      letI : Rnd := mkRnd (some (D + 1)) [] noEsc
      change WpE _ _ c_towpathlaw10_gone_12 _ _ _
      refine wpE_region (id := 3) (ops := r_towpathlaw10_gone_12) (by kernel_rfl) ?_
      refine reg_run [.plain] 1 [(3, [], Value.pointer (some ⟨b_, 0, none⟩)), (5, [], Value.pointer (some ⟨b_1, 0, none⟩)), (6, [], Value.int .i64 t9)] (by kernel_rfl) (by kernel_rfl) ?_
      refine reg_end [(3, Value.pointer (some ⟨b_, 0, none⟩)), (5, Value.pointer (some ⟨b_1, 0, none⟩)), (6, Value.int .i64 t9)] (by kernel_rfl) (by kernel_rfl) ?_
      refine And.intro hl_ (fun w6 hw_ => ?_)
      have h := hf_ w6 hw_
      clear hw_ hf_ hl_
      unfold F_towpathlaw10_gone_B0 at h
      change WpE _ _ c_towpathlaw10_gone_14 _ _ _
      refine wpE_block (id := 1) (x := c_towpathlaw10_gone_15) (by kernel_rfl) ?_
      refine wpE_seq (x := c_towpathlaw10_gone_16) (y := c_towpathlaw10_gone_22) (by kernel_rfl) ?_
      refine wpE_seq (x := c_towpathlaw10_gone_17) (y := c_towpathlaw10_gone_19) (by kernel_rfl) ?_
      refine wpE_region (id := 4) (ops := r_towpathlaw10_gone_17) (by kernel_rfl) ?_
      refine reg_run [] 0 [(3, [], Value.pointer (some ⟨b_, 0, none⟩)), (5, [], Value.pointer (some ⟨b_1, 0, none⟩)), (6, [], Value.int .i64 t9)] (by kernel_rfl) (by kernel_rfl) ?_
      obtain ⟨v10, hc, h⟩ := h
      refine reg_load1 (t := 49) (a := (Go.Operand.tmp 5)) (b := b_1) (o := 0) (ty := 49) (dst := some 10) (by kernel_rfl) (by kernel_rfl) (by kernel_rfl) hc ?_
      refine reg_run [.plain] 2 [(3, [], Value.pointer (some ⟨b_, 0, none⟩)), (5, [], Value.pointer (some ⟨b_1, 0, none⟩)), (6, [], Value.int .i64 t9), (11, [], Value.int .i64 ((v10.len : Nat) : Int))] (by kernel_rfl) (by kernel_rfl) ?_
      obtain ⟨v12, hc, h⟩ := h
      refine reg_load1 (t := 3) (a := (Go.Operand.tmp 3)) (b := b_) (o := 0) (ty := 3) (dst := some 12) (by kernel_rfl) (by kernel_rfl) (by kernel_rfl) hc ?_
      refine reg_run [.plain] 4 [(5, [], Value.pointer (some ⟨b_1, 0, none⟩)), (6, [], Value.int .i64 t9), (13, [], Value.bool (decide (((v10.len : Nat) : Int) ≥ v12)))] (by kernel_rfl) (by kernel_rfl) ?_
      refine reg_end [(5, Value.pointer (some ⟨b_1, 0, none⟩)), (6, Value.int .i64 t9), (13, Value.bool (decide (((v10.len : Nat) : Int) ≥ v12)))] (by kernel_rfl) (by kernel_rfl) ?_
      change WpE _ _ c_towpathlaw10_gone_19 _ _ _
      refine wpE_cond (o := (Operand.tmp 13)) (b := (decide (((v10.len : Nat) : Int) ≥ v12))) (x := c_towpathlaw10_gone_20) (y := c_towpathlaw10_gone_21) (by kernel_rfl) (by kernel_rfl) (fun hb => ?_) (fun hb => ?_)
      · replace h := h.1 hb
        refine wpE_exit (id := 0) (by kernel_rfl) ?_
        exact And.intro h.1 ⟨false, rfl, h.2 _ rfl⟩
      · replace h := h.2 hb
        refine wpE_skip (by kernel_rfl) ?_
        change WpE _ _ c_towpathlaw10_gone_22 _ _ _
        refine wpE_region (id := 5) (ops := r_towpathlaw10_gone_22) (by kernel_rfl) ?_
        refine reg_run [] 0 [(5, [], Value.pointer (some ⟨b_1, 0, none⟩)), (6, [], Value.int .i64 t9)] (by kernel_rfl) (by kernel_rfl) ?_
        obtain ⟨v14, hc, h⟩ := h
        refine reg_load1 (t := 49) (a := (Go.Operand.tmp 5)) (b := b_1) (o := 0) (ty := 49) (dst := some 14) (by kernel_rfl) (by kernel_rfl) (by kernel_rfl) hc ?_
        refine reg_run [.plain] 2 [(5, [], Value.pointer (some ⟨b_1, 0, none⟩)), (14, [], Value.slice v14.ptr v14.len v14.cap), (15, [], Value.int .i64 t9)] (by kernel_rfl) (by kernel_rfl) ?_
        refine reg_new (op := (Go.Op.buildSlice 49 1 #[(0, (Go.Operand.tmp 15))])) (ty := 49) (dst := some 16) (fun bb => Value.slice (some ⟨bb, 0, none⟩) 1 1) (Obj.cells ([Value.int .i64 t9]).toArray ty_int (0, 0)) (by kernel_rfl) (by kernel_rfl) (fun b_2 w8 hb hw => ?_)
        replace h := h b_2 w8 hb hw
        clear hb hw
        refine reg_run [] 3 [(5, [], Value.pointer (some ⟨b_1, 0, none⟩)), (14, [], Value.slice v14.ptr v14.len v14.cap), (16, [], Value.slice (some ⟨b_2, 0, none⟩) 1 1)] (by kernel_rfl) (by kernel_rfl) ?_
        obtain ⟨src, hs, h⟩ := h
        refine reg_append (t := 49) (tx := 49) (e := 3) (a := (Go.Operand.tmp 14)) (xo := (Go.Operand.tmp 16)) (s := v14) (x := (Slc.mk (some ⟨b_2, 0, none⟩) 1 1)) (sz := 1) (by_ := 8) (zs := [Value.int .i64 0]) (ty := 49) (dst := some 17)  src (by kernel_rfl) (by kernel_rfl) (by kernel_rfl) (by kernel_rfl) (by kernel_rfl) (by kernel_rfl) (by kernel_rfl) (by kernel_rfl) (by kernel_rfl) hs (AppendW.mono h (fun v17 w9 h => ?_))
        refine reg_run [] 4 [(5, [], Value.pointer (some ⟨b_1, 0, none⟩)), (17, [], Value.slice v17.ptr v17.len v17.cap)] (by kernel_rfl) (by kernel_rfl) ?_
        obtain ⟨hc, h⟩ := h
        refine reg_store (t := 49) (a := (Go.Operand.tmp 5)) (x := (Go.Operand.tmp 17)) (b := b_1) (o := 0) (ty := 0) (dst := none) [Value.slice v17.ptr v17.len v17.cap] (by kernel_rfl) (by kernel_rfl) (by kernel_rfl) (k := 1) (by kernel_rfl) (by kernel_rfl) (by kernel_rfl) hc (fun w10 hw => ?_)
        replace h := h w10 hw
        clear hw
        refine reg_end [] (by kernel_rfl) (by kernel_rfl) ?_
        exact And.intro h.1 ⟨true, rfl, h.2 _ rfl⟩
    replace h := h rec_ D w4 hD_ hw_ hB_
    clear hB_ hw_
    have hA_ : ∀ w13, F_towpathlaw10_gone_A1 R b_1 D w13 → @WpE (rndD Try.prog Try.f40 (fun v w' => ∃ (r0 : Slc), v = Value.slice r0.ptr r0.len r0.cap ∧ R r0 w') D) Try.prog 19 c_towpathlaw10_gone_24 (fun _ _ _ => False) [(3, Value.pointer (some ⟨b_, 0, none⟩)), (4, Value.slice none 0 0), (5, Value.pointer (some ⟨b_1, 0, none⟩)), (8, v8)] w13 := by
      clear h
      intro w13 h
      letI : Rnd := rndD Try.prog Try.f40 (fun v w' => ∃ (r0 : Slc), v = Value.slice r0.ptr r0.len r0.cap ∧ R r0 w') D
      unfold F_towpathlaw10_gone_A1 at h
      change WpE _ _ c_towpathlaw10_gone_24 _ _ _
      refine wpE_seq (x := c_towpathlaw10_gone_25) (y := c_towpathlaw10_gone_27) (by kernel_rfl) ?_
      refine wpE_region (id := 6) (ops := r_towpathlaw10_gone_25) (by kernel_rfl) ?_
      refine reg_run [] 0 [(4, [], Value.slice none 0 0), (5, [], Value.pointer (some ⟨b_1, 0, none⟩))] (by kernel_rfl) (by kernel_rfl) ?_
      obtain ⟨v18, hc, h⟩ := h
      refine reg_load1 (t := 49) (a := (Go.Operand.tmp 5)) (b := b_1) (o := 0) (ty := 49) (dst := some 18) (by kernel_rfl) (by kernel_rfl) (by kernel_rfl) hc ?_
      refine reg_run [.plain] 2 [(4, [], Value.slice v18.ptr v18.len v18.cap)] (by kernel_rfl) (by kernel_rfl) ?_
      refine reg_end [(4, Value.slice v18.ptr v18.len v18.cap)] (by kernel_rfl) (by kernel_rfl) ?_
      change WpE _ _ c_towpathlaw10_gone_27 _ _ _
      refine wpE_retD (by kernel_rfl) h.1 ?_
      replace h := h.2 _ rfl
      repeat (first | refine seqQ_ret ?_ | refine blockQ_ret ?_ | refine loopQ_ret ?_ | refine cutQ_ret ?_)
      exact retS (rs := [(Go.ResultVar.tmp 4)]) (v := Value.slice v18.ptr v18.len v18.cap) (by kernel_rfl) (⟨by kernel_rfl, trivial⟩) ⟨v18, rfl, h⟩
    refine CallsV.mono h ?_
    rintro e_ w14 ⟨hv_, st_, pe_, hl_, hst_, h⟩
    refine ⟨hv_, st_, pe_, hl_, hst_, ?_⟩
    replace h := h _ rfl
    obtain ⟨hpe_, h⟩ := h
    rcases hpe_ with rfl | rfl
    · exact hA_ _ h
    · exact ⟨rfl, hA_ _ h⟩
  · rintro e w' ⟨v, rfl, r0, rfl, h⟩; exact ⟨r0, rfl, h⟩

/-! ### towpath/towpathlaw10.few (function 54) -/
noncomputable def c_towpathlaw10_few_0 : Code := (Try.f54.body).getD Code.skip
noncomputable def c_towpathlaw10_few_1 : Code := Code.l c_towpathlaw10_few_0
noncomputable def r_towpathlaw10_few_1 : Array Oper := Code.ops c_towpathlaw10_few_1
noncomputable def c_towpathlaw10_few_3 : Code := Code.r c_towpathlaw10_few_0
noncomputable def c_towpathlaw10_few_4 : Code := Code.l c_towpathlaw10_few_3
noncomputable def c_towpathlaw10_few_5 : Code := Code.l c_towpathlaw10_few_4
noncomputable def r_towpathlaw10_few_5 : Array Oper := Code.ops c_towpathlaw10_few_5
noncomputable def c_towpathlaw10_few_7 : Code := Code.r c_towpathlaw10_few_4
noncomputable def c_towpathlaw10_few_8 : Code := Code.l c_towpathlaw10_few_7
noncomputable def c_towpathlaw10_few_9 : Code := Code.l c_towpathlaw10_few_8
noncomputable def r_towpathlaw10_few_9 : Array Oper := Code.ops c_towpathlaw10_few_9
noncomputable def c_towpathlaw10_few_11 : Code := Code.r c_towpathlaw10_few_8
noncomputable def c_towpathlaw10_few_12 : Code := Code.r c_towpathlaw10_few_7
noncomputable def c_towpathlaw10_few_13 : Code := Code.r c_towpathlaw10_few_3
noncomputable def c_towpathlaw10_few_14 : Code := Code.l c_towpathlaw10_few_13
noncomputable def r_towpathlaw10_few_14 : Array Oper := Code.ops c_towpathlaw10_few_14
noncomputable def c_towpathlaw10_few_16 : Code := Code.r c_towpathlaw10_few_13

set_option maxRecDepth 100000 in
set_option maxHeartbeats 4000000 in
theorem S_towpathlaw10_few {l_ : Slc} {most : Int} {w : World} {R : Slc → World → Prop} (h : F_towpathlaw10_few l_ most R w) : C_towpathlaw10_few l_ most w R := by
  unfold F_towpathlaw10_few at h
  unfold C_towpathlaw10_few
  refine Calls.mono (calls_of_wpE (args := [Value.slice l_.ptr l_.len l_.cap, Value.int .i64 most]) (R := fun v w' => ∃ (r0 : Slc), v = Value.slice r0.ptr r0.len r0.cap ∧ R r0 w') Try.func54 (c := c_towpathlaw10_few_0) (by kernel_rfl) 14 (by kernel_rfl) (by kernel_rfl) [(0, Value.slice l_.ptr l_.len l_.cap), (1, Value.int .i64 most)] (by kernel_rfl) ?_) ?_
  · refine wpE_seq (x := c_towpathlaw10_few_1) (y := c_towpathlaw10_few_3) (by kernel_rfl) ?_
    refine wpE_region (id := 0) (ops := r_towpathlaw10_few_1) (by kernel_rfl) ?_
    refine reg_run [.plain] 1 [(0, [], Value.slice l_.ptr l_.len l_.cap), (1, [], Value.int .i64 most)] (by kernel_rfl) (by kernel_rfl) ?_
    refine reg_end [(0, Value.slice l_.ptr l_.len l_.cap), (1, Value.int .i64 most)] (by kernel_rfl) (by kernel_rfl) ?_
    change WpE _ _ c_towpathlaw10_few_3 _ _ _
    refine wpE_seq (x := c_towpathlaw10_few_4) (y := c_towpathlaw10_few_13) (by kernel_rfl) ?_
    refine wpE_seq (x := c_towpathlaw10_few_5) (y := c_towpathlaw10_few_7) (by kernel_rfl) ?_
    refine wpE_region (id := 1) (ops := r_towpathlaw10_few_5) (by kernel_rfl) ?_
    refine reg_run [.plain, .plain, .plain, .plain] 4 [(0, [], Value.slice l_.ptr l_.len l_.cap), (1, [], Value.int .i64 most), (8, [], Value.bool (decide (((l_.len : Nat) : Int) > most)))] (by kernel_rfl) (by kernel_rfl) ?_
    refine reg_end [(0, Value.slice l_.ptr l_.len l_.cap), (1, Value.int .i64 most), (8, Value.bool (decide (((l_.len : Nat) : Int) > most)))] (by kernel_rfl) (by kernel_rfl) ?_
    change WpE _ _ c_towpathlaw10_few_7 _ _ _
    refine wpE_cond (o := (Operand.tmp 8)) (b := (decide (((l_.len : Nat) : Int) > most))) (x := c_towpathlaw10_few_8) (y := c_towpathlaw10_few_12) (by kernel_rfl) (by kernel_rfl) (fun hb => ?_) (fun hb => ?_)
    · replace h := h.1 hb
      refine wpE_seq (x := c_towpathlaw10_few_9) (y := c_towpathlaw10_few_11) (by kernel_rfl) ?_
      refine wpE_region (id := 2) (ops := r_towpathlaw10_few_9) (by kernel_rfl) ?_
      refine reg_run [.plain, .plain, .plain] 3 [(9, [], Value.slice l_.ptr l_.len l_.cap), (11, [], Value.int .i64 (if 0 > most then 0 else most))] (by kernel_rfl) (by kernel_rfl) ?_
      obtain ⟨h0, h1, h⟩ := h
      refine reg_sliceHi (t := 49) (e := 3) (x := (Go.Operand.tmp 9)) (hi := (Go.Operand.tmp 11)) (p := l_.ptr) (l := l_.len) (c := l_.cap) (sz := 1) (k := .i64) (j := (if 0 > most then 0 else most)) (ty := 49) (dst := some 12) (by kernel_rfl) (by kernel_rfl) (by kernel_rfl) (by kernel_rfl) (by kernel_rfl) h0 h1 ?_
      refine reg_run [.plain] 5 [(4, [], Value.slice l_.ptr ((if 0 > most then 0 else most).toNat) l_.cap)] (by kernel_rfl) (by kernel_rfl) ?_
      refine reg_end [(4, Value.slice l_.ptr ((if 0 > most then 0 else most).toNat) l_.cap)] (by kernel_rfl) (by kernel_rfl) ?_
      change WpE _ _ c_towpathlaw10_few_11 _ _ _
      refine wpE_ret (by kernel_rfl) ?_
      repeat (first | refine seqQ_ret ?_ | refine blockQ_ret ?_ | refine loopQ_ret ?_ | refine cutQ_ret ?_)
      exact retS (rs := [(Go.ResultVar.tmp 4)]) (v := Value.slice l_.ptr ((if 0 > most then 0 else most).toNat) l_.cap) (by kernel_rfl) (⟨by kernel_rfl, trivial⟩) ⟨(Slc.mk l_.ptr ((if 0 > most then 0 else most).toNat) l_.cap), rfl, h⟩
    · replace h := h.2 hb
      refine wpE_skip (by kernel_rfl) ?_
      change WpE _ _ c_towpathlaw10_few_13 _ _ _
      refine wpE_seq (x := c_towpathlaw10_few_14) (y := c_towpathlaw10_few_16) (by kernel_rfl) ?_
      refine wpE_region (id := 3) (ops := r_towpathlaw10_few_14) (by kernel_rfl) ?_
      refine reg_run [.plain, .plain] 2 [(4, [], Value.slice l_.ptr l_.len l_.cap)] (by kernel_rfl) (by kernel_rfl) ?_
      refine reg_end [(4, Value.slice l_.ptr l_.len l_.cap)] (by kernel_rfl) (by kernel_rfl) ?_
      change WpE _ _ c_towpathlaw10_few_16 _ _ _
      refine wpE_ret (by kernel_rfl) ?_
      repeat (first | refine seqQ_ret ?_ | refine blockQ_ret ?_ | refine loopQ_ret ?_ | refine cutQ_ret ?_)
      exact retS (rs := [(Go.ResultVar.tmp 4)]) (v := Value.slice l_.ptr l_.len l_.cap) (by kernel_rfl) (⟨by kernel_rfl, trivial⟩) ⟨l_, rfl, h⟩
  · rintro e w' ⟨v, rfl, r0, rfl, h⟩; exact ⟨r0, rfl, h⟩
end Go.Proofs.Ytchcljkflklddaa
