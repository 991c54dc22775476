/- WRITTEN BY PROGRAM (dec.py): for each Go function the clean formula F, the call's contract C, and the proof S that F gives C. -/
import Derived.Test.YtchcljkflklddaaRows
import Derived.Test.YtchcljkflklddaaGF
namespace Go.Proofs.Ytchcljkflklddaa
open Go
set_option linter.unusedVariables false

/-! ### towpath/towpathlaw13.ConfTasks (function 4) -/
noncomputable def c_towpathlaw13_ConfTasks_0 : Code := (Try.f4.body).getD Code.skip
noncomputable def c_towpathlaw13_ConfTasks_1 : Code := Code.l c_towpathlaw13_ConfTasks_0
noncomputable def r_towpathlaw13_ConfTasks_1 : Array Oper := Code.ops c_towpathlaw13_ConfTasks_1
noncomputable def c_towpathlaw13_ConfTasks_3 : Code := Code.r c_towpathlaw13_ConfTasks_0
noncomputable def c_towpathlaw13_ConfTasks_4 : Code := Code.l c_towpathlaw13_ConfTasks_3
noncomputable def r_towpathlaw13_ConfTasks_4 : Array Oper := Code.ops c_towpathlaw13_ConfTasks_4
noncomputable def c_towpathlaw13_ConfTasks_6 : Code := Code.r c_towpathlaw13_ConfTasks_3
noncomputable def c_towpathlaw13_ConfTasks_7 : Code := Code.l c_towpathlaw13_ConfTasks_6
noncomputable def r_towpathlaw13_ConfTasks_7 : Array Oper := Code.ops c_towpathlaw13_ConfTasks_7
noncomputable def c_towpathlaw13_ConfTasks_9 : Code := Code.r c_towpathlaw13_ConfTasks_6
noncomputable def c_towpathlaw13_ConfTasks_10 : Code := Code.l c_towpathlaw13_ConfTasks_9
noncomputable def r_towpathlaw13_ConfTasks_10 : Array Oper := Code.ops c_towpathlaw13_ConfTasks_10
noncomputable def c_towpathlaw13_ConfTasks_12 : Code := Code.r c_towpathlaw13_ConfTasks_9
noncomputable def c_towpathlaw13_ConfTasks_13 : Code := Code.l c_towpathlaw13_ConfTasks_12
noncomputable def r_towpathlaw13_ConfTasks_13 : Array Oper := Code.ops c_towpathlaw13_ConfTasks_13
noncomputable def c_towpathlaw13_ConfTasks_15 : Code := Code.r c_towpathlaw13_ConfTasks_12
noncomputable def c_towpathlaw13_ConfTasks_16 : Code := Code.l c_towpathlaw13_ConfTasks_15
noncomputable def r_towpathlaw13_ConfTasks_16 : Array Oper := Code.ops c_towpathlaw13_ConfTasks_16
noncomputable def c_towpathlaw13_ConfTasks_18 : Code := Code.r c_towpathlaw13_ConfTasks_15

set_option maxRecDepth 100000 in
set_option maxHeartbeats 4000000 in
theorem S_towpathlaw13_ConfTasks {c : T_api_Config} {task : Int} {w : World} {R : Bool → World → Prop} (h : F_towpathlaw13_ConfTasks c task R w) : C_towpathlaw13_ConfTasks c task w R := by
  unfold F_towpathlaw13_ConfTasks at h
  unfold C_towpathlaw13_ConfTasks
  refine Calls.mono (calls_of_wpE (args := [Value.agg #[Value.int .i64 c.Lanes, Value.int .i64 c.Shards, Value.int .i64 c.Window, Value.int .i64 c.Queue], Value.int .i64 task]) (R := fun v w' => ∃ (r0 : Bool), v = Value.bool r0 ∧ R r0 w') Try.func4 (c := c_towpathlaw13_ConfTasks_0) (by kernel_rfl) 62 (by kernel_rfl) (by kernel_rfl) [(0, Value.agg #[Value.int .i64 c.Lanes, Value.int .i64 c.Shards, Value.int .i64 c.Window, Value.int .i64 c.Queue]), (1, Value.int .i64 task)] (by kernel_rfl) ?_) ?_
  · refine wpE_seq (x := c_towpathlaw13_ConfTasks_1) (y := c_towpathlaw13_ConfTasks_3) (by kernel_rfl) ?_
    refine wpE_region (id := 0) (ops := r_towpathlaw13_ConfTasks_1) (by kernel_rfl) ?_
    refine reg_run [] 0 [(0, [], Value.agg #[Value.int .i64 c.Lanes, Value.int .i64 c.Shards, Value.int .i64 c.Window, Value.int .i64 c.Queue]), (1, [], Value.int .i64 task)] (by kernel_rfl) (by kernel_rfl) ?_
    refine reg_new (op := (Go.Op.box 23 (Go.Operand.tmp 0))) (ty := 0) (dst := some 2) (fun bb => Value.pointer (some ⟨bb, 0, none⟩)) (Obj.cells ([Value.int .i64 c.Lanes, Value.int .i64 c.Shards, Value.int .i64 c.Window, Value.int .i64 c.Queue]).toArray ty_api_Config (0, 0)) (by kernel_rfl) (by kernel_rfl) (fun b_ w1 hb hw => ?_)
    replace h := h b_ w1 hb hw
    clear hb hw
    refine reg_run [.plain] 2 [(1, [], Value.int .i64 task), (2, [], Value.pointer (some ⟨b_, 0, none⟩))] (by kernel_rfl) (by kernel_rfl) ?_
    refine reg_end [(1, Value.int .i64 task), (2, Value.pointer (some ⟨b_, 0, none⟩))] (by kernel_rfl) (by kernel_rfl) ?_
    change WpE _ _ c_towpathlaw13_ConfTasks_3 _ _ _
    refine wpE_seq (x := c_towpathlaw13_ConfTasks_4) (y := c_towpathlaw13_ConfTasks_6) (by kernel_rfl) ?_
    refine wpE_region (id := 1) (ops := r_towpathlaw13_ConfTasks_4) (by kernel_rfl) ?_
    refine reg_run [] 0 [(1, [], Value.int .i64 task), (2, [], Value.pointer (some ⟨b_, 0, none⟩))] (by kernel_rfl) (by kernel_rfl) ?_
    obtain ⟨v16, hc, h⟩ := h
    refine reg_loadN (t := 23) (a := (Go.Operand.tmp 2)) (b := b_) (o := 0) (ty := 23) (dst := some 16) [Value.int .i64 v16.Lanes, Value.int .i64 v16.Shards, Value.int .i64 v16.Window, Value.int .i64 v16.Queue] (by kernel_rfl) (by kernel_rfl) (by kernel_rfl) (k := 4) (by kernel_rfl) (by kernel_rfl) hc ?_
    refine reg_run [] 1 [(1, [], Value.int .i64 task), (2, [], Value.pointer (some ⟨b_, 0, none⟩)), (16, [], Value.agg #[Value.int .i64 v16.Lanes, Value.int .i64 v16.Shards, Value.int .i64 v16.Window, Value.int .i64 v16.Queue])] (by kernel_rfl) (by kernel_rfl) ?_
    refine reg_enter (op := (Go.Op.call (Go.Call.mk (Go.Callee.value (Go.Operand.func 17)) #[(Go.Operand.tmp 16)] #[23]))) (ty := 26) (dst := some 17) 17 #[Value.agg #[Value.int .i64 v16.Lanes, Value.int .i64 v16.Shards, Value.int .i64 v16.Window, Value.int .i64 v16.Queue]] (by kernel_rfl) (fun ww => by kernel_rfl) (Calls.mono h ?_)
    rintro _ w2 ⟨n_, e, rfl, h⟩
    refine ⟨_, rfl, ?_⟩
    refine reg_run [.plain, .plain, .plain, .plain, .plain] 7 [(1, [], Value.int .i64 task), (2, [], Value.pointer (some ⟨b_, 0, none⟩)), (5, [], Value.int .i64 n_), (6, [], Value.int .i64 e)] (by kernel_rfl) (by kernel_rfl) ?_
    refine reg_end [(1, Value.int .i64 task), (2, Value.pointer (some ⟨b_, 0, none⟩)), (5, Value.int .i64 n_), (6, Value.int .i64 e)] (by kernel_rfl) (by kernel_rfl) ?_
    change WpE _ _ c_towpathlaw13_ConfTasks_6 _ _ _
    refine wpE_seq (x := c_towpathlaw13_ConfTasks_7) (y := c_towpathlaw13_ConfTasks_9) (by kernel_rfl) ?_
    refine wpE_region (id := 2) (ops := r_towpathlaw13_ConfTasks_7) (by kernel_rfl) ?_
    refine reg_run [] 0 [(1, [], Value.int .i64 task), (2, [], Value.pointer (some ⟨b_, 0, none⟩)), (5, [], Value.int .i64 n_), (6, [], Value.int .i64 e)] (by kernel_rfl) (by kernel_rfl) ?_
    obtain ⟨v21, hc, h⟩ := h
    refine reg_loadN (t := 23) (a := (Go.Operand.tmp 2)) (b := b_) (o := 0) (ty := 23) (dst := some 21) [Value.int .i64 v21.Lanes, Value.int .i64 v21.Shards, Value.int .i64 v21.Window, Value.int .i64 v21.Queue] (by kernel_rfl) (by kernel_rfl) (by kernel_rfl) (k := 4) (by kernel_rfl) (by kernel_rfl) hc ?_
    refine reg_run [] 1 [(1, [], Value.int .i64 task), (2, [], Value.pointer (some ⟨b_, 0, none⟩)), (5, [], Value.int .i64 n_), (6, [], Value.int .i64 e), (21, [], Value.agg #[Value.int .i64 v21.Lanes, Value.int .i64 v21.Shards, Value.int .i64 v21.Window, Value.int .i64 v21.Queue])] (by kernel_rfl) (by kernel_rfl) ?_
    refine reg_enter (op := (Go.Op.call (Go.Call.mk (Go.Callee.value (Go.Operand.func 18)) #[(Go.Operand.tmp 21)] #[23]))) (ty := 26) (dst := some 22) 18 #[Value.agg #[Value.int .i64 v21.Lanes, Value.int .i64 v21.Shards, Value.int .i64 v21.Window, Value.int .i64 v21.Queue]] (by kernel_rfl) (fun ww => by kernel_rfl) (Calls.mono h ?_)
    rintro _ w3 ⟨want, f, rfl, h⟩
    refine ⟨_, rfl, ?_⟩
    refine reg_run [.plain, .plain, .plain, .plain, .plain] 7 [(1, [], Value.int .i64 task), (2, [], Value.pointer (some ⟨b_, 0, none⟩)), (5, [], Value.int .i64 n_), (6, [], Value.int .i64 e), (7, [], Value.int .i64 want), (8, [], Value.int .i64 f)] (by kernel_rfl) (by kernel_rfl) ?_
    refine reg_end [(1, Value.int .i64 task), (2, Value.pointer (some ⟨b_, 0, none⟩)), (5, Value.int .i64 n_), (6, Value.int .i64 e), (7, Value.int .i64 want), (8, Value.int .i64 f)] (by kernel_rfl) (by kernel_rfl) ?_
    change WpE _ _ c_towpathlaw13_ConfTasks_9 _ _ _
    refine wpE_seq (x := c_towpathlaw13_ConfTasks_10) (y := c_towpathlaw13_ConfTasks_12) (by kernel_rfl) ?_
    refine wpE_region (id := 3) (ops := r_towpathlaw13_ConfTasks_10) (by kernel_rfl) ?_
    refine reg_run [] 0 [(1, [], Value.int .i64 task), (2, [], Value.pointer (some ⟨b_, 0, none⟩)), (5, [], Value.int .i64 n_), (6, [], Value.int .i64 e), (7, [], Value.int .i64 want), (8, [], Value.int .i64 f)] (by kernel_rfl) (by kernel_rfl) ?_
    obtain ⟨v26, hc, h⟩ := h
    refine reg_loadN (t := 23) (a := (Go.Operand.tmp 2)) (b := b_) (o := 0) (ty := 23) (dst := some 26) [Value.int .i64 v26.Lanes, Value.int .i64 v26.Shards, Value.int .i64 v26.Window, Value.int .i64 v26.Queue] (by kernel_rfl) (by kernel_rfl) (by kernel_rfl) (k := 4) (by kernel_rfl) (by kernel_rfl) hc ?_
    refine reg_run [.plain] 2 [(1, [], Value.int .i64 task), (2, [], Value.pointer (some ⟨b_, 0, none⟩)), (5, [], Value.int .i64 n_), (6, [], Value.int .i64 e), (7, [], Value.int .i64 want), (8, [], Value.int .i64 f), (26, [], Value.agg #[Value.int .i64 v26.Lanes, Value.int .i64 v26.Shards, Value.int .i64 v26.Window, Value.int .i64 v26.Queue]), (27, [], Value.int .i64 task)] (by kernel_rfl) (by kernel_rfl) ?_
    refine reg_enter (op := (Go.Op.call (Go.Call.mk (Go.Callee.value (Go.Operand.func 19)) #[(Go.Operand.tmp 26), (Go.Operand.tmp 27)] #[23, 3]))) (ty := 31) (dst := some 28) 19 #[Value.agg #[Value.int .i64 v26.Lanes, Value.int .i64 v26.Shards, Value.int .i64 v26.Window, Value.int .i64 v26.Queue], Value.int .i64 task] (by kernel_rfl) (fun ww => by kernel_rfl) (Calls.mono h ?_)
    rintro _ w4 ⟨s, k, g, rfl, h⟩
    refine ⟨_, rfl, ?_⟩
    refine reg_run [.plain, .plain, .plain, .plain, .plain, .plain, .plain] 10 [(1, [], Value.int .i64 task), (2, [], Value.pointer (some ⟨b_, 0, none⟩)), (5, [], Value.int .i64 n_), (6, [], Value.int .i64 e), (7, [], Value.int .i64 want), (8, [], Value.int .i64 f), (9, [], Value.string s), (10, [], Value.int .i64 k), (11, [], Value.int .i64 g)] (by kernel_rfl) (by kernel_rfl) ?_
    refine reg_end [(1, Value.int .i64 task), (2, Value.pointer (some ⟨b_, 0, none⟩)), (5, Value.int .i64 n_), (6, Value.int .i64 e), (7, Value.int .i64 want), (8, Value.int .i64 f), (9, Value.string s), (10, Value.int .i64 k), (11, Value.int .i64 g)] (by kernel_rfl) (by kernel_rfl) ?_
    change WpE _ _ c_towpathlaw13_ConfTasks_12 _ _ _
    refine wpE_seq (x := c_towpathlaw13_ConfTasks_13) (y := c_towpathlaw13_ConfTasks_15) (by kernel_rfl) ?_
    refine wpE_region (id := 4) (ops := r_towpathlaw13_ConfTasks_13) (by kernel_rfl) ?_
    refine reg_run [] 0 [(1, [], Value.int .i64 task), (2, [], Value.pointer (some ⟨b_, 0, none⟩)), (5, [], Value.int .i64 n_), (6, [], Value.int .i64 e), (7, [], Value.int .i64 want), (8, [], Value.int .i64 f), (9, [], Value.string s), (10, [], Value.int .i64 k), (11, [], Value.int .i64 g)] (by kernel_rfl) (by kernel_rfl) ?_
    obtain ⟨v33, hc, h⟩ := h
    refine reg_loadN (t := 23) (a := (Go.Operand.tmp 2)) (b := b_) (o := 0) (ty := 23) (dst := some 33) [Value.int .i64 v33.Lanes, Value.int .i64 v33.Shards, Value.int .i64 v33.Window, Value.int .i64 v33.Queue] (by kernel_rfl) (by kernel_rfl) (by kernel_rfl) (k := 4) (by kernel_rfl) (by kernel_rfl) hc ?_
    refine reg_run [.plain] 2 [(5, [], Value.int .i64 n_), (6, [], Value.int .i64 e), (7, [], Value.int .i64 want), (8, [], Value.int .i64 f), (9, [], Value.string s), (10, [], Value.int .i64 k), (11, [], Value.int .i64 g), (33, [], Value.agg #[Value.int .i64 v33.Lanes, Value.int .i64 v33.Shards, Value.int .i64 v33.Window, Value.int .i64 v33.Queue]), (34, [], Value.int .i64 task)] (by kernel_rfl) (by kernel_rfl) ?_
    refine reg_enter (op := (Go.Op.call (Go.Call.mk (Go.Callee.value (Go.Operand.func 20)) #[(Go.Operand.tmp 33), (Go.Operand.tmp 34)] #[23, 3]))) (ty := 31) (dst := some 35) 20 #[Value.agg #[Value.int .i64 v33.Lanes, Value.int .i64 v33.Shards, Value.int .i64 v33.Window, Value.int .i64 v33.Queue], Value.int .i64 task] (by kernel_rfl) (fun ww => by kernel_rfl) (Calls.mono h ?_)
    rintro _ w5 ⟨name, which, h_, rfl, h⟩
    refine ⟨_, rfl, ?_⟩
    refine reg_run [.plain, .plain, .plain, .plain, .plain, .plain, .plain] 10 [(5, [], Value.int .i64 n_), (6, [], Value.int .i64 e), (7, [], Value.int .i64 want), (8, [], Value.int .i64 f), (9, [], Value.string s), (10, [], Value.int .i64 k), (11, [], Value.int .i64 g), (12, [], Value.string name), (13, [], Value.int .i64 which), (14, [], Value.int .i64 h_)] (by kernel_rfl) (by kernel_rfl) ?_
    refine reg_end [(5, Value.int .i64 n_), (6, Value.int .i64 e), (7, Value.int .i64 want), (8, Value.int .i64 f), (9, Value.string s), (10, Value.int .i64 k), (11, Value.int .i64 g), (12, Value.string name), (13, Value.int .i64 which), (14, Value.int .i64 h_)] (by kernel_rfl) (by kernel_rfl) ?_
    change WpE _ _ c_towpathlaw13_ConfTasks_15 _ _ _
    refine wpE_seq (x := c_towpathlaw13_ConfTasks_16) (y := c_towpathlaw13_ConfTasks_18) (by kernel_rfl) ?_
    refine wpE_region (id := 5) (ops := r_towpathlaw13_ConfTasks_16) (by kernel_rfl) ?_
    refine reg_run [.plain, .plain, .plain, .plain, .plain, .plain, .plain, .pick, .plain, .plain, .plain, .plain, .pick, .plain, .plain, .plain, .plain, .pick, .plain, .plain, .plain, .plain, .pick, .plain] 24 [(4, [], Value.bool (((((n_ == want) && (e == f)) && (s.toList == name.toList)) && (k == which)) && (g == h_)))] (by kernel_rfl) (by kernel_rfl) ?_
    refine reg_end [(4, Value.bool (((((n_ == want) && (e == f)) && (s.toList == name.toList)) && (k == which)) && (g == h_)))] (by kernel_rfl) (by kernel_rfl) ?_
    change WpE _ _ c_towpathlaw13_ConfTasks_18 _ _ _
    refine wpE_ret (by kernel_rfl) ?_
    repeat (first | refine seqQ_ret ?_ | refine blockQ_ret ?_ | refine loopQ_ret ?_ | refine cutQ_ret ?_)
    exact retS (rs := [(Go.ResultVar.tmp 4)]) (v := Value.bool (((((n_ == want) && (e == f)) && (s.toList == name.toList)) && (k == which)) && (g == h_))) (by kernel_rfl) (⟨by kernel_rfl, trivial⟩) ⟨(((((n_ == want) && (e == f)) && (s.toList == name.toList)) && (k == which)) && (g == h_)), rfl, h⟩
  · rintro e w' ⟨v, rfl, r0, rfl, h⟩; exact ⟨r0, rfl, h⟩
end Go.Proofs.Ytchcljkflklddaa
