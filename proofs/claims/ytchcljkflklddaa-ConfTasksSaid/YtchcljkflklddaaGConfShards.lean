/- WRITTEN BY PROGRAM (dec.py): for each Go function the clean formula F, the call's contract C, and the proof S that F gives C. -/
import Derived.Test.YtchcljkflklddaaRows
import Derived.Test.YtchcljkflklddaaGF
namespace Go.Proofs.Ytchcljkflklddaa
open Go
set_option linter.unusedVariables false

/-! ### towpath/towpathlaw13.ConfShards (function 3) -/
noncomputable def c_towpathlaw13_ConfShards_0 : Code := (Try.f3.body).getD Code.skip
noncomputable def c_towpathlaw13_ConfShards_1 : Code := Code.l c_towpathlaw13_ConfShards_0
noncomputable def r_towpathlaw13_ConfShards_1 : Array Oper := Code.ops c_towpathlaw13_ConfShards_1
noncomputable def c_towpathlaw13_ConfShards_3 : Code := Code.r c_towpathlaw13_ConfShards_0
noncomputable def c_towpathlaw13_ConfShards_4 : Code := Code.l c_towpathlaw13_ConfShards_3
noncomputable def c_towpathlaw13_ConfShards_5 : Code := Code.l c_towpathlaw13_ConfShards_4
noncomputable def r_towpathlaw13_ConfShards_5 : Array Oper := Code.ops c_towpathlaw13_ConfShards_5
noncomputable def c_towpathlaw13_ConfShards_7 : Code := Code.r c_towpathlaw13_ConfShards_4
noncomputable def c_towpathlaw13_ConfShards_8 : Code := Code.l c_towpathlaw13_ConfShards_7
noncomputable def c_towpathlaw13_ConfShards_9 : Code := Code.l c_towpathlaw13_ConfShards_8
noncomputable def r_towpathlaw13_ConfShards_9 : Array Oper := Code.ops c_towpathlaw13_ConfShards_9
noncomputable def c_towpathlaw13_ConfShards_11 : Code := Code.r c_towpathlaw13_ConfShards_8
noncomputable def c_towpathlaw13_ConfShards_12 : Code := Code.r c_towpathlaw13_ConfShards_7
noncomputable def c_towpathlaw13_ConfShards_13 : Code := Code.r c_towpathlaw13_ConfShards_3
noncomputable def c_towpathlaw13_ConfShards_14 : Code := Code.l c_towpathlaw13_ConfShards_13
noncomputable def r_towpathlaw13_ConfShards_14 : Array Oper := Code.ops c_towpathlaw13_ConfShards_14
noncomputable def c_towpathlaw13_ConfShards_16 : Code := Code.r c_towpathlaw13_ConfShards_13
noncomputable def c_towpathlaw13_ConfShards_17 : Code := Code.l c_towpathlaw13_ConfShards_16
noncomputable def r_towpathlaw13_ConfShards_17 : Array Oper := Code.ops c_towpathlaw13_ConfShards_17
noncomputable def c_towpathlaw13_ConfShards_19 : Code := Code.r c_towpathlaw13_ConfShards_16
noncomputable def c_towpathlaw13_ConfShards_20 : Code := Code.l c_towpathlaw13_ConfShards_19
noncomputable def r_towpathlaw13_ConfShards_20 : Array Oper := Code.ops c_towpathlaw13_ConfShards_20
noncomputable def c_towpathlaw13_ConfShards_22 : Code := Code.r c_towpathlaw13_ConfShards_19

set_option maxRecDepth 100000 in
set_option maxHeartbeats 4000000 in
theorem S_towpathlaw13_ConfShards {c : T_api_Config} {key : ByteArray} {w : World} {R : Bool → World → Prop} (h : F_towpathlaw13_ConfShards c key R w) : C_towpathlaw13_ConfShards c key w R := by
  unfold F_towpathlaw13_ConfShards at h
  unfold C_towpathlaw13_ConfShards
  refine Calls.mono (calls_of_wpE (args := [Value.agg #[Value.int .i64 c.Lanes, Value.int .i64 c.Shards, Value.int .i64 c.Window, Value.int .i64 c.Queue], Value.string key]) (R := fun v w' => ∃ (r0 : Bool), v = Value.bool r0 ∧ R r0 w') Try.func3 (c := c_towpathlaw13_ConfShards_0) (by kernel_rfl) 40 (by kernel_rfl) (by kernel_rfl) [(0, Value.agg #[Value.int .i64 c.Lanes, Value.int .i64 c.Shards, Value.int .i64 c.Window, Value.int .i64 c.Queue]), (1, Value.string key)] (by kernel_rfl) ?_) ?_
  · refine wpE_seq (x := c_towpathlaw13_ConfShards_1) (y := c_towpathlaw13_ConfShards_3) (by kernel_rfl) ?_
    refine wpE_region (id := 0) (ops := r_towpathlaw13_ConfShards_1) (by kernel_rfl) ?_
    refine reg_run [] 0 [(0, [], Value.agg #[Value.int .i64 c.Lanes, Value.int .i64 c.Shards, Value.int .i64 c.Window, Value.int .i64 c.Queue]), (1, [], Value.string key)] (by kernel_rfl) (by kernel_rfl) ?_
    refine reg_new (op := (Go.Op.box 23 (Go.Operand.tmp 0))) (ty := 0) (dst := some 2) (fun bb => Value.pointer (some ⟨bb, 0, none⟩)) (Obj.cells ([Value.int .i64 c.Lanes, Value.int .i64 c.Shards, Value.int .i64 c.Window, Value.int .i64 c.Queue]).toArray ty_api_Config (0, 0)) (by kernel_rfl) (by kernel_rfl) (fun b_ w1 hb hw => ?_)
    replace h := h b_ w1 hb hw
    clear hb hw
    refine reg_run [.plain] 2 [(1, [], Value.string key), (2, [], Value.pointer (some ⟨b_, 0, none⟩))] (by kernel_rfl) (by kernel_rfl) ?_
    refine reg_end [(1, Value.string key), (2, Value.pointer (some ⟨b_, 0, none⟩))] (by kernel_rfl) (by kernel_rfl) ?_
    change WpE _ _ c_towpathlaw13_ConfShards_3 _ _ _
    refine wpE_seq (x := c_towpathlaw13_ConfShards_4) (y := c_towpathlaw13_ConfShards_13) (by kernel_rfl) ?_
    refine wpE_seq (x := c_towpathlaw13_ConfShards_5) (y := c_towpathlaw13_ConfShards_7) (by kernel_rfl) ?_
    refine wpE_region (id := 1) (ops := r_towpathlaw13_ConfShards_5) (by kernel_rfl) ?_
    refine reg_run [.plain, .plain] 2 [(1, [], Value.string key), (2, [], Value.pointer (some ⟨b_, 0, none⟩)), (10, [], Value.int .i64 ((key.size : Nat) : Int))] (by kernel_rfl) (by kernel_rfl) ?_
    refine reg_new (op := (Go.Op.buildSlice 49 1 #[(0, (Go.Operand.tmp 10))])) (ty := 49) (dst := some 11) (fun bb => Value.slice (some ⟨bb, 0, none⟩) 1 1) (Obj.cells ([Value.int .i64 ((key.size : Nat) : Int)]).toArray ty_int (0, 0)) (by kernel_rfl) (by kernel_rfl) (fun b_1 w2 hb hw => ?_)
    replace h := h b_1 w2 hb hw
    clear hb hw
    refine reg_run [] 3 [(1, [], Value.string key), (2, [], Value.pointer (some ⟨b_, 0, none⟩)), (11, [], Value.slice (some ⟨b_1, 0, none⟩) 1 1)] (by kernel_rfl) (by kernel_rfl) ?_
    refine reg_enter (op := (Go.Op.call (Go.Call.mk (Go.Callee.value (Go.Operand.func 12)) #[(Go.Operand.tmp 11)] #[49]))) (ty := 4) (dst := some 12) 12 #[Value.slice (some ⟨b_1, 0, none⟩) 1 1] (by kernel_rfl) (fun ww => by kernel_rfl) (Calls.mono h ?_)
    rintro _ w3 ⟨v12, rfl, h⟩
    refine ⟨_, rfl, ?_⟩
    refine reg_end [(1, Value.string key), (2, Value.pointer (some ⟨b_, 0, none⟩)), (12, Value.bool v12)] (by kernel_rfl) (by kernel_rfl) ?_
    change WpE _ _ c_towpathlaw13_ConfShards_7 _ _ _
    refine wpE_cond (o := (Operand.tmp 12)) (b := v12) (x := c_towpathlaw13_ConfShards_8) (y := c_towpathlaw13_ConfShards_12) (by kernel_rfl) (by kernel_rfl) (fun hb => ?_) (fun hb => ?_)
    · replace h := h.1 hb
      refine wpE_seq (x := c_towpathlaw13_ConfShards_9) (y := c_towpathlaw13_ConfShards_11) (by kernel_rfl) ?_
      refine wpE_region (id := 2) (ops := r_towpathlaw13_ConfShards_9) (by kernel_rfl) ?_
      refine reg_run [.plain] 1 [(4, [], Value.bool true)] (by kernel_rfl) (by kernel_rfl) ?_
      refine reg_end [(4, Value.bool true)] (by kernel_rfl) (by kernel_rfl) ?_
      change WpE _ _ c_towpathlaw13_ConfShards_11 _ _ _
      refine wpE_ret (by kernel_rfl) ?_
      repeat (first | refine seqQ_ret ?_ | refine blockQ_ret ?_ | refine loopQ_ret ?_ | refine cutQ_ret ?_)
      exact retS (rs := [(Go.ResultVar.tmp 4)]) (v := Value.bool true) (by kernel_rfl) (⟨by kernel_rfl, trivial⟩) ⟨true, rfl, h⟩
    · replace h := h.2 hb
      refine wpE_skip (by kernel_rfl) ?_
      change WpE _ _ c_towpathlaw13_ConfShards_13 _ _ _
      refine wpE_seq (x := c_towpathlaw13_ConfShards_14) (y := c_towpathlaw13_ConfShards_16) (by kernel_rfl) ?_
      refine wpE_region (id := 3) (ops := r_towpathlaw13_ConfShards_14) (by kernel_rfl) ?_
      refine reg_run [] 0 [(1, [], Value.string key), (2, [], Value.pointer (some ⟨b_, 0, none⟩))] (by kernel_rfl) (by kernel_rfl) ?_
      obtain ⟨v14, hc, h⟩ := h
      refine reg_loadN (t := 23) (a := (Go.Operand.tmp 2)) (b := b_) (o := 0) (ty := 23) (dst := some 14) [Value.int .i64 v14.Lanes, Value.int .i64 v14.Shards, Value.int .i64 v14.Window, Value.int .i64 v14.Queue] (by kernel_rfl) (by kernel_rfl) (by kernel_rfl) (k := 4) (by kernel_rfl) (by kernel_rfl) hc ?_
      refine reg_run [.plain] 2 [(1, [], Value.string key), (2, [], Value.pointer (some ⟨b_, 0, none⟩)), (14, [], Value.agg #[Value.int .i64 v14.Lanes, Value.int .i64 v14.Shards, Value.int .i64 v14.Window, Value.int .i64 v14.Queue]), (15, [], Value.string key)] (by kernel_rfl) (by kernel_rfl) ?_
      refine reg_enter (op := (Go.Op.call (Go.Call.mk (Go.Callee.value (Go.Operand.func 13)) #[(Go.Operand.tmp 14), (Go.Operand.tmp 15)] #[23, 9]))) (ty := 26) (dst := some 16) 13 #[Value.agg #[Value.int .i64 v14.Lanes, Value.int .i64 v14.Shards, Value.int .i64 v14.Window, Value.int .i64 v14.Queue], Value.string key] (by kernel_rfl) (fun ww => by kernel_rfl) (Calls.mono h ?_)
      rintro _ w4 ⟨n_, e, rfl, h⟩
      refine ⟨_, rfl, ?_⟩
      refine reg_run [.plain, .plain, .plain, .plain, .plain] 8 [(1, [], Value.string key), (2, [], Value.pointer (some ⟨b_, 0, none⟩)), (5, [], Value.int .i64 n_), (6, [], Value.int .i64 e)] (by kernel_rfl) (by kernel_rfl) ?_
      refine reg_end [(1, Value.string key), (2, Value.pointer (some ⟨b_, 0, none⟩)), (5, Value.int .i64 n_), (6, Value.int .i64 e)] (by kernel_rfl) (by kernel_rfl) ?_
      change WpE _ _ c_towpathlaw13_ConfShards_16 _ _ _
      refine wpE_seq (x := c_towpathlaw13_ConfShards_17) (y := c_towpathlaw13_ConfShards_19) (by kernel_rfl) ?_
      refine wpE_region (id := 4) (ops := r_towpathlaw13_ConfShards_17) (by kernel_rfl) ?_
      refine reg_run [] 0 [(1, [], Value.string key), (2, [], Value.pointer (some ⟨b_, 0, none⟩)), (5, [], Value.int .i64 n_), (6, [], Value.int .i64 e)] (by kernel_rfl) (by kernel_rfl) ?_
      obtain ⟨v20, hc, h⟩ := h
      refine reg_loadN (t := 23) (a := (Go.Operand.tmp 2)) (b := b_) (o := 0) (ty := 23) (dst := some 20) [Value.int .i64 v20.Lanes, Value.int .i64 v20.Shards, Value.int .i64 v20.Window, Value.int .i64 v20.Queue] (by kernel_rfl) (by kernel_rfl) (by kernel_rfl) (k := 4) (by kernel_rfl) (by kernel_rfl) hc ?_
      refine reg_run [.plain] 2 [(2, [], Value.pointer (some ⟨b_, 0, none⟩)), (5, [], Value.int .i64 n_), (6, [], Value.int .i64 e), (20, [], Value.agg #[Value.int .i64 v20.Lanes, Value.int .i64 v20.Shards, Value.int .i64 v20.Window, Value.int .i64 v20.Queue]), (21, [], Value.string key)] (by kernel_rfl) (by kernel_rfl) ?_
      refine reg_enter (op := (Go.Op.call (Go.Call.mk (Go.Callee.value (Go.Operand.func 14)) #[(Go.Operand.tmp 20), (Go.Operand.tmp 21)] #[23, 9]))) (ty := 26) (dst := some 22) 14 #[Value.agg #[Value.int .i64 v20.Lanes, Value.int .i64 v20.Shards, Value.int .i64 v20.Window, Value.int .i64 v20.Queue], Value.string key] (by kernel_rfl) (fun ww => by kernel_rfl) (Calls.mono h ?_)
      rintro _ w5 ⟨want, f, rfl, h⟩
      refine ⟨_, rfl, ?_⟩
      refine reg_run [.plain, .plain, .plain, .plain, .plain] 8 [(2, [], Value.pointer (some ⟨b_, 0, none⟩)), (5, [], Value.int .i64 n_), (6, [], Value.int .i64 e), (7, [], Value.int .i64 want), (8, [], Value.int .i64 f)] (by kernel_rfl) (by kernel_rfl) ?_
      refine reg_end [(2, Value.pointer (some ⟨b_, 0, none⟩)), (5, Value.int .i64 n_), (6, Value.int .i64 e), (7, Value.int .i64 want), (8, Value.int .i64 f)] (by kernel_rfl) (by kernel_rfl) ?_
      change WpE _ _ c_towpathlaw13_ConfShards_19 _ _ _
      refine wpE_seq (x := c_towpathlaw13_ConfShards_20) (y := c_towpathlaw13_ConfShards_22) (by kernel_rfl) ?_
      refine wpE_drawregion (id := 5) (ops := r_towpathlaw13_ConfShards_20) (by kernel_rfl) (by kernel_rfl) (by kernel_rfl) ?_
      refine qreg_run [] 0 [(2, [], Value.pointer (some ⟨b_, 0, none⟩)), (5, [], Value.int .i64 n_), (6, [], Value.int .i64 e), (7, [], Value.int .i64 want), (8, [], Value.int .i64 f)] (by kernel_rfl) (by kernel_rfl) ?_
      obtain ⟨v25, hc, h⟩ := h
      refine qreg_loadN (t := 23) (a := (Go.Operand.tmp 2)) (b := b_) (o := 0) (ty := 23) (dst := some 25) [Value.int .i64 v25.Lanes, Value.int .i64 v25.Shards, Value.int .i64 v25.Window, Value.int .i64 v25.Queue] (by kernel_rfl) (by kernel_rfl) (by kernel_rfl) (k := 4) (by kernel_rfl) (by kernel_rfl) hc ?_
      refine qreg_run [] 1 [(2, [], Value.pointer (some ⟨b_, 0, none⟩)), (5, [], Value.int .i64 n_), (6, [], Value.int .i64 e), (7, [], Value.int .i64 want), (8, [], Value.int .i64 f), (25, [], Value.agg #[Value.int .i64 v25.Lanes, Value.int .i64 v25.Shards, Value.int .i64 v25.Window, Value.int .i64 v25.Queue])] (by kernel_rfl) (by kernel_rfl) ?_
      obtain ⟨v26, hq, h⟩ := h
      refine qreg_enter (op := (Go.Op.call (Go.Call.mk (Go.Callee.value (Go.Operand.func 15)) #[(Go.Operand.tmp 25)] #[23]))) (ty := 25) (dst := some 26) 15 #[Value.agg #[Value.int .i64 v25.Lanes, Value.int .i64 v25.Shards, Value.int .i64 v25.Window, Value.int .i64 v25.Queue]] (Value.int .i64 v26) (by kernel_rfl) (fun ww => by kernel_rfl) (fun w' he => Calls.mono (hq w' he) (by rintro _ w'' ⟨_, rfl, rfl, hE⟩; exact ⟨rfl, hE⟩)) ?_
      clear hq
      refine qreg_run [] 2 [(2, [], Value.pointer (some ⟨b_, 0, none⟩)), (5, [], Value.int .i64 n_), (6, [], Value.int .i64 e), (7, [], Value.int .i64 want), (8, [], Value.int .i64 f), (26, [], Value.int .i64 v26)] (by kernel_rfl) (by kernel_rfl) ?_
      obtain ⟨v27, hc, h⟩ := h
      refine qreg_loadN (t := 23) (a := (Go.Operand.tmp 2)) (b := b_) (o := 0) (ty := 23) (dst := some 27) [Value.int .i64 v27.Lanes, Value.int .i64 v27.Shards, Value.int .i64 v27.Window, Value.int .i64 v27.Queue] (by kernel_rfl) (by kernel_rfl) (by kernel_rfl) (k := 4) (by kernel_rfl) (by kernel_rfl) hc ?_
      refine qreg_run [] 3 [(5, [], Value.int .i64 n_), (6, [], Value.int .i64 e), (7, [], Value.int .i64 want), (8, [], Value.int .i64 f), (26, [], Value.int .i64 v26), (27, [], Value.agg #[Value.int .i64 v27.Lanes, Value.int .i64 v27.Shards, Value.int .i64 v27.Window, Value.int .i64 v27.Queue])] (by kernel_rfl) (by kernel_rfl) ?_
      obtain ⟨v28, hq, h⟩ := h
      refine qreg_enter (op := (Go.Op.call (Go.Call.mk (Go.Callee.value (Go.Operand.func 16)) #[(Go.Operand.tmp 27)] #[23]))) (ty := 25) (dst := some 28) 16 #[Value.agg #[Value.int .i64 v27.Lanes, Value.int .i64 v27.Shards, Value.int .i64 v27.Window, Value.int .i64 v27.Queue]] (Value.int .i64 v28) (by kernel_rfl) (fun ww => by kernel_rfl) (fun w' he => Calls.mono (hq w' he) (by rintro _ w'' ⟨_, rfl, rfl, hE⟩; exact ⟨rfl, hE⟩)) ?_
      clear hq
      refine qreg_run [.plain, .plain, .plain, .plain, .plain, .pick, .plain, .plain, .plain, .plain, .pick, .plain] 16 [(4, [], Value.bool (((v26 == v28) && (n_ == want)) && (e == f)))] (by kernel_rfl) (by kernel_rfl) ?_
      refine qreg_end [(4, Value.bool (((v26 == v28) && (n_ == want)) && (e == f)))] (by kernel_rfl) (by kernel_rfl) (fun w8 hw => ?_)
      replace h := h w8 hw
      clear hw
      change WpE _ _ c_towpathlaw13_ConfShards_22 _ _ _
      refine wpE_ret (by kernel_rfl) ?_
      repeat (first | refine seqQ_ret ?_ | refine blockQ_ret ?_ | refine loopQ_ret ?_ | refine cutQ_ret ?_)
      exact retS (rs := [(Go.ResultVar.tmp 4)]) (v := Value.bool (((v26 == v28) && (n_ == want)) && (e == f))) (by kernel_rfl) (⟨by kernel_rfl, trivial⟩) ⟨(((v26 == v28) && (n_ == want)) && (e == f)), rfl, h⟩
  · rintro e w' ⟨v, rfl, r0, rfl, h⟩; exact ⟨r0, rfl, h⟩
end Go.Proofs.Ytchcljkflklddaa
