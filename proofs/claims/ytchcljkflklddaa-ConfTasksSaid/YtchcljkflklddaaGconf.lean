/- WRITTEN BY PROGRAM (dec.py): for each Go function the clean formula F, the call's contract C, and the proof S that F gives C. -/
import Derived.Test.YtchcljkflklddaaRows
import Derived.Test.YtchcljkflklddaaGF
namespace Go.Proofs.Ytchcljkflklddaa
open Go
set_option linter.unusedVariables false

/-! ### towpath/conf.Shard (function 13) -/
noncomputable def c_conf_Shard_0 : Code := (Try.f13.body).getD Code.skip
noncomputable def c_conf_Shard_1 : Code := Code.l c_conf_Shard_0
noncomputable def r_conf_Shard_1 : Array Oper := Code.ops c_conf_Shard_1
noncomputable def c_conf_Shard_3 : Code := Code.r c_conf_Shard_0
noncomputable def c_conf_Shard_4 : Code := Code.l c_conf_Shard_3
noncomputable def c_conf_Shard_5 : Code := Code.l c_conf_Shard_4
noncomputable def r_conf_Shard_5 : Array Oper := Code.ops c_conf_Shard_5
noncomputable def c_conf_Shard_7 : Code := Code.r c_conf_Shard_4
noncomputable def c_conf_Shard_8 : Code := Code.l c_conf_Shard_7
noncomputable def r_conf_Shard_8 : Array Oper := Code.ops c_conf_Shard_8
noncomputable def c_conf_Shard_10 : Code := Code.r c_conf_Shard_7
noncomputable def c_conf_Shard_11 : Code := Code.l c_conf_Shard_10
noncomputable def c_conf_Shard_12 : Code := Code.l c_conf_Shard_11
noncomputable def r_conf_Shard_12 : Array Oper := Code.ops c_conf_Shard_12
noncomputable def c_conf_Shard_14 : Code := Code.r c_conf_Shard_11
noncomputable def c_conf_Shard_15 : Code := Code.r c_conf_Shard_10
noncomputable def c_conf_Shard_16 : Code := Code.r c_conf_Shard_3
noncomputable def c_conf_Shard_17 : Code := Code.l c_conf_Shard_16
noncomputable def c_conf_Shard_18 : Code := Code.l c_conf_Shard_17
noncomputable def r_conf_Shard_18 : Array Oper := Code.ops c_conf_Shard_18
noncomputable def c_conf_Shard_20 : Code := Code.r c_conf_Shard_17
noncomputable def c_conf_Shard_21 : Code := Code.l c_conf_Shard_20
noncomputable def c_conf_Shard_22 : Code := Code.l c_conf_Shard_21
noncomputable def r_conf_Shard_22 : Array Oper := Code.ops c_conf_Shard_22
noncomputable def c_conf_Shard_24 : Code := Code.r c_conf_Shard_21
noncomputable def c_conf_Shard_25 : Code := Code.r c_conf_Shard_20
noncomputable def c_conf_Shard_26 : Code := Code.r c_conf_Shard_16
noncomputable def c_conf_Shard_27 : Code := Code.l c_conf_Shard_26
noncomputable def r_conf_Shard_27 : Array Oper := Code.ops c_conf_Shard_27
noncomputable def c_conf_Shard_29 : Code := Code.r c_conf_Shard_26

set_option maxRecDepth 100000 in
set_option maxHeartbeats 4000000 in
theorem S_conf_Shard {c : T_api_Config} {key : ByteArray} {w : World} {R : Int → Int → World → Prop} (h : F_conf_Shard c key R w) : C_conf_Shard c key w R := by
  unfold F_conf_Shard at h
  unfold C_conf_Shard
  refine Calls.mono (calls_of_wpE (args := [Value.agg #[Value.int .i64 c.Lanes, Value.int .i64 c.Shards, Value.int .i64 c.Window, Value.int .i64 c.Queue], Value.string key]) (R := fun v w' => ∃ (r0 : Int) (r1 : Int), v = Value.tuple #[Value.int .i64 r0, Value.int .i64 r1] ∧ R r0 r1 w') Try.func13 (c := c_conf_Shard_0) (by kernel_rfl) 26 (by kernel_rfl) (by kernel_rfl) [(0, Value.agg #[Value.int .i64 c.Lanes, Value.int .i64 c.Shards, Value.int .i64 c.Window, Value.int .i64 c.Queue]), (1, Value.string key)] (by kernel_rfl) ?_) ?_
  · refine wpE_seq (x := c_conf_Shard_1) (y := c_conf_Shard_3) (by kernel_rfl) ?_
    refine wpE_region (id := 0) (ops := r_conf_Shard_1) (by kernel_rfl) ?_
    refine reg_run [] 0 [(0, [], Value.agg #[Value.int .i64 c.Lanes, Value.int .i64 c.Shards, Value.int .i64 c.Window, Value.int .i64 c.Queue]), (1, [], Value.string key)] (by kernel_rfl) (by kernel_rfl) ?_
    refine reg_new (op := (Go.Op.box 23 (Go.Operand.tmp 0))) (ty := 0) (dst := some 2) (fun bb => Value.pointer (some ⟨bb, 0, none⟩)) (Obj.cells ([Value.int .i64 c.Lanes, Value.int .i64 c.Shards, Value.int .i64 c.Window, Value.int .i64 c.Queue]).toArray ty_api_Config (0, 0)) (by kernel_rfl) (by kernel_rfl) (fun b_ w1 hb hw => ?_)
    replace h := h b_ w1 hb hw
    clear hb hw
    refine reg_run [.plain, .plain] 3 [(1, [], Value.string key), (2, [], Value.pointer (some ⟨b_, 0, none⟩))] (by kernel_rfl) (by kernel_rfl) ?_
    refine reg_end [(1, Value.string key), (2, Value.pointer (some ⟨b_, 0, none⟩))] (by kernel_rfl) (by kernel_rfl) ?_
    change WpE _ _ c_conf_Shard_3 _ _ _
    refine wpE_seq (x := c_conf_Shard_4) (y := c_conf_Shard_16) (by kernel_rfl) ?_
    refine wpE_seq (x := c_conf_Shard_5) (y := c_conf_Shard_7) (by kernel_rfl) ?_
    refine wpE_region (id := 1) (ops := r_conf_Shard_5) (by kernel_rfl) ?_
    refine reg_run [] 0 [(1, [], Value.string key), (2, [], Value.pointer (some ⟨b_, 0, none⟩))] (by kernel_rfl) (by kernel_rfl) ?_
    obtain ⟨v7, hc, h⟩ := h
    refine reg_loadN (t := 23) (a := (Go.Operand.tmp 2)) (b := b_) (o := 0) (ty := 23) (dst := some 7) [Value.int .i64 v7.Lanes, Value.int .i64 v7.Shards, Value.int .i64 v7.Window, Value.int .i64 v7.Queue] (by kernel_rfl) (by kernel_rfl) (by kernel_rfl) (k := 4) (by kernel_rfl) (by kernel_rfl) hc ?_
    refine reg_run [] 1 [(1, [], Value.string key), (2, [], Value.pointer (some ⟨b_, 0, none⟩)), (7, [], Value.agg #[Value.int .i64 v7.Lanes, Value.int .i64 v7.Shards, Value.int .i64 v7.Window, Value.int .i64 v7.Queue])] (by kernel_rfl) (by kernel_rfl) ?_
    refine reg_enter (op := (Go.Op.call (Go.Call.mk (Go.Callee.value (Go.Operand.func 15)) #[(Go.Operand.tmp 7)] #[23]))) (ty := 25) (dst := some 8) 15 #[Value.agg #[Value.int .i64 v7.Lanes, Value.int .i64 v7.Shards, Value.int .i64 v7.Window, Value.int .i64 v7.Queue]] (by kernel_rfl) (fun ww => by kernel_rfl) (Calls.mono h ?_)
    rintro _ w2 ⟨v8, rfl, h⟩
    refine ⟨_, rfl, ?_⟩
    refine reg_run [.plain] 3 [(1, [], Value.string key), (2, [], Value.pointer (some ⟨b_, 0, none⟩)), (6, [], Value.int .i64 v8)] (by kernel_rfl) (by kernel_rfl) ?_
    refine reg_end [(1, Value.string key), (2, Value.pointer (some ⟨b_, 0, none⟩)), (6, Value.int .i64 v8)] (by kernel_rfl) (by kernel_rfl) ?_
    change WpE _ _ c_conf_Shard_7 _ _ _
    refine wpE_seq (x := c_conf_Shard_8) (y := c_conf_Shard_10) (by kernel_rfl) ?_
    refine wpE_region (id := 2) (ops := r_conf_Shard_8) (by kernel_rfl) ?_
    refine reg_run [.plain, .plain] 2 [(1, [], Value.string key), (2, [], Value.pointer (some ⟨b_, 0, none⟩)), (6, [], Value.int .i64 v8), (10, [], Value.bool (v8 != 0))] (by kernel_rfl) (by kernel_rfl) ?_
    refine reg_end [(1, Value.string key), (2, Value.pointer (some ⟨b_, 0, none⟩)), (6, Value.int .i64 v8), (10, Value.bool (v8 != 0))] (by kernel_rfl) (by kernel_rfl) ?_
    change WpE _ _ c_conf_Shard_10 _ _ _
    refine wpE_cond (o := (Operand.tmp 10)) (b := (v8 != 0)) (x := c_conf_Shard_11) (y := c_conf_Shard_15) (by kernel_rfl) (by kernel_rfl) (fun hb => ?_) (fun hb => ?_)
    · replace h := h.1 hb
      refine wpE_seq (x := c_conf_Shard_12) (y := c_conf_Shard_14) (by kernel_rfl) ?_
      refine wpE_region (id := 3) (ops := r_conf_Shard_12) (by kernel_rfl) ?_
      refine reg_run [.plain, .plain, .plain] 3 [(4, [], Value.int .i64 0), (5, [], Value.int .i64 v8)] (by kernel_rfl) (by kernel_rfl) ?_
      refine reg_end [(4, Value.int .i64 0), (5, Value.int .i64 v8)] (by kernel_rfl) (by kernel_rfl) ?_
      change WpE _ _ c_conf_Shard_14 _ _ _
      refine wpE_ret (by kernel_rfl) ?_
      repeat (first | refine seqQ_ret ?_ | refine blockQ_ret ?_ | refine loopQ_ret ?_ | refine cutQ_ret ?_)
      exact retT (rs := [(Go.ResultVar.tmp 4), (Go.ResultVar.tmp 5)]) (vs := [Value.int .i64 0, Value.int .i64 v8]) (by kernel_rfl) (⟨by kernel_rfl, ⟨by kernel_rfl, trivial⟩⟩) (by kernel_rfl) ⟨0, v8, rfl, h⟩
    · replace h := h.2 hb
      refine wpE_skip (by kernel_rfl) ?_
      change WpE _ _ c_conf_Shard_16 _ _ _
      refine wpE_seq (x := c_conf_Shard_17) (y := c_conf_Shard_26) (by kernel_rfl) ?_
      refine wpE_seq (x := c_conf_Shard_18) (y := c_conf_Shard_20) (by kernel_rfl) ?_
      refine wpE_region (id := 4) (ops := r_conf_Shard_18) (by kernel_rfl) ?_
      refine reg_run [.plain, .plain, .plain, .plain, .plain, .plain, .pick] 7 [(1, [], Value.string key), (2, [], Value.pointer (some ⟨b_, 0, none⟩)), (18, [], Value.bool ((key.toList == ByteArray.empty.toList) || (decide (((key.size : Nat) : Int) > 64))))] (by kernel_rfl) (by kernel_rfl) ?_
      refine reg_end [(1, Value.string key), (2, Value.pointer (some ⟨b_, 0, none⟩)), (18, Value.bool ((key.toList == ByteArray.empty.toList) || (decide (((key.size : Nat) : Int) > 64))))] (by kernel_rfl) (by kernel_rfl) ?_
      change WpE _ _ c_conf_Shard_20 _ _ _
      refine wpE_cond (o := (Operand.tmp 18)) (b := ((key.toList == ByteArray.empty.toList) || (decide (((key.size : Nat) : Int) > 64)))) (x := c_conf_Shard_21) (y := c_conf_Shard_25) (by kernel_rfl) (by kernel_rfl) (fun hb => ?_) (fun hb => ?_)
      · replace h := h.1 hb
        refine wpE_seq (x := c_conf_Shard_22) (y := c_conf_Shard_24) (by kernel_rfl) ?_
        refine wpE_region (id := 5) (ops := r_conf_Shard_22) (by kernel_rfl) ?_
        refine reg_run [.plain, .plain] 2 [(4, [], Value.int .i64 0), (5, [], Value.int .i64 1)] (by kernel_rfl) (by kernel_rfl) ?_
        refine reg_end [(4, Value.int .i64 0), (5, Value.int .i64 1)] (by kernel_rfl) (by kernel_rfl) ?_
        change WpE _ _ c_conf_Shard_24 _ _ _
        refine wpE_ret (by kernel_rfl) ?_
        repeat (first | refine seqQ_ret ?_ | refine blockQ_ret ?_ | refine loopQ_ret ?_ | refine cutQ_ret ?_)
        exact retT (rs := [(Go.ResultVar.tmp 4), (Go.ResultVar.tmp 5)]) (vs := [Value.int .i64 0, Value.int .i64 1]) (by kernel_rfl) (⟨by kernel_rfl, ⟨by kernel_rfl, trivial⟩⟩) (by kernel_rfl) ⟨0, 1, rfl, h⟩
      · replace h := h.2 hb
        refine wpE_skip (by kernel_rfl) ?_
        change WpE _ _ c_conf_Shard_26 _ _ _
        refine wpE_seq (x := c_conf_Shard_27) (y := c_conf_Shard_29) (by kernel_rfl) ?_
        refine wpE_drawregion (id := 6) (ops := r_conf_Shard_27) (by kernel_rfl) (by kernel_rfl) (by kernel_rfl) ?_
        refine qreg_run [.plain] 1 [(2, [], Value.pointer (some ⟨b_, 0, none⟩)), (19, [], Value.string key)] (by kernel_rfl) (by kernel_rfl) ?_
        obtain ⟨v20, hq, h⟩ := h
        refine qreg_enter (op := (Go.Op.call (Go.Call.mk (Go.Callee.value (Go.Operand.func 37)) #[(Go.Operand.tmp 19)] #[9]))) (ty := 56) (dst := some 20) 37 #[Value.string key] (Value.int .u32 v20) (by kernel_rfl) (fun ww => by kernel_rfl) (fun w' he => Calls.mono (hq w' he) (by rintro _ w'' ⟨_, rfl, rfl, hE⟩; exact ⟨rfl, hE⟩)) ?_
        clear hq
        refine qreg_run [.plain] 3 [(20, [], Value.int .u32 v20), (21, [], Value.pointer (some ⟨b_, 1, none⟩))] (by kernel_rfl) (by kernel_rfl) ?_
        obtain ⟨v22, hc, h⟩ := h
        refine qreg_load1 (t := 3) (a := (Go.Operand.tmp 21)) (b := b_) (o := 1) (ty := 3) (dst := some 22) (by kernel_rfl) (by kernel_rfl) (by kernel_rfl) hc ?_
        refine qreg_run [.plain] 5 [(20, [], Value.int .u32 v20), (23, [], Value.int .u32 (IntKind.u32.wrap v22))] (by kernel_rfl) (by kernel_rfl) ?_
        obtain ⟨h0, h⟩ := h
        refine qreg_val (op := (Go.Op.binOp Go.BinOp.rem 56 (Go.Operand.tmp 20) (Go.Operand.tmp 23) 56)) (ty := 56) (dst := some 24) (Value.int .u32 (Int.tmod v20 (IntKind.u32.wrap v22))) (by kernel_rfl) (fun ww => run_rem (by kernel_rfl) (by kernel_rfl) h0 ww) ?_
        refine qreg_run [.plain, .plain, .plain] 9 [(4, [], Value.int .i64 (IntKind.i64.wrap (Int.tmod v20 (IntKind.u32.wrap v22)))), (5, [], Value.int .i64 0)] (by kernel_rfl) (by kernel_rfl) ?_
        refine qreg_end [(4, Value.int .i64 (IntKind.i64.wrap (Int.tmod v20 (IntKind.u32.wrap v22)))), (5, Value.int .i64 0)] (by kernel_rfl) (by kernel_rfl) (fun w4 hw => ?_)
        replace h := h w4 hw
        clear hw
        change WpE _ _ c_conf_Shard_29 _ _ _
        refine wpE_ret (by kernel_rfl) ?_
        repeat (first | refine seqQ_ret ?_ | refine blockQ_ret ?_ | refine loopQ_ret ?_ | refine cutQ_ret ?_)
        exact retT (rs := [(Go.ResultVar.tmp 4), (Go.ResultVar.tmp 5)]) (vs := [Value.int .i64 (IntKind.i64.wrap (Int.tmod v20 (IntKind.u32.wrap v22))), Value.int .i64 0]) (by kernel_rfl) (⟨by kernel_rfl, ⟨by kernel_rfl, trivial⟩⟩) (by kernel_rfl) ⟨(IntKind.i64.wrap (Int.tmod v20 (IntKind.u32.wrap v22))), 0, rfl, h⟩
  · rintro e w' ⟨v, rfl, r0, r1, rfl, h⟩; exact ⟨r0, r1, rfl, h⟩

/-! ### towpath/conf.Check (function 15) -/
noncomputable def c_conf_Check_0 : Code := (Try.f15.body).getD Code.skip
noncomputable def c_conf_Check_1 : Code := Code.l c_conf_Check_0
noncomputable def r_conf_Check_1 : Array Oper := Code.ops c_conf_Check_1
noncomputable def c_conf_Check_3 : Code := Code.r c_conf_Check_0
noncomputable def c_conf_Check_4 : Code := Code.l c_conf_Check_3
noncomputable def c_conf_Check_5 : Code := Code.l c_conf_Check_4
noncomputable def r_conf_Check_5 : Array Oper := Code.ops c_conf_Check_5
noncomputable def c_conf_Check_7 : Code := Code.r c_conf_Check_4
noncomputable def c_conf_Check_8 : Code := Code.l c_conf_Check_7
noncomputable def c_conf_Check_9 : Code := Code.l c_conf_Check_8
noncomputable def c_conf_Check_10 : Code := Code.l c_conf_Check_9
noncomputable def r_conf_Check_10 : Array Oper := Code.ops c_conf_Check_10
noncomputable def c_conf_Check_12 : Code := Code.r c_conf_Check_9
noncomputable def c_conf_Check_13 : Code := Code.l c_conf_Check_12
noncomputable def c_conf_Check_14 : Code := Code.l c_conf_Check_13
noncomputable def c_conf_Check_15 : Code := Code.r c_conf_Check_13
noncomputable def c_conf_Check_16 : Code := Code.r c_conf_Check_12
noncomputable def c_conf_Check_17 : Code := Code.l c_conf_Check_16
noncomputable def c_conf_Check_18 : Code := Code.l c_conf_Check_17
noncomputable def c_conf_Check_19 : Code := Code.l c_conf_Check_18
noncomputable def r_conf_Check_19 : Array Oper := Code.ops c_conf_Check_19
noncomputable def c_conf_Check_21 : Code := Code.r c_conf_Check_18
noncomputable def c_conf_Check_22 : Code := Code.l c_conf_Check_21
noncomputable def r_conf_Check_22 : Array Oper := Code.ops c_conf_Check_22
noncomputable def c_conf_Check_24 : Code := Code.r c_conf_Check_21
noncomputable def c_conf_Check_25 : Code := Code.l c_conf_Check_24
noncomputable def c_conf_Check_26 : Code := Code.l c_conf_Check_25
noncomputable def r_conf_Check_26 : Array Oper := Code.ops c_conf_Check_26
noncomputable def c_conf_Check_28 : Code := Code.r c_conf_Check_25
noncomputable def c_conf_Check_29 : Code := Code.r c_conf_Check_24
noncomputable def c_conf_Check_30 : Code := Code.r c_conf_Check_16
noncomputable def r_conf_Check_30 : Array Oper := Code.ops c_conf_Check_30
noncomputable def c_conf_Check_32 : Code := Code.r c_conf_Check_3
noncomputable def c_conf_Check_33 : Code := Code.l c_conf_Check_32
noncomputable def r_conf_Check_33 : Array Oper := Code.ops c_conf_Check_33
noncomputable def c_conf_Check_35 : Code := Code.r c_conf_Check_32

set_option maxRecDepth 100000 in
set_option maxHeartbeats 4000000 in
theorem S_conf_Check {c : T_api_Config} {w : World} {R : Int → World → Prop} (h : F_conf_Check c R w) : C_conf_Check c w R := by
  unfold F_conf_Check at h
  unfold C_conf_Check
  refine Calls.mono (calls_of_wpE (args := [Value.agg #[Value.int .i64 c.Lanes, Value.int .i64 c.Shards, Value.int .i64 c.Window, Value.int .i64 c.Queue]]) (R := fun v w' => ∃ (r0 : Int), v = Value.int .i64 r0 ∧ R r0 w') Try.func15 (c := c_conf_Check_0) (by kernel_rfl) 34 (by kernel_rfl) (by kernel_rfl) [(0, Value.agg #[Value.int .i64 c.Lanes, Value.int .i64 c.Shards, Value.int .i64 c.Window, Value.int .i64 c.Queue])] (by kernel_rfl) ?_) ?_
  · refine wpE_seq (x := c_conf_Check_1) (y := c_conf_Check_3) (by kernel_rfl) ?_
    refine wpE_region (id := 0) (ops := r_conf_Check_1) (by kernel_rfl) ?_
    refine reg_run [] 0 [(0, [], Value.agg #[Value.int .i64 c.Lanes, Value.int .i64 c.Shards, Value.int .i64 c.Window, Value.int .i64 c.Queue])] (by kernel_rfl) (by kernel_rfl) ?_
    refine reg_new (op := (Go.Op.box 23 (Go.Operand.tmp 0))) (ty := 0) (dst := some 1) (fun bb => Value.pointer (some ⟨bb, 0, none⟩)) (Obj.cells ([Value.int .i64 c.Lanes, Value.int .i64 c.Shards, Value.int .i64 c.Window, Value.int .i64 c.Queue]).toArray ty_api_Config (0, 0)) (by kernel_rfl) (by kernel_rfl) (fun b_ w1 hb hw => ?_)
    replace h := h b_ w1 hb hw
    clear hb hw
    refine reg_run [.plain] 2 [(1, [], Value.pointer (some ⟨b_, 0, none⟩))] (by kernel_rfl) (by kernel_rfl) ?_
    refine reg_end [(1, Value.pointer (some ⟨b_, 0, none⟩))] (by kernel_rfl) (by kernel_rfl) ?_
    change WpE _ _ c_conf_Check_3 _ _ _
    refine wpE_seq (x := c_conf_Check_4) (y := c_conf_Check_32) (by kernel_rfl) ?_
    refine wpE_seq (x := c_conf_Check_5) (y := c_conf_Check_7) (by kernel_rfl) ?_
    refine wpE_region (id := 1) (ops := r_conf_Check_5) (by kernel_rfl) ?_
    refine reg_run [.plain] 1 [(1, [], Value.pointer (some ⟨b_, 0, none⟩)), (5, [], Value.pointer (some ⟨b_, 0, none⟩))] (by kernel_rfl) (by kernel_rfl) ?_
    obtain ⟨v6, hc, h⟩ := h
    refine reg_load1 (t := 3) (a := (Go.Operand.tmp 5)) (b := b_) (o := 0) (ty := 3) (dst := some 6) (by kernel_rfl) (by kernel_rfl) (by kernel_rfl) hc ?_
    refine reg_run [.plain, .plain] 4 [(1, [], Value.pointer (some ⟨b_, 0, none⟩)), (7, [], Value.agg #[Value.int .i64 v6, Value.int .i64 16]), (8, [], Value.pointer (some ⟨b_, 1, none⟩))] (by kernel_rfl) (by kernel_rfl) ?_
    obtain ⟨v9, hc, h⟩ := h
    refine reg_load1 (t := 3) (a := (Go.Operand.tmp 8)) (b := b_) (o := 1) (ty := 3) (dst := some 9) (by kernel_rfl) (by kernel_rfl) (by kernel_rfl) hc ?_
    refine reg_run [.plain, .plain] 7 [(1, [], Value.pointer (some ⟨b_, 0, none⟩)), (7, [], Value.agg #[Value.int .i64 v6, Value.int .i64 16]), (10, [], Value.agg #[Value.int .i64 v9, Value.int .i64 16]), (11, [], Value.pointer (some ⟨b_, 2, none⟩))] (by kernel_rfl) (by kernel_rfl) ?_
    obtain ⟨v12, hc, h⟩ := h
    refine reg_load1 (t := 3) (a := (Go.Operand.tmp 11)) (b := b_) (o := 2) (ty := 3) (dst := some 12) (by kernel_rfl) (by kernel_rfl) (by kernel_rfl) hc ?_
    refine reg_run [.plain, .plain] 10 [(7, [], Value.agg #[Value.int .i64 v6, Value.int .i64 16]), (10, [], Value.agg #[Value.int .i64 v9, Value.int .i64 16]), (13, [], Value.agg #[Value.int .i64 v12, Value.int .i64 64]), (14, [], Value.pointer (some ⟨b_, 3, none⟩))] (by kernel_rfl) (by kernel_rfl) ?_
    obtain ⟨v15, hc, h⟩ := h
    refine reg_load1 (t := 3) (a := (Go.Operand.tmp 14)) (b := b_) (o := 3) (ty := 3) (dst := some 15) (by kernel_rfl) (by kernel_rfl) (by kernel_rfl) hc ?_
    refine reg_run [.plain] 12 [(7, [], Value.agg #[Value.int .i64 v6, Value.int .i64 16]), (10, [], Value.agg #[Value.int .i64 v9, Value.int .i64 16]), (13, [], Value.agg #[Value.int .i64 v12, Value.int .i64 64]), (16, [], Value.agg #[Value.int .i64 v15, Value.int .i64 16])] (by kernel_rfl) (by kernel_rfl) ?_
    refine reg_new (op := (Go.Op.buildSlice 77 4 #[(0, (Go.Operand.tmp 7)), (1, (Go.Operand.tmp 10)), (2, (Go.Operand.tmp 13)), (3, (Go.Operand.tmp 16))])) (ty := 77) (dst := some 17) (fun bb => Value.slice (some ⟨bb, 0, none⟩) 4 4) (Obj.cells ([Value.int .i64 v6, Value.int .i64 16, Value.int .i64 v9, Value.int .i64 16, Value.int .i64 v12, Value.int .i64 64, Value.int .i64 v15, Value.int .i64 16]).toArray ty_2_int (0, 0)) (by kernel_rfl) (by kernel_rfl) (fun b_1 w2 hb hw => ?_)
    replace h := h b_1 w2 hb hw
    clear hb hw
    refine reg_run [.plain, .plain] 15 [(17, [], Value.slice (some ⟨b_1, 0, none⟩) 4 4), (18, [], Value.int .i64 ((4 : Nat) : Int)), (19, [], Value.int .i64 0)] (by kernel_rfl) (by kernel_rfl) ?_
    refine reg_end [(17, Value.slice (some ⟨b_1, 0, none⟩) 4 4), (18, Value.int .i64 ((4 : Nat) : Int)), (19, Value.int .i64 0)] (by kernel_rfl) (by kernel_rfl) ?_
    change WpE _ _ c_conf_Check_7 _ _ _
    refine wpE_block (id := 0) (x := c_conf_Check_8) (by kernel_rfl) ?_
    obtain ⟨I, μ, h0, hr⟩ := h
    refine wpE_loop (x := c_conf_Check_9) (by kernel_rfl) (fun m l w => ∃ (t19 : Int), l = [(17, Value.slice (some ⟨b_1, 0, none⟩) 4 4), (18, Value.int .i64 ((4 : Nat) : Int)), (19, Value.int .i64 t19)] ∧ I t19 w ∧ μ t19 w = m) (l' := [(17, Value.slice (some ⟨b_1, 0, none⟩) 4 4), (18, Value.int .i64 ((4 : Nat) : Int)), (19, Value.int .i64 0)]) (Sub.mk (by kernel_rfl)) ⟨0, rfl, h0, rfl⟩ ?_
    rintro _ _ w3 ⟨t19, rfl, hI, rfl⟩
    obtain ⟨again_, again__h, h⟩ : ∃ again_ : Int → World → Prop, (∀ t19' w', again_ t19' w' → I t19' w' ∧ μ t19' w' < μ t19 w3) ∧ F_conf_Check_L0 R b_1 again_ t19 w3 := ⟨_, fun _ _ h => h, hr t19 w3 hI⟩
    clear h0 hI
    unfold F_conf_Check_L0 at h
    refine wpE_seq (x := c_conf_Check_10) (y := c_conf_Check_12) (by kernel_rfl) ?_
    refine wpE_region (id := 2) (ops := r_conf_Check_10) (by kernel_rfl) ?_
    refine reg_run [.plain] 1 [(17, [], Value.slice (some ⟨b_1, 0, none⟩) 4 4), (18, [], Value.int .i64 ((4 : Nat) : Int)), (19, [], Value.int .i64 t19), (20, [], Value.bool (decide (t19 < ((4 : Nat) : Int))))] (by kernel_rfl) (by kernel_rfl) ?_
    refine reg_end [(17, Value.slice (some ⟨b_1, 0, none⟩) 4 4), (18, Value.int .i64 ((4 : Nat) : Int)), (19, Value.int .i64 t19), (20, Value.bool (decide (t19 < ((4 : Nat) : Int))))] (by kernel_rfl) (by kernel_rfl) ?_
    change WpE _ _ c_conf_Check_12 _ _ _
    refine wpE_seq (x := c_conf_Check_13) (y := c_conf_Check_16) (by kernel_rfl) ?_
    refine wpE_cond (o := (Operand.tmp 20)) (b := (decide (t19 < ((4 : Nat) : Int)))) (x := c_conf_Check_14) (y := c_conf_Check_15) (by kernel_rfl) (by kernel_rfl) (fun hb => ?_) (fun hb => ?_)
    · replace h := h.1 hb
      refine wpE_skip (by kernel_rfl) ?_
      change WpE _ _ c_conf_Check_16 _ _ _
      refine wpE_seq (x := c_conf_Check_17) (y := c_conf_Check_30) (by kernel_rfl) ?_
      refine wpE_block (id := 1) (x := c_conf_Check_18) (by kernel_rfl) ?_
      refine wpE_seq (x := c_conf_Check_19) (y := c_conf_Check_21) (by kernel_rfl) ?_
      refine wpE_region (id := 3) (ops := r_conf_Check_19) (by kernel_rfl) ?_
      refine reg_run [] 0 [(17, [], Value.slice (some ⟨b_1, 0, none⟩) 4 4), (18, [], Value.int .i64 ((4 : Nat) : Int)), (19, [], Value.int .i64 t19)] (by kernel_rfl) (by kernel_rfl) ?_
      obtain ⟨h0, h1, h⟩ := h
      refine reg_indexS (t := 77) (e := 76) (x := (Go.Operand.tmp 17)) (ix := (Go.Operand.tmp 19)) (b := b_1) (o := 0) (l := 4) (c := 4) (k := .i64) (j := t19) (ty := 0) (dst := some 21) (sz := 2) (by kernel_rfl) (by kernel_rfl) (by kernel_rfl) (by kernel_rfl) (by kernel_rfl) h0 h1 ?_
      refine reg_run [] 1 [(17, [], Value.slice (some ⟨b_1, 0, none⟩) 4 4), (18, [], Value.int .i64 ((4 : Nat) : Int)), (19, [], Value.int .i64 t19), (21, [], Value.pointer (some ⟨b_1, 0 + t19.toNat * 2, none⟩))] (by kernel_rfl) (by kernel_rfl) ?_
      obtain ⟨v22, hc, h⟩ := h
      refine reg_loadN (t := 76) (a := (Go.Operand.tmp 21)) (b := b_1) (o := (0 + t19.toNat * 2)) (ty := 76) (dst := some 22) [Value.int .i64 v22.e0, Value.int .i64 v22.e1] (by kernel_rfl) (by kernel_rfl) (by kernel_rfl) (k := 2) (by kernel_rfl) (by kernel_rfl) hc ?_
      refine reg_run [] 2 [(17, [], Value.slice (some ⟨b_1, 0, none⟩) 4 4), (18, [], Value.int .i64 ((4 : Nat) : Int)), (19, [], Value.int .i64 t19), (22, [], Value.agg #[Value.int .i64 v22.e0, Value.int .i64 v22.e1])] (by kernel_rfl) (by kernel_rfl) ?_
      refine reg_new (op := (Go.Op.alloc 76)) (ty := 0) (dst := some 4) (fun bb => Value.pointer (some ⟨bb, 0, none⟩)) (Obj.cells ([Value.int .i64 0, Value.int .i64 0]).toArray ty_2_int (0, 0)) (by kernel_rfl) (by kernel_rfl) (fun b_2 w4 hb hw => ?_)
      replace h := h b_2 w4 hb hw
      clear hb hw
      refine reg_run [] 3 [(4, [], Value.pointer (some ⟨b_2, 0, none⟩)), (17, [], Value.slice (some ⟨b_1, 0, none⟩) 4 4), (18, [], Value.int .i64 ((4 : Nat) : Int)), (19, [], Value.int .i64 t19), (22, [], Value.agg #[Value.int .i64 v22.e0, Value.int .i64 v22.e1])] (by kernel_rfl) (by kernel_rfl) ?_
      obtain ⟨hc, h⟩ := h
      refine reg_store (t := 76) (a := (Go.Operand.tmp 4)) (x := (Go.Operand.tmp 22)) (b := b_2) (o := 0) (ty := 0) (dst := none) [Value.int .i64 v22.e0, Value.int .i64 v22.e1] (by kernel_rfl) (by kernel_rfl) (by kernel_rfl) (k := 2) (by kernel_rfl) (by kernel_rfl) (by kernel_rfl) hc (fun w5 hw => ?_)
      replace h := h w5 hw
      clear hw
      refine reg_end [(4, Value.pointer (some ⟨b_2, 0, none⟩)), (17, Value.slice (some ⟨b_1, 0, none⟩) 4 4), (18, Value.int .i64 ((4 : Nat) : Int)), (19, Value.int .i64 t19)] (by kernel_rfl) (by kernel_rfl) ?_
      change WpE _ _ c_conf_Check_21 _ _ _
      refine wpE_seq_cut (x := c_conf_Check_22) (y := c_conf_Check_24) (by kernel_rfl) (fun l w => ∃ (t32 : Bool), l = [(17, Value.slice (some ⟨b_1, 0, none⟩) 4 4), (18, Value.int .i64 ((4 : Nat) : Int)), (19, Value.int .i64 t19), (32, Value.bool t32)] ∧ F_conf_Check_k1 R t19 again_ t32 w) ?_ ?_
      · refine wpE_region (id := 4) (ops := r_conf_Check_22) (by kernel_rfl) ?_
        refine reg_run [] 0 [(4, [], Value.pointer (some ⟨b_2, 0, none⟩)), (17, [], Value.slice (some ⟨b_1, 0, none⟩) 4 4), (18, [], Value.int .i64 ((4 : Nat) : Int)), (19, [], Value.int .i64 t19)] (by kernel_rfl) (by kernel_rfl) ?_
        obtain ⟨h0, h1, h⟩ := h
        refine reg_indexA1 (t := 76) (e := 3) (x := (Go.Operand.tmp 4)) (ix := (Go.Operand.const (Go.Value.int Go.IntKind.i64 0))) (b := b_2) (o := 0) (len := 2) (k := .i64) (j := 0) (ty := 0) (dst := some 23) (by kernel_rfl) (by kernel_rfl) (by kernel_rfl) (by kernel_rfl) (by kernel_rfl) h0 h1 ?_
        refine reg_run [] 1 [(4, [], Value.pointer (some ⟨b_2, 0, none⟩)), (17, [], Value.slice (some ⟨b_1, 0, none⟩) 4 4), (18, [], Value.int .i64 ((4 : Nat) : Int)), (19, [], Value.int .i64 t19), (23, [], Value.pointer (some ⟨b_2, 0, none⟩))] (by kernel_rfl) (by kernel_rfl) ?_
        obtain ⟨v24, hc, h⟩ := h
        refine reg_load1 (t := 3) (a := (Go.Operand.tmp 23)) (b := b_2) (o := 0) (ty := 3) (dst := some 24) (by kernel_rfl) (by kernel_rfl) (by kernel_rfl) hc ?_
        refine reg_run [.plain, .plain] 4 [(4, [], Value.pointer (some ⟨b_2, 0, none⟩)), (17, [], Value.slice (some ⟨b_1, 0, none⟩) 4 4), (18, [], Value.int .i64 ((4 : Nat) : Int)), (19, [], Value.int .i64 t19), (26, [], Value.bool (decide (v24 < 1)))] (by kernel_rfl) (by kernel_rfl) ?_
        refine reg_split 26 (decide (v24 < 1)) (by kernel_rfl) (fun hb => ?_) (fun hb => ?_)
        · replace h := h.1 hb
          refine reg_run [] 4 [(4, [], Value.pointer (some ⟨b_2, 0, none⟩)), (17, [], Value.slice (some ⟨b_1, 0, none⟩) 4 4), (18, [], Value.int .i64 ((4 : Nat) : Int)), (19, [], Value.int .i64 t19), (26, [], Value.bool true)] (by kernel_rfl) (by kernel_rfl) ?_
          refine reg_run [.skip, .skip, .skip, .skip, .skip, .plain] 10 [(17, [], Value.slice (some ⟨b_1, 0, none⟩) 4 4), (18, [], Value.int .i64 ((4 : Nat) : Int)), (19, [], Value.int .i64 t19), (32, [], Value.bool true)] (by kernel_rfl) (by kernel_rfl) ?_
          refine reg_end [(17, Value.slice (some ⟨b_1, 0, none⟩) 4 4), (18, Value.int .i64 ((4 : Nat) : Int)), (19, Value.int .i64 t19), (32, Value.bool true)] (by kernel_rfl) (by kernel_rfl) ?_
          exact ⟨[(17, Value.slice (some ⟨b_1, 0, none⟩) 4 4), (18, Value.int .i64 ((4 : Nat) : Int)), (19, Value.int .i64 t19), (32, Value.bool true)], Sub.mk (by kernel_rfl), true, rfl, h⟩
        · replace h := h.2 hb
          refine reg_run [] 4 [(4, [], Value.pointer (some ⟨b_2, 0, none⟩)), (17, [], Value.slice (some ⟨b_1, 0, none⟩) 4 4), (18, [], Value.int .i64 ((4 : Nat) : Int)), (19, [], Value.int .i64 t19), (26, [], Value.bool false)] (by kernel_rfl) (by kernel_rfl) ?_
          refine reg_run [] 4 [(4, [], Value.pointer (some ⟨b_2, 0, none⟩)), (17, [], Value.slice (some ⟨b_1, 0, none⟩) 4 4), (18, [], Value.int .i64 ((4 : Nat) : Int)), (19, [], Value.int .i64 t19), (26, [], Value.bool false)] (by kernel_rfl) (by kernel_rfl) ?_
          obtain ⟨h0, h1, h⟩ := h
          refine reg_indexA1 (t := 76) (e := 3) (x := (Go.Operand.tmp 4)) (ix := (Go.Operand.const (Go.Value.int Go.IntKind.i64 0))) (b := b_2) (o := 0) (len := 2) (k := .i64) (j := 0) (ty := 0) (dst := some 27) (by kernel_rfl) (by kernel_rfl) (by kernel_rfl) (by kernel_rfl) (by kernel_rfl) h0 h1 ?_
          refine reg_run [] 5 [(4, [], Value.pointer (some ⟨b_2, 0, none⟩)), (17, [], Value.slice (some ⟨b_1, 0, none⟩) 4 4), (18, [], Value.int .i64 ((4 : Nat) : Int)), (19, [], Value.int .i64 t19), (26, [], Value.bool false), (27, [], Value.pointer (some ⟨b_2, 0, none⟩))] (by kernel_rfl) (by kernel_rfl) ?_
          obtain ⟨v28, hc, h⟩ := h
          refine reg_load1 (t := 3) (a := (Go.Operand.tmp 27)) (b := b_2) (o := 0) (ty := 3) (dst := some 28) (by kernel_rfl) (by kernel_rfl) (by kernel_rfl) hc ?_
          refine reg_run [] 6 [(4, [], Value.pointer (some ⟨b_2, 0, none⟩)), (17, [], Value.slice (some ⟨b_1, 0, none⟩) 4 4), (18, [], Value.int .i64 ((4 : Nat) : Int)), (19, [], Value.int .i64 t19), (26, [], Value.bool false), (28, [], Value.int .i64 v28)] (by kernel_rfl) (by kernel_rfl) ?_
          obtain ⟨h0, h1, h⟩ := h
          refine reg_indexA1 (t := 76) (e := 3) (x := (Go.Operand.tmp 4)) (ix := (Go.Operand.const (Go.Value.int Go.IntKind.i64 1))) (b := b_2) (o := 0) (len := 2) (k := .i64) (j := 1) (ty := 0) (dst := some 29) (by kernel_rfl) (by kernel_rfl) (by kernel_rfl) (by kernel_rfl) (by kernel_rfl) h0 h1 ?_
          refine reg_run [] 7 [(17, [], Value.slice (some ⟨b_1, 0, none⟩) 4 4), (18, [], Value.int .i64 ((4 : Nat) : Int)), (19, [], Value.int .i64 t19), (26, [], Value.bool false), (28, [], Value.int .i64 v28), (29, [], Value.pointer (some ⟨b_2, 1, none⟩))] (by kernel_rfl) (by kernel_rfl) ?_
          obtain ⟨v30, hc, h⟩ := h
          refine reg_load1 (t := 3) (a := (Go.Operand.tmp 29)) (b := b_2) (o := 1) (ty := 3) (dst := some 30) (by kernel_rfl) (by kernel_rfl) (by kernel_rfl) hc ?_
          refine reg_run [.sure, .plain] 10 [(17, [], Value.slice (some ⟨b_1, 0, none⟩) 4 4), (18, [], Value.int .i64 ((4 : Nat) : Int)), (19, [], Value.int .i64 t19), (32, [], Value.bool (decide (v28 > v30)))] (by kernel_rfl) (by kernel_rfl) ?_
          refine reg_end [(17, Value.slice (some ⟨b_1, 0, none⟩) 4 4), (18, Value.int .i64 ((4 : Nat) : Int)), (19, Value.int .i64 t19), (32, Value.bool (decide (v28 > v30)))] (by kernel_rfl) (by kernel_rfl) ?_
          exact ⟨[(17, Value.slice (some ⟨b_1, 0, none⟩) 4 4), (18, Value.int .i64 ((4 : Nat) : Int)), (19, Value.int .i64 t19), (32, Value.bool (decide (v28 > v30)))], Sub.mk (by kernel_rfl), (decide (v28 > v30)), rfl, h⟩
      · rintro _ w6 ⟨t32, rfl, h⟩
        unfold F_conf_Check_k1 at h
        refine wpE_cond (o := (Operand.tmp 32)) (b := t32) (x := c_conf_Check_25) (y := c_conf_Check_29) (by kernel_rfl) (by kernel_rfl) (fun hb => ?_) (fun hb => ?_)
        · replace h := h.1 hb
          refine wpE_seq (x := c_conf_Check_26) (y := c_conf_Check_28) (by kernel_rfl) ?_
          refine wpE_region (id := 5) (ops := r_conf_Check_26) (by kernel_rfl) ?_
          refine reg_run [.plain] 1 [(2, [], Value.int .i64 7)] (by kernel_rfl) (by kernel_rfl) ?_
          refine reg_end [(2, Value.int .i64 7)] (by kernel_rfl) (by kernel_rfl) ?_
          change WpE _ _ c_conf_Check_28 _ _ _
          refine wpE_ret (by kernel_rfl) ?_
          repeat (first | refine seqQ_ret ?_ | refine blockQ_ret ?_ | refine loopQ_ret ?_ | refine cutQ_ret ?_)
          exact retS (rs := [(Go.ResultVar.tmp 2)]) (v := Value.int .i64 7) (by kernel_rfl) (⟨by kernel_rfl, trivial⟩) ⟨7, rfl, h⟩
        · replace h := h.2 hb
          refine wpE_skip (by kernel_rfl) ?_
          change WpE _ _ c_conf_Check_30 _ _ _
          refine wpE_region (id := 6) (ops := r_conf_Check_30) (by kernel_rfl) ?_
          refine reg_run [.plain, .plain] 2 [(17, [], Value.slice (some ⟨b_1, 0, none⟩) 4 4), (18, [], Value.int .i64 ((4 : Nat) : Int)), (19, [], Value.int .i64 (IntKind.i64.wrap (t19 + 1)))] (by kernel_rfl) (by kernel_rfl) ?_
          refine reg_end [(17, Value.slice (some ⟨b_1, 0, none⟩) 4 4), (18, Value.int .i64 ((4 : Nat) : Int)), (19, Value.int .i64 (IntKind.i64.wrap (t19 + 1)))] (by kernel_rfl) (by kernel_rfl) ?_
          have hb_ := again__h _ _ h
          exact ⟨_, hb_.2, [(17, Value.slice (some ⟨b_1, 0, none⟩) 4 4), (18, Value.int .i64 ((4 : Nat) : Int)), (19, Value.int .i64 (IntKind.i64.wrap (t19 + 1)))], Sub.mk (by kernel_rfl), (IntKind.i64.wrap (t19 + 1)), rfl, hb_.1, rfl⟩
    · replace h := h.2 hb
      refine wpE_exit (id := 0) (by kernel_rfl) ?_
      change WpE _ _ c_conf_Check_32 _ _ _
      refine wpE_seq (x := c_conf_Check_33) (y := c_conf_Check_35) (by kernel_rfl) ?_
      refine wpE_region (id := 7) (ops := r_conf_Check_33) (by kernel_rfl) ?_
      refine reg_run [.plain] 1 [(2, [], Value.int .i64 0)] (by kernel_rfl) (by kernel_rfl) ?_
      refine reg_end [(2, Value.int .i64 0)] (by kernel_rfl) (by kernel_rfl) ?_
      change WpE _ _ c_conf_Check_35 _ _ _
      refine wpE_ret (by kernel_rfl) ?_
      repeat (first | refine seqQ_ret ?_ | refine blockQ_ret ?_ | refine loopQ_ret ?_ | refine cutQ_ret ?_)
      exact retS (rs := [(Go.ResultVar.tmp 2)]) (v := Value.int .i64 0) (by kernel_rfl) (⟨by kernel_rfl, trivial⟩) ⟨0, rfl, h⟩
  · rintro e w' ⟨v, rfl, r0, rfl, h⟩; exact ⟨r0, rfl, h⟩

/-! ### towpath/conf.Tasks (function 17) -/
noncomputable def c_conf_Tasks_0 : Code := (Try.f17.body).getD Code.skip
noncomputable def c_conf_Tasks_1 : Code := Code.l c_conf_Tasks_0
noncomputable def r_conf_Tasks_1 : Array Oper := Code.ops c_conf_Tasks_1
noncomputable def c_conf_Tasks_3 : Code := Code.r c_conf_Tasks_0
noncomputable def c_conf_Tasks_4 : Code := Code.l c_conf_Tasks_3
noncomputable def c_conf_Tasks_5 : Code := Code.l c_conf_Tasks_4
noncomputable def r_conf_Tasks_5 : Array Oper := Code.ops c_conf_Tasks_5
noncomputable def c_conf_Tasks_7 : Code := Code.r c_conf_Tasks_4
noncomputable def c_conf_Tasks_8 : Code := Code.l c_conf_Tasks_7
noncomputable def r_conf_Tasks_8 : Array Oper := Code.ops c_conf_Tasks_8
noncomputable def c_conf_Tasks_10 : Code := Code.r c_conf_Tasks_7
noncomputable def c_conf_Tasks_11 : Code := Code.l c_conf_Tasks_10
noncomputable def c_conf_Tasks_12 : Code := Code.l c_conf_Tasks_11
noncomputable def r_conf_Tasks_12 : Array Oper := Code.ops c_conf_Tasks_12
noncomputable def c_conf_Tasks_14 : Code := Code.r c_conf_Tasks_11
noncomputable def c_conf_Tasks_15 : Code := Code.r c_conf_Tasks_10
noncomputable def c_conf_Tasks_16 : Code := Code.r c_conf_Tasks_3
noncomputable def c_conf_Tasks_17 : Code := Code.l c_conf_Tasks_16
noncomputable def r_conf_Tasks_17 : Array Oper := Code.ops c_conf_Tasks_17
noncomputable def c_conf_Tasks_19 : Code := Code.r c_conf_Tasks_16

set_option maxRecDepth 100000 in
set_option maxHeartbeats 4000000 in
theorem S_conf_Tasks {c : T_api_Config} {w : World} {R : Int → Int → World → Prop} (h : F_conf_Tasks c R w) : C_conf_Tasks c w R := by
  unfold F_conf_Tasks at h
  unfold C_conf_Tasks
  refine Calls.mono (calls_of_wpE (args := [Value.agg #[Value.int .i64 c.Lanes, Value.int .i64 c.Shards, Value.int .i64 c.Window, Value.int .i64 c.Queue]]) (R := fun v w' => ∃ (r0 : Int) (r1 : Int), v = Value.tuple #[Value.int .i64 r0, Value.int .i64 r1] ∧ R r0 r1 w') Try.func17 (c := c_conf_Tasks_0) (by kernel_rfl) 16 (by kernel_rfl) (by kernel_rfl) [(0, Value.agg #[Value.int .i64 c.Lanes, Value.int .i64 c.Shards, Value.int .i64 c.Window, Value.int .i64 c.Queue])] (by kernel_rfl) ?_) ?_
  · refine wpE_seq (x := c_conf_Tasks_1) (y := c_conf_Tasks_3) (by kernel_rfl) ?_
    refine wpE_region (id := 0) (ops := r_conf_Tasks_1) (by kernel_rfl) ?_
    refine reg_run [] 0 [(0, [], Value.agg #[Value.int .i64 c.Lanes, Value.int .i64 c.Shards, Value.int .i64 c.Window, Value.int .i64 c.Queue])] (by kernel_rfl) (by kernel_rfl) ?_
    refine reg_new (op := (Go.Op.box 23 (Go.Operand.tmp 0))) (ty := 0) (dst := some 1) (fun bb => Value.pointer (some ⟨bb, 0, none⟩)) (Obj.cells ([Value.int .i64 c.Lanes, Value.int .i64 c.Shards, Value.int .i64 c.Window, Value.int .i64 c.Queue]).toArray ty_api_Config (0, 0)) (by kernel_rfl) (by kernel_rfl) (fun b_ w1 hb hw => ?_)
    replace h := h b_ w1 hb hw
    clear hb hw
    refine reg_run [.plain, .plain] 3 [(1, [], Value.pointer (some ⟨b_, 0, none⟩))] (by kernel_rfl) (by kernel_rfl) ?_
    refine reg_end [(1, Value.pointer (some ⟨b_, 0, none⟩))] (by kernel_rfl) (by kernel_rfl) ?_
    change WpE _ _ c_conf_Tasks_3 _ _ _
    refine wpE_seq (x := c_conf_Tasks_4) (y := c_conf_Tasks_16) (by kernel_rfl) ?_
    refine wpE_seq (x := c_conf_Tasks_5) (y := c_conf_Tasks_7) (by kernel_rfl) ?_
    refine wpE_region (id := 1) (ops := r_conf_Tasks_5) (by kernel_rfl) ?_
    refine reg_run [] 0 [(1, [], Value.pointer (some ⟨b_, 0, none⟩))] (by kernel_rfl) (by kernel_rfl) ?_
    obtain ⟨v5, hc, h⟩ := h
    refine reg_loadN (t := 23) (a := (Go.Operand.tmp 1)) (b := b_) (o := 0) (ty := 23) (dst := some 5) [Value.int .i64 v5.Lanes, Value.int .i64 v5.Shards, Value.int .i64 v5.Window, Value.int .i64 v5.Queue] (by kernel_rfl) (by kernel_rfl) (by kernel_rfl) (k := 4) (by kernel_rfl) (by kernel_rfl) hc ?_
    refine reg_run [] 1 [(1, [], Value.pointer (some ⟨b_, 0, none⟩)), (5, [], Value.agg #[Value.int .i64 v5.Lanes, Value.int .i64 v5.Shards, Value.int .i64 v5.Window, Value.int .i64 v5.Queue])] (by kernel_rfl) (by kernel_rfl) ?_
    refine reg_enter (op := (Go.Op.call (Go.Call.mk (Go.Callee.value (Go.Operand.func 15)) #[(Go.Operand.tmp 5)] #[23]))) (ty := 25) (dst := some 6) 15 #[Value.agg #[Value.int .i64 v5.Lanes, Value.int .i64 v5.Shards, Value.int .i64 v5.Window, Value.int .i64 v5.Queue]] (by kernel_rfl) (fun ww => by kernel_rfl) (Calls.mono h ?_)
    rintro _ w2 ⟨v6, rfl, h⟩
    refine ⟨_, rfl, ?_⟩
    refine reg_run [.plain] 3 [(1, [], Value.pointer (some ⟨b_, 0, none⟩)), (4, [], Value.int .i64 v6)] (by kernel_rfl) (by kernel_rfl) ?_
    refine reg_end [(1, Value.pointer (some ⟨b_, 0, none⟩)), (4, Value.int .i64 v6)] (by kernel_rfl) (by kernel_rfl) ?_
    change WpE _ _ c_conf_Tasks_7 _ _ _
    refine wpE_seq (x := c_conf_Tasks_8) (y := c_conf_Tasks_10) (by kernel_rfl) ?_
    refine wpE_region (id := 2) (ops := r_conf_Tasks_8) (by kernel_rfl) ?_
    refine reg_run [.plain, .plain] 2 [(1, [], Value.pointer (some ⟨b_, 0, none⟩)), (4, [], Value.int .i64 v6), (8, [], Value.bool (v6 != 0))] (by kernel_rfl) (by kernel_rfl) ?_
    refine reg_end [(1, Value.pointer (some ⟨b_, 0, none⟩)), (4, Value.int .i64 v6), (8, Value.bool (v6 != 0))] (by kernel_rfl) (by kernel_rfl) ?_
    change WpE _ _ c_conf_Tasks_10 _ _ _
    refine wpE_cond (o := (Operand.tmp 8)) (b := (v6 != 0)) (x := c_conf_Tasks_11) (y := c_conf_Tasks_15) (by kernel_rfl) (by kernel_rfl) (fun hb => ?_) (fun hb => ?_)
    · replace h := h.1 hb
      refine wpE_seq (x := c_conf_Tasks_12) (y := c_conf_Tasks_14) (by kernel_rfl) ?_
      refine wpE_region (id := 3) (ops := r_conf_Tasks_12) (by kernel_rfl) ?_
      refine reg_run [.plain, .plain, .plain] 3 [(2, [], Value.int .i64 0), (3, [], Value.int .i64 v6)] (by kernel_rfl) (by kernel_rfl) ?_
      refine reg_end [(2, Value.int .i64 0), (3, Value.int .i64 v6)] (by kernel_rfl) (by kernel_rfl) ?_
      change WpE _ _ c_conf_Tasks_14 _ _ _
      refine wpE_ret (by kernel_rfl) ?_
      repeat (first | refine seqQ_ret ?_ | refine blockQ_ret ?_ | refine loopQ_ret ?_ | refine cutQ_ret ?_)
      exact retT (rs := [(Go.ResultVar.tmp 2), (Go.ResultVar.tmp 3)]) (vs := [Value.int .i64 0, Value.int .i64 v6]) (by kernel_rfl) (⟨by kernel_rfl, ⟨by kernel_rfl, trivial⟩⟩) (by kernel_rfl) ⟨0, v6, rfl, h⟩
    · replace h := h.2 hb
      refine wpE_skip (by kernel_rfl) ?_
      change WpE _ _ c_conf_Tasks_16 _ _ _
      refine wpE_seq (x := c_conf_Tasks_17) (y := c_conf_Tasks_19) (by kernel_rfl) ?_
      refine wpE_region (id := 4) (ops := r_conf_Tasks_17) (by kernel_rfl) ?_
      refine reg_run [.plain] 1 [(1, [], Value.pointer (some ⟨b_, 0, none⟩)), (10, [], Value.pointer (some ⟨b_, 0, none⟩))] (by kernel_rfl) (by kernel_rfl) ?_
      obtain ⟨v11, hc, h⟩ := h
      refine reg_load1 (t := 3) (a := (Go.Operand.tmp 10)) (b := b_) (o := 0) (ty := 3) (dst := some 11) (by kernel_rfl) (by kernel_rfl) (by kernel_rfl) hc ?_
      refine reg_run [.plain] 3 [(11, [], Value.int .i64 v11), (12, [], Value.pointer (some ⟨b_, 1, none⟩))] (by kernel_rfl) (by kernel_rfl) ?_
      obtain ⟨v13, hc, h⟩ := h
      refine reg_load1 (t := 3) (a := (Go.Operand.tmp 12)) (b := b_) (o := 1) (ty := 3) (dst := some 13) (by kernel_rfl) (by kernel_rfl) (by kernel_rfl) hc ?_
      refine reg_run [.plain, .plain, .plain, .plain] 8 [(2, [], Value.int .i64 (IntKind.i64.wrap ((IntKind.i64.wrap (v11 + v13)) + 2))), (3, [], Value.int .i64 0)] (by kernel_rfl) (by kernel_rfl) ?_
      refine reg_end [(2, Value.int .i64 (IntKind.i64.wrap ((IntKind.i64.wrap (v11 + v13)) + 2))), (3, Value.int .i64 0)] (by kernel_rfl) (by kernel_rfl) ?_
      change WpE _ _ c_conf_Tasks_19 _ _ _
      refine wpE_ret (by kernel_rfl) ?_
      repeat (first | refine seqQ_ret ?_ | refine blockQ_ret ?_ | refine loopQ_ret ?_ | refine cutQ_ret ?_)
      exact retT (rs := [(Go.ResultVar.tmp 2), (Go.ResultVar.tmp 3)]) (vs := [Value.int .i64 (IntKind.i64.wrap ((IntKind.i64.wrap (v11 + v13)) + 2)), Value.int .i64 0]) (by kernel_rfl) (⟨by kernel_rfl, ⟨by kernel_rfl, trivial⟩⟩) (by kernel_rfl) ⟨(IntKind.i64.wrap ((IntKind.i64.wrap (v11 + v13)) + 2)), 0, rfl, h⟩
  · rintro e w' ⟨v, rfl, r0, r1, rfl, h⟩; exact ⟨r0, r1, rfl, h⟩

/-! ### towpath/conf.Name (function 19) -/
noncomputable def c_conf_Name_0 : Code := (Try.f19.body).getD Code.skip
noncomputable def c_conf_Name_1 : Code := Code.l c_conf_Name_0
noncomputable def r_conf_Name_1 : Array Oper := Code.ops c_conf_Name_1
noncomputable def c_conf_Name_3 : Code := Code.r c_conf_Name_0
noncomputable def c_conf_Name_4 : Code := Code.l c_conf_Name_3
noncomputable def r_conf_Name_4 : Array Oper := Code.ops c_conf_Name_4
noncomputable def c_conf_Name_6 : Code := Code.r c_conf_Name_3
noncomputable def c_conf_Name_7 : Code := Code.l c_conf_Name_6
noncomputable def c_conf_Name_8 : Code := Code.l c_conf_Name_7
noncomputable def r_conf_Name_8 : Array Oper := Code.ops c_conf_Name_8
noncomputable def c_conf_Name_10 : Code := Code.r c_conf_Name_7
noncomputable def c_conf_Name_11 : Code := Code.l c_conf_Name_10
noncomputable def c_conf_Name_12 : Code := Code.l c_conf_Name_11
noncomputable def r_conf_Name_12 : Array Oper := Code.ops c_conf_Name_12
noncomputable def c_conf_Name_14 : Code := Code.r c_conf_Name_11
noncomputable def c_conf_Name_15 : Code := Code.r c_conf_Name_10
noncomputable def c_conf_Name_16 : Code := Code.r c_conf_Name_6
noncomputable def c_conf_Name_17 : Code := Code.l c_conf_Name_16
noncomputable def r_conf_Name_17 : Array Oper := Code.ops c_conf_Name_17
noncomputable def c_conf_Name_19 : Code := Code.r c_conf_Name_16
noncomputable def c_conf_Name_20 : Code := Code.l c_conf_Name_19
noncomputable def c_conf_Name_21 : Code := Code.l c_conf_Name_20
noncomputable def c_conf_Name_22 : Code := Code.l c_conf_Name_21
noncomputable def c_conf_Name_23 : Code := Code.l c_conf_Name_22
noncomputable def c_conf_Name_24 : Code := Code.l c_conf_Name_23
noncomputable def c_conf_Name_25 : Code := Code.l c_conf_Name_24
noncomputable def c_conf_Name_26 : Code := Code.l c_conf_Name_25
noncomputable def c_conf_Name_27 : Code := Code.l c_conf_Name_26
noncomputable def c_conf_Name_28 : Code := Code.l c_conf_Name_27
noncomputable def c_conf_Name_29 : Code := Code.l c_conf_Name_28
noncomputable def c_conf_Name_30 : Code := Code.l c_conf_Name_29
noncomputable def c_conf_Name_31 : Code := Code.l c_conf_Name_30
noncomputable def c_conf_Name_32 : Code := Code.l c_conf_Name_31
noncomputable def c_conf_Name_33 : Code := Code.l c_conf_Name_32
noncomputable def c_conf_Name_34 : Code := Code.l c_conf_Name_33
noncomputable def c_conf_Name_35 : Code := Code.l c_conf_Name_34
noncomputable def c_conf_Name_36 : Code := Code.l c_conf_Name_35
noncomputable def r_conf_Name_36 : Array Oper := Code.ops c_conf_Name_36
noncomputable def c_conf_Name_38 : Code := Code.r c_conf_Name_35
noncomputable def c_conf_Name_39 : Code := Code.l c_conf_Name_38
noncomputable def c_conf_Name_40 : Code := Code.r c_conf_Name_38
noncomputable def c_conf_Name_41 : Code := Code.r c_conf_Name_34
noncomputable def c_conf_Name_42 : Code := Code.l c_conf_Name_41
noncomputable def c_conf_Name_43 : Code := Code.l c_conf_Name_42
noncomputable def r_conf_Name_43 : Array Oper := Code.ops c_conf_Name_43
noncomputable def c_conf_Name_45 : Code := Code.r c_conf_Name_42
noncomputable def c_conf_Name_46 : Code := Code.l c_conf_Name_45
noncomputable def c_conf_Name_47 : Code := Code.r c_conf_Name_45
noncomputable def c_conf_Name_48 : Code := Code.r c_conf_Name_41
noncomputable def c_conf_Name_49 : Code := Code.l c_conf_Name_48
noncomputable def c_conf_Name_50 : Code := Code.l c_conf_Name_49
noncomputable def r_conf_Name_50 : Array Oper := Code.ops c_conf_Name_50
noncomputable def c_conf_Name_52 : Code := Code.r c_conf_Name_49
noncomputable def c_conf_Name_53 : Code := Code.l c_conf_Name_52
noncomputable def c_conf_Name_54 : Code := Code.r c_conf_Name_52
noncomputable def c_conf_Name_55 : Code := Code.r c_conf_Name_48
noncomputable def c_conf_Name_56 : Code := Code.l c_conf_Name_55
noncomputable def c_conf_Name_57 : Code := Code.l c_conf_Name_56
noncomputable def r_conf_Name_57 : Array Oper := Code.ops c_conf_Name_57
noncomputable def c_conf_Name_59 : Code := Code.r c_conf_Name_56
noncomputable def c_conf_Name_60 : Code := Code.l c_conf_Name_59
noncomputable def c_conf_Name_61 : Code := Code.r c_conf_Name_59
noncomputable def c_conf_Name_62 : Code := Code.r c_conf_Name_55
noncomputable def c_conf_Name_63 : Code := Code.l c_conf_Name_62
noncomputable def r_conf_Name_63 : Array Oper := Code.ops c_conf_Name_63
noncomputable def c_conf_Name_65 : Code := Code.r c_conf_Name_62
noncomputable def c_conf_Name_66 : Code := Code.l c_conf_Name_65
noncomputable def c_conf_Name_67 : Code := Code.r c_conf_Name_65
noncomputable def c_conf_Name_68 : Code := Code.r c_conf_Name_33
noncomputable def c_conf_Name_69 : Code := Code.r c_conf_Name_31
noncomputable def c_conf_Name_70 : Code := Code.l c_conf_Name_69
noncomputable def c_conf_Name_71 : Code := Code.l c_conf_Name_70
noncomputable def r_conf_Name_71 : Array Oper := Code.ops c_conf_Name_71
noncomputable def c_conf_Name_73 : Code := Code.r c_conf_Name_70
noncomputable def c_conf_Name_74 : Code := Code.r c_conf_Name_69
noncomputable def c_conf_Name_75 : Code := Code.r c_conf_Name_29
noncomputable def c_conf_Name_76 : Code := Code.l c_conf_Name_75
noncomputable def r_conf_Name_76 : Array Oper := Code.ops c_conf_Name_76
noncomputable def c_conf_Name_78 : Code := Code.r c_conf_Name_75
noncomputable def c_conf_Name_79 : Code := Code.r c_conf_Name_27
noncomputable def c_conf_Name_80 : Code := Code.l c_conf_Name_79
noncomputable def r_conf_Name_80 : Array Oper := Code.ops c_conf_Name_80
noncomputable def c_conf_Name_82 : Code := Code.r c_conf_Name_79
noncomputable def c_conf_Name_83 : Code := Code.r c_conf_Name_25
noncomputable def c_conf_Name_84 : Code := Code.l c_conf_Name_83
noncomputable def r_conf_Name_84 : Array Oper := Code.ops c_conf_Name_84
noncomputable def c_conf_Name_86 : Code := Code.r c_conf_Name_83
noncomputable def c_conf_Name_87 : Code := Code.r c_conf_Name_23
noncomputable def r_conf_Name_87 : Array Oper := Code.ops c_conf_Name_87
noncomputable def c_conf_Name_89 : Code := Code.r c_conf_Name_21
noncomputable def c_conf_Name_90 : Code := Code.r c_conf_Name_19
noncomputable def c_conf_Name_91 : Code := Code.l c_conf_Name_90
noncomputable def r_conf_Name_91 : Array Oper := Code.ops c_conf_Name_91
noncomputable def c_conf_Name_93 : Code := Code.r c_conf_Name_90

set_option maxRecDepth 100000 in
set_option maxHeartbeats 4000000 in
theorem S_conf_Name {c : T_api_Config} {task : Int} {w : World} {R : ByteArray → Int → Int → World → Prop} (h : F_conf_Name c task R w) : C_conf_Name c task w R := by
  unfold F_conf_Name at h
  unfold C_conf_Name
  refine Calls.mono (calls_of_wpE (args := [Value.agg #[Value.int .i64 c.Lanes, Value.int .i64 c.Shards, Value.int .i64 c.Window, Value.int .i64 c.Queue], Value.int .i64 task]) (R := fun v w' => ∃ (r0 : ByteArray) (r1 : Int) (r2 : Int), v = Value.tuple #[Value.string r0, Value.int .i64 r1, Value.int .i64 r2] ∧ R r0 r1 r2 w') Try.func19 (c := c_conf_Name_0) (by kernel_rfl) 49 (by kernel_rfl) (by kernel_rfl) [(0, Value.agg #[Value.int .i64 c.Lanes, Value.int .i64 c.Shards, Value.int .i64 c.Window, Value.int .i64 c.Queue]), (1, Value.int .i64 task)] (by kernel_rfl) ?_) ?_
  · refine wpE_seq (x := c_conf_Name_1) (y := c_conf_Name_3) (by kernel_rfl) ?_
    refine wpE_region (id := 0) (ops := r_conf_Name_1) (by kernel_rfl) ?_
    refine reg_run [] 0 [(0, [], Value.agg #[Value.int .i64 c.Lanes, Value.int .i64 c.Shards, Value.int .i64 c.Window, Value.int .i64 c.Queue]), (1, [], Value.int .i64 task)] (by kernel_rfl) (by kernel_rfl) ?_
    refine reg_new (op := (Go.Op.box 23 (Go.Operand.tmp 0))) (ty := 0) (dst := some 2) (fun bb => Value.pointer (some ⟨bb, 0, none⟩)) (Obj.cells ([Value.int .i64 c.Lanes, Value.int .i64 c.Shards, Value.int .i64 c.Window, Value.int .i64 c.Queue]).toArray ty_api_Config (0, 0)) (by kernel_rfl) (by kernel_rfl) (fun b_ w1 hb hw => ?_)
    replace h := h b_ w1 hb hw
    clear hb hw
    refine reg_run [.plain, .plain, .plain] 4 [(1, [], Value.int .i64 task), (2, [], Value.pointer (some ⟨b_, 0, none⟩))] (by kernel_rfl) (by kernel_rfl) ?_
    refine reg_end [(1, Value.int .i64 task), (2, Value.pointer (some ⟨b_, 0, none⟩))] (by kernel_rfl) (by kernel_rfl) ?_
    change WpE _ _ c_conf_Name_3 _ _ _
    refine wpE_seq (x := c_conf_Name_4) (y := c_conf_Name_6) (by kernel_rfl) ?_
    refine wpE_region (id := 1) (ops := r_conf_Name_4) (by kernel_rfl) ?_
    refine reg_run [] 0 [(1, [], Value.int .i64 task), (2, [], Value.pointer (some ⟨b_, 0, none⟩))] (by kernel_rfl) (by kernel_rfl) ?_
    obtain ⟨v12, hc, h⟩ := h
    refine reg_loadN (t := 23) (a := (Go.Operand.tmp 2)) (b := b_) (o := 0) (ty := 23) (dst := some 12) [Value.int .i64 v12.Lanes, Value.int .i64 v12.Shards, Value.int .i64 v12.Window, Value.int .i64 v12.Queue] (by kernel_rfl) (by kernel_rfl) (by kernel_rfl) (k := 4) (by kernel_rfl) (by kernel_rfl) hc ?_
    refine reg_run [] 1 [(1, [], Value.int .i64 task), (2, [], Value.pointer (some ⟨b_, 0, none⟩)), (12, [], Value.agg #[Value.int .i64 v12.Lanes, Value.int .i64 v12.Shards, Value.int .i64 v12.Window, Value.int .i64 v12.Queue])] (by kernel_rfl) (by kernel_rfl) ?_
    refine reg_enter (op := (Go.Op.call (Go.Call.mk (Go.Callee.value (Go.Operand.func 17)) #[(Go.Operand.tmp 12)] #[23]))) (ty := 26) (dst := some 13) 17 #[Value.agg #[Value.int .i64 v12.Lanes, Value.int .i64 v12.Shards, Value.int .i64 v12.Window, Value.int .i64 v12.Queue]] (by kernel_rfl) (fun ww => by kernel_rfl) (Calls.mono h ?_)
    rintro _ w2 ⟨n_, e, rfl, h⟩
    refine ⟨_, rfl, ?_⟩
    refine reg_run [.plain, .plain, .plain, .plain, .plain] 7 [(1, [], Value.int .i64 task), (2, [], Value.pointer (some ⟨b_, 0, none⟩)), (7, [], Value.int .i64 n_), (8, [], Value.int .i64 e)] (by kernel_rfl) (by kernel_rfl) ?_
    refine reg_end [(1, Value.int .i64 task), (2, Value.pointer (some ⟨b_, 0, none⟩)), (7, Value.int .i64 n_), (8, Value.int .i64 e)] (by kernel_rfl) (by kernel_rfl) ?_
    change WpE _ _ c_conf_Name_6 _ _ _
    refine wpE_seq (x := c_conf_Name_7) (y := c_conf_Name_16) (by kernel_rfl) ?_
    refine wpE_seq (x := c_conf_Name_8) (y := c_conf_Name_10) (by kernel_rfl) ?_
    refine wpE_region (id := 2) (ops := r_conf_Name_8) (by kernel_rfl) ?_
    refine reg_run [.plain, .plain] 2 [(1, [], Value.int .i64 task), (2, [], Value.pointer (some ⟨b_, 0, none⟩)), (7, [], Value.int .i64 n_), (8, [], Value.int .i64 e), (17, [], Value.bool (e != 0))] (by kernel_rfl) (by kernel_rfl) ?_
    refine reg_end [(1, Value.int .i64 task), (2, Value.pointer (some ⟨b_, 0, none⟩)), (7, Value.int .i64 n_), (8, Value.int .i64 e), (17, Value.bool (e != 0))] (by kernel_rfl) (by kernel_rfl) ?_
    change WpE _ _ c_conf_Name_10 _ _ _
    refine wpE_cond (o := (Operand.tmp 17)) (b := (e != 0)) (x := c_conf_Name_11) (y := c_conf_Name_15) (by kernel_rfl) (by kernel_rfl) (fun hb => ?_) (fun hb => ?_)
    · replace h := h.1 hb
      refine wpE_seq (x := c_conf_Name_12) (y := c_conf_Name_14) (by kernel_rfl) ?_
      refine wpE_region (id := 3) (ops := r_conf_Name_12) (by kernel_rfl) ?_
      refine reg_run [.plain, .plain, .plain, .plain] 4 [(4, [], Value.string ByteArray.empty), (5, [], Value.int .i64 0), (6, [], Value.int .i64 e)] (by kernel_rfl) (by kernel_rfl) ?_
      refine reg_end [(4, Value.string ByteArray.empty), (5, Value.int .i64 0), (6, Value.int .i64 e)] (by kernel_rfl) (by kernel_rfl) ?_
      change WpE _ _ c_conf_Name_14 _ _ _
      refine wpE_ret (by kernel_rfl) ?_
      repeat (first | refine seqQ_ret ?_ | refine blockQ_ret ?_ | refine loopQ_ret ?_ | refine cutQ_ret ?_)
      exact retT (rs := [(Go.ResultVar.tmp 4), (Go.ResultVar.tmp 5), (Go.ResultVar.tmp 6)]) (vs := [Value.string ByteArray.empty, Value.int .i64 0, Value.int .i64 e]) (by kernel_rfl) (⟨by kernel_rfl, ⟨by kernel_rfl, ⟨by kernel_rfl, trivial⟩⟩⟩) (by kernel_rfl) ⟨ByteArray.empty, 0, e, rfl, h⟩
    · replace h := h.2 hb
      refine wpE_skip (by kernel_rfl) ?_
      change WpE _ _ c_conf_Name_16 _ _ _
      refine wpE_seq (x := c_conf_Name_17) (y := c_conf_Name_19) (by kernel_rfl) ?_
      refine wpE_region (id := 4) (ops := r_conf_Name_17) (by kernel_rfl) ?_
      refine reg_run [.plain, .plain] 2 [(1, [], Value.int .i64 task), (2, [], Value.pointer (some ⟨b_, 0, none⟩)), (7, [], Value.int .i64 n_), (9, [], Value.int .i64 3), (10, [], Value.int .i64 0)] (by kernel_rfl) (by kernel_rfl) ?_
      refine reg_end [(1, Value.int .i64 task), (2, Value.pointer (some ⟨b_, 0, none⟩)), (7, Value.int .i64 n_), (9, Value.int .i64 3), (10, Value.int .i64 0)] (by kernel_rfl) (by kernel_rfl) ?_
      change WpE _ _ c_conf_Name_19 _ _ _
      refine wpE_seq_cut (x := c_conf_Name_20) (y := c_conf_Name_90) (by kernel_rfl) (fun l w => ∃ (kind : Int) (which : Int), l = [(9, Value.int .i64 kind), (10, Value.int .i64 which)] ∧ F_conf_Name_k0 R kind which w) ?_ ?_
      · refine wpE_block (id := 0) (x := c_conf_Name_21) (by kernel_rfl) ?_
        refine wpE_seq_cut (x := c_conf_Name_22) (y := c_conf_Name_89) (by kernel_rfl) (fun l w => ∃ (kind1 : Int) (which1 : Int), l = [(9, Value.int .i64 kind1), (10, Value.int .i64 which1)] ∧ F_conf_Name_k1 R kind1 which1 w) ?_ ?_
        · refine wpE_block (id := 6) (x := c_conf_Name_23) (by kernel_rfl) ?_
          refine wpE_seq (x := c_conf_Name_24) (y := c_conf_Name_87) (by kernel_rfl) ?_
          refine wpE_block (id := 5) (x := c_conf_Name_25) (by kernel_rfl) ?_
          refine wpE_seq (x := c_conf_Name_26) (y := c_conf_Name_83) (by kernel_rfl) ?_
          refine wpE_block (id := 4) (x := c_conf_Name_27) (by kernel_rfl) ?_
          refine wpE_seq (x := c_conf_Name_28) (y := c_conf_Name_79) (by kernel_rfl) ?_
          refine wpE_block (id := 3) (x := c_conf_Name_29) (by kernel_rfl) ?_
          refine wpE_seq (x := c_conf_Name_30) (y := c_conf_Name_75) (by kernel_rfl) ?_
          refine wpE_block (id := 2) (x := c_conf_Name_31) (by kernel_rfl) ?_
          refine wpE_seq (x := c_conf_Name_32) (y := c_conf_Name_69) (by kernel_rfl) ?_
          refine wpE_block (id := 1) (x := c_conf_Name_33) (by kernel_rfl) ?_
          refine wpE_seq (x := c_conf_Name_34) (y := c_conf_Name_68) (by kernel_rfl) ?_
          refine wpE_seq (x := c_conf_Name_35) (y := c_conf_Name_41) (by kernel_rfl) ?_
          refine wpE_seq (x := c_conf_Name_36) (y := c_conf_Name_38) (by kernel_rfl) ?_
          refine wpE_region (id := 5) (ops := r_conf_Name_36) (by kernel_rfl) ?_
          refine reg_run [.plain, .plain, .plain, .plain] 4 [(1, [], Value.int .i64 task), (2, [], Value.pointer (some ⟨b_, 0, none⟩)), (7, [], Value.int .i64 n_), (9, [], Value.int .i64 3), (10, [], Value.int .i64 0), (19, [], Value.bool (decide (task ≥ n_)))] (by kernel_rfl) (by kernel_rfl) ?_
          refine reg_end [(1, Value.int .i64 task), (2, Value.pointer (some ⟨b_, 0, none⟩)), (7, Value.int .i64 n_), (9, Value.int .i64 3), (10, Value.int .i64 0), (19, Value.bool (decide (task ≥ n_)))] (by kernel_rfl) (by kernel_rfl) ?_
          change WpE _ _ c_conf_Name_38 _ _ _
          refine wpE_cond (o := (Operand.tmp 19)) (b := (decide (task ≥ n_))) (x := c_conf_Name_39) (y := c_conf_Name_40) (by kernel_rfl) (by kernel_rfl) (fun hb => ?_) (fun hb => ?_)
          · replace h := h.1 hb
            refine wpE_exit (id := 1) (by kernel_rfl) ?_
            change WpE _ _ c_conf_Name_69 _ _ _
            refine wpE_seq (x := c_conf_Name_70) (y := c_conf_Name_74) (by kernel_rfl) ?_
            refine wpE_seq (x := c_conf_Name_71) (y := c_conf_Name_73) (by kernel_rfl) ?_
            refine wpE_region (id := 10) (ops := r_conf_Name_71) (by kernel_rfl) ?_
            refine reg_run [.plain, .plain, .plain] 3 [(4, [], Value.string ByteArray.empty), (5, [], Value.int .i64 0), (6, [], Value.int .i64 1)] (by kernel_rfl) (by kernel_rfl) ?_
            refine reg_end [(4, Value.string ByteArray.empty), (5, Value.int .i64 0), (6, Value.int .i64 1)] (by kernel_rfl) (by kernel_rfl) ?_
            change WpE _ _ c_conf_Name_73 _ _ _
            refine wpE_ret (by kernel_rfl) ?_
            repeat (first | refine seqQ_ret ?_ | refine blockQ_ret ?_ | refine loopQ_ret ?_ | refine cutQ_ret ?_)
            exact retT (rs := [(Go.ResultVar.tmp 4), (Go.ResultVar.tmp 5), (Go.ResultVar.tmp 6)]) (vs := [Value.string ByteArray.empty, Value.int .i64 0, Value.int .i64 1]) (by kernel_rfl) (⟨by kernel_rfl, ⟨by kernel_rfl, ⟨by kernel_rfl, trivial⟩⟩⟩) (by kernel_rfl) ⟨ByteArray.empty, 0, 1, rfl, h⟩
          · replace h := h.2 hb
            refine wpE_skip (by kernel_rfl) ?_
            change WpE _ _ c_conf_Name_41 _ _ _
            refine wpE_seq (x := c_conf_Name_42) (y := c_conf_Name_48) (by kernel_rfl) ?_
            refine wpE_seq (x := c_conf_Name_43) (y := c_conf_Name_45) (by kernel_rfl) ?_
            refine wpE_region (id := 6) (ops := r_conf_Name_43) (by kernel_rfl) ?_
            refine reg_run [.plain, .plain, .plain] 3 [(1, [], Value.int .i64 task), (2, [], Value.pointer (some ⟨b_, 0, none⟩)), (7, [], Value.int .i64 n_), (9, [], Value.int .i64 3), (10, [], Value.int .i64 0), (23, [], Value.bool (decide (task < 0)))] (by kernel_rfl) (by kernel_rfl) ?_
            refine reg_end [(1, Value.int .i64 task), (2, Value.pointer (some ⟨b_, 0, none⟩)), (7, Value.int .i64 n_), (9, Value.int .i64 3), (10, Value.int .i64 0), (23, Value.bool (decide (task < 0)))] (by kernel_rfl) (by kernel_rfl) ?_
            change WpE _ _ c_conf_Name_45 _ _ _
            refine wpE_cond (o := (Operand.tmp 23)) (b := (decide (task < 0))) (x := c_conf_Name_46) (y := c_conf_Name_47) (by kernel_rfl) (by kernel_rfl) (fun hb => ?_) (fun hb => ?_)
            · replace h := h.1 hb
              refine wpE_exit (id := 2) (by kernel_rfl) ?_
              change WpE _ _ c_conf_Name_75 _ _ _
              refine wpE_seq (x := c_conf_Name_76) (y := c_conf_Name_78) (by kernel_rfl) ?_
              refine wpE_region (id := 11) (ops := r_conf_Name_76) (by kernel_rfl) ?_
              refine reg_run [.plain, .plain, .plain] 3 [(9, [], Value.int .i64 4), (10, [], Value.int .i64 task)] (by kernel_rfl) (by kernel_rfl) ?_
              refine reg_end [(9, Value.int .i64 4), (10, Value.int .i64 task)] (by kernel_rfl) (by kernel_rfl) ?_
              change WpE _ _ c_conf_Name_78 _ _ _
              refine wpE_exit (id := 0) (by kernel_rfl) ?_
              exact ⟨[(9, Value.int .i64 4), (10, Value.int .i64 task)], Sub.mk (by kernel_rfl), 4, task, rfl, h⟩
            · replace h := h.2 hb
              refine wpE_skip (by kernel_rfl) ?_
              change WpE _ _ c_conf_Name_48 _ _ _
              refine wpE_seq (x := c_conf_Name_49) (y := c_conf_Name_55) (by kernel_rfl) ?_
              refine wpE_seq (x := c_conf_Name_50) (y := c_conf_Name_52) (by kernel_rfl) ?_
              refine wpE_region (id := 7) (ops := r_conf_Name_50) (by kernel_rfl) ?_
              refine reg_run [.plain, .plain, .plain] 3 [(1, [], Value.int .i64 task), (2, [], Value.pointer (some ⟨b_, 0, none⟩)), (7, [], Value.int .i64 n_), (9, [], Value.int .i64 3), (10, [], Value.int .i64 0), (26, [], Value.bool (task == 0))] (by kernel_rfl) (by kernel_rfl) ?_
              refine reg_end [(1, Value.int .i64 task), (2, Value.pointer (some ⟨b_, 0, none⟩)), (7, Value.int .i64 n_), (9, Value.int .i64 3), (10, Value.int .i64 0), (26, Value.bool (task == 0))] (by kernel_rfl) (by kernel_rfl) ?_
              change WpE _ _ c_conf_Name_52 _ _ _
              refine wpE_cond (o := (Operand.tmp 26)) (b := (task == 0)) (x := c_conf_Name_53) (y := c_conf_Name_54) (by kernel_rfl) (by kernel_rfl) (fun hb => ?_) (fun hb => ?_)
              · replace h := h.1 hb
                refine wpE_exit (id := 3) (by kernel_rfl) ?_
                change WpE _ _ c_conf_Name_79 _ _ _
                refine wpE_seq (x := c_conf_Name_80) (y := c_conf_Name_82) (by kernel_rfl) ?_
                refine wpE_region (id := 12) (ops := r_conf_Name_80) (by kernel_rfl) ?_
                refine reg_run [.plain] 1 [(9, [], Value.int .i64 0), (10, [], Value.int .i64 0)] (by kernel_rfl) (by kernel_rfl) ?_
                refine reg_end [(9, Value.int .i64 0), (10, Value.int .i64 0)] (by kernel_rfl) (by kernel_rfl) ?_
                change WpE _ _ c_conf_Name_82 _ _ _
                refine wpE_exit (id := 0) (by kernel_rfl) ?_
                exact ⟨[(9, Value.int .i64 0), (10, Value.int .i64 0)], Sub.mk (by kernel_rfl), 0, 0, rfl, h⟩
              · replace h := h.2 hb
                refine wpE_skip (by kernel_rfl) ?_
                change WpE _ _ c_conf_Name_55 _ _ _
                refine wpE_seq (x := c_conf_Name_56) (y := c_conf_Name_62) (by kernel_rfl) ?_
                refine wpE_seq (x := c_conf_Name_57) (y := c_conf_Name_59) (by kernel_rfl) ?_
                refine wpE_region (id := 8) (ops := r_conf_Name_57) (by kernel_rfl) ?_
                refine reg_run [.plain, .plain] 2 [(1, [], Value.int .i64 task), (2, [], Value.pointer (some ⟨b_, 0, none⟩)), (7, [], Value.int .i64 n_), (9, [], Value.int .i64 3), (10, [], Value.int .i64 0), (30, [], Value.int .i64 task), (31, [], Value.pointer (some ⟨b_, 0, none⟩))] (by kernel_rfl) (by kernel_rfl) ?_
                obtain ⟨v32, hc, h⟩ := h
                refine reg_load1 (t := 3) (a := (Go.Operand.tmp 31)) (b := b_) (o := 0) (ty := 3) (dst := some 32) (by kernel_rfl) (by kernel_rfl) (by kernel_rfl) hc ?_
                refine reg_run [.plain, .plain] 5 [(1, [], Value.int .i64 task), (2, [], Value.pointer (some ⟨b_, 0, none⟩)), (7, [], Value.int .i64 n_), (9, [], Value.int .i64 3), (10, [], Value.int .i64 0), (29, [], Value.bool (decide (task ≤ v32)))] (by kernel_rfl) (by kernel_rfl) ?_
                refine reg_end [(1, Value.int .i64 task), (2, Value.pointer (some ⟨b_, 0, none⟩)), (7, Value.int .i64 n_), (9, Value.int .i64 3), (10, Value.int .i64 0), (29, Value.bool (decide (task ≤ v32)))] (by kernel_rfl) (by kernel_rfl) ?_
                change WpE _ _ c_conf_Name_59 _ _ _
                refine wpE_cond (o := (Operand.tmp 29)) (b := (decide (task ≤ v32))) (x := c_conf_Name_60) (y := c_conf_Name_61) (by kernel_rfl) (by kernel_rfl) (fun hb => ?_) (fun hb => ?_)
                · replace h := h.1 hb
                  refine wpE_exit (id := 4) (by kernel_rfl) ?_
                  change WpE _ _ c_conf_Name_83 _ _ _
                  refine wpE_seq (x := c_conf_Name_84) (y := c_conf_Name_86) (by kernel_rfl) ?_
                  refine wpE_region (id := 13) (ops := r_conf_Name_84) (by kernel_rfl) ?_
                  refine reg_run [.plain, .plain, .plain] 3 [(9, [], Value.int .i64 1), (10, [], Value.int .i64 task)] (by kernel_rfl) (by kernel_rfl) ?_
                  refine reg_end [(9, Value.int .i64 1), (10, Value.int .i64 task)] (by kernel_rfl) (by kernel_rfl) ?_
                  change WpE _ _ c_conf_Name_86 _ _ _
                  refine wpE_exit (id := 0) (by kernel_rfl) ?_
                  exact ⟨[(9, Value.int .i64 1), (10, Value.int .i64 task)], Sub.mk (by kernel_rfl), 1, task, rfl, h⟩
                · replace h := h.2 hb
                  refine wpE_skip (by kernel_rfl) ?_
                  change WpE _ _ c_conf_Name_62 _ _ _
                  refine wpE_seq (x := c_conf_Name_63) (y := c_conf_Name_65) (by kernel_rfl) ?_
                  refine wpE_region (id := 9) (ops := r_conf_Name_63) (by kernel_rfl) ?_
                  refine reg_run [.plain, .plain, .plain, .plain, .plain] 5 [(1, [], Value.int .i64 task), (2, [], Value.pointer (some ⟨b_, 0, none⟩)), (9, [], Value.int .i64 3), (10, [], Value.int .i64 0), (34, [], Value.bool (decide (task < (IntKind.i64.wrap (n_ - 1)))))] (by kernel_rfl) (by kernel_rfl) ?_
                  refine reg_end [(1, Value.int .i64 task), (2, Value.pointer (some ⟨b_, 0, none⟩)), (9, Value.int .i64 3), (10, Value.int .i64 0), (34, Value.bool (decide (task < (IntKind.i64.wrap (n_ - 1)))))] (by kernel_rfl) (by kernel_rfl) ?_
                  change WpE _ _ c_conf_Name_65 _ _ _
                  refine wpE_cond (o := (Operand.tmp 34)) (b := (decide (task < (IntKind.i64.wrap (n_ - 1))))) (x := c_conf_Name_66) (y := c_conf_Name_67) (by kernel_rfl) (by kernel_rfl) (fun hb => ?_) (fun hb => ?_)
                  · replace h := h.1 hb
                    refine wpE_exit (id := 5) (by kernel_rfl) ?_
                    change WpE _ _ c_conf_Name_87 _ _ _
                    refine wpE_drawregion (id := 14) (ops := r_conf_Name_87) (by kernel_rfl) (by kernel_rfl) (by kernel_rfl) ?_
                    refine qreg_run [.plain, .plain] 2 [(9, [], Value.int .i64 3), (10, [], Value.int .i64 0), (41, [], Value.int .i64 task), (42, [], Value.pointer (some ⟨b_, 0, none⟩))] (by kernel_rfl) (by kernel_rfl) ?_
                    obtain ⟨v43, hc, h⟩ := h
                    refine qreg_load1 (t := 3) (a := (Go.Operand.tmp 42)) (b := b_) (o := 0) (ty := 3) (dst := some 43) (by kernel_rfl) (by kernel_rfl) (by kernel_rfl) hc ?_
                    refine qreg_run [.plain, .plain, .plain, .plain] 7 [(9, [], Value.int .i64 2), (10, [], Value.int .i64 (IntKind.i64.wrap ((IntKind.i64.wrap (task - v43)) - 1)))] (by kernel_rfl) (by kernel_rfl) ?_
                    refine qreg_end [(9, Value.int .i64 2), (10, Value.int .i64 (IntKind.i64.wrap ((IntKind.i64.wrap (task - v43)) - 1)))] (by kernel_rfl) (by kernel_rfl) (fun w6 hw => ?_)
                    replace h := h w6 hw
                    clear hw
                    exact ⟨[(9, Value.int .i64 2), (10, Value.int .i64 (IntKind.i64.wrap ((IntKind.i64.wrap (task - v43)) - 1)))], Sub.mk (by kernel_rfl), 2, (IntKind.i64.wrap ((IntKind.i64.wrap (task - v43)) - 1)), rfl, h⟩
                  · replace h := h.2 hb
                    refine wpE_skip (by kernel_rfl) ?_
                    change WpE _ _ c_conf_Name_68 _ _ _
                    refine wpE_exit (id := 6) (by kernel_rfl) ?_
                    exact ⟨[(9, Value.int .i64 3), (10, Value.int .i64 0)], Sub.mk (by kernel_rfl), 3, 0, rfl, h⟩
        · rintro _ w5 ⟨kind1, which1, rfl, h⟩
          unfold F_conf_Name_k1 at h
          refine wpE_exit (id := 0) (by kernel_rfl) ?_
          exact ⟨[(9, Value.int .i64 kind1), (10, Value.int .i64 which1)], Sub.mk (by kernel_rfl), kind1, which1, rfl, h⟩
      · rintro _ w3 ⟨kind, which, rfl, h⟩
        unfold F_conf_Name_k0 at h
        refine wpE_seq (x := c_conf_Name_91) (y := c_conf_Name_93) (by kernel_rfl) ?_
        refine wpE_region (id := 15) (ops := r_conf_Name_91) (by kernel_rfl) ?_
        refine reg_run [.plain] 1 [(10, [], Value.int .i64 which), (46, [], Value.int .i64 kind)] (by kernel_rfl) (by kernel_rfl) ?_
        refine reg_enter (op := (Go.Op.call (Go.Call.mk (Go.Callee.value (Go.Operand.func 46)) #[(Go.Operand.tmp 46)] #[3]))) (ty := 9) (dst := some 47) 46 #[Value.int .i64 kind] (by kernel_rfl) (fun ww => by kernel_rfl) (Calls.mono h ?_)
        rintro _ w4 ⟨v47, rfl, h⟩
        refine ⟨_, rfl, ?_⟩
        refine reg_run [.plain, .plain, .plain, .plain] 6 [(4, [], Value.string v47), (5, [], Value.int .i64 which), (6, [], Value.int .i64 0)] (by kernel_rfl) (by kernel_rfl) ?_
        refine reg_end [(4, Value.string v47), (5, Value.int .i64 which), (6, Value.int .i64 0)] (by kernel_rfl) (by kernel_rfl) ?_
        change WpE _ _ c_conf_Name_93 _ _ _
        refine wpE_ret (by kernel_rfl) ?_
        repeat (first | refine seqQ_ret ?_ | refine blockQ_ret ?_ | refine loopQ_ret ?_ | refine cutQ_ret ?_)
        exact retT (rs := [(Go.ResultVar.tmp 4), (Go.ResultVar.tmp 5), (Go.ResultVar.tmp 6)]) (vs := [Value.string v47, Value.int .i64 which, Value.int .i64 0]) (by kernel_rfl) (⟨by kernel_rfl, ⟨by kernel_rfl, ⟨by kernel_rfl, trivial⟩⟩⟩) (by kernel_rfl) ⟨v47, which, 0, rfl, h⟩
  · rintro e w' ⟨v, rfl, r0, r1, r2, rfl, h⟩; exact ⟨r0, r1, r2, rfl, h⟩

/-! ### towpath/conf.name (function 46) -/
noncomputable def c_conf_name_0 : Code := (Try.f46.body).getD Code.skip
noncomputable def c_conf_name_1 : Code := Code.l c_conf_name_0
noncomputable def r_conf_name_1 : Array Oper := Code.ops c_conf_name_1
noncomputable def c_conf_name_3 : Code := Code.r c_conf_name_0
noncomputable def c_conf_name_4 : Code := Code.l c_conf_name_3
noncomputable def r_conf_name_4 : Array Oper := Code.ops c_conf_name_4
noncomputable def c_conf_name_6 : Code := Code.r c_conf_name_3

set_option maxRecDepth 100000 in
set_option maxHeartbeats 4000000 in
theorem S_conf_name {kind : Int} {w : World} {R : ByteArray → World → Prop} (h : F_conf_name kind R w) : C_conf_name kind w R := by
  unfold F_conf_name at h
  unfold C_conf_name
  refine Calls.mono (calls_of_wpE (args := [Value.int .i64 kind]) (R := fun v w' => ∃ (r0 : ByteArray), v = Value.string r0 ∧ R r0 w') Try.func46 (c := c_conf_name_0) (by kernel_rfl) 6 (by kernel_rfl) (by kernel_rfl) [(0, Value.int .i64 kind)] (by kernel_rfl) ?_) ?_
  · refine wpE_seq (x := c_conf_name_1) (y := c_conf_name_3) (by kernel_rfl) ?_
    refine wpE_region (id := 0) (ops := r_conf_name_1) (by kernel_rfl) ?_
    refine reg_run [.plain] 1 [(0, [], Value.int .i64 kind)] (by kernel_rfl) (by kernel_rfl) ?_
    refine reg_end [(0, Value.int .i64 kind)] (by kernel_rfl) (by kernel_rfl) ?_
    change WpE _ _ c_conf_name_3 _ _ _
    refine wpE_seq (x := c_conf_name_4) (y := c_conf_name_6) (by kernel_rfl) ?_
    refine wpE_region (id := 1) (ops := r_conf_name_4) (by kernel_rfl) ?_
    refine reg_run [.plain, .plain] 2 [(3, [], Value.agg #[Value.string (ByteArray.mk #[100, 105, 115, 112, 97, 116, 99, 104, 101, 114]), Value.string (ByteArray.mk #[108, 97, 110, 101]), Value.string (ByteArray.mk #[111, 119, 110, 101, 114]), Value.string (ByteArray.mk #[103, 97, 116, 101]), Value.string (ByteArray.mk #[99, 97, 108, 108])]), (4, [], Value.int .i64 kind)] (by kernel_rfl) (by kernel_rfl) ?_
    obtain ⟨h0, h1, h⟩ := h
    refine reg_indexArr (t := 88) (e := 9) (x := (Go.Operand.tmp 3)) (ix := (Go.Operand.tmp 4)) (k := .i64) (j := kind) (ty := 9) (dst := some 5) (len := 5) (fun xx => Value.string xx) ([(ByteArray.mk #[100, 105, 115, 112, 97, 116, 99, 104, 101, 114]), (ByteArray.mk #[108, 97, 110, 101]), (ByteArray.mk #[111, 119, 110, 101, 114]), (ByteArray.mk #[103, 97, 116, 101]), (ByteArray.mk #[99, 97, 108, 108])] : List ByteArray) ByteArray.empty (by kernel_rfl) (by kernel_rfl) (by kernel_rfl) (by kernel_rfl) (by kernel_rfl) (by kernel_rfl) (by kernel_rfl) h0 h1 ?_
    refine reg_run [.plain] 4 [(2, [], Value.string (([(ByteArray.mk #[100, 105, 115, 112, 97, 116, 99, 104, 101, 114]), (ByteArray.mk #[108, 97, 110, 101]), (ByteArray.mk #[111, 119, 110, 101, 114]), (ByteArray.mk #[103, 97, 116, 101]), (ByteArray.mk #[99, 97, 108, 108])] : List ByteArray).getD kind.toNat ByteArray.empty))] (by kernel_rfl) (by kernel_rfl) ?_
    refine reg_end [(2, Value.string (([(ByteArray.mk #[100, 105, 115, 112, 97, 116, 99, 104, 101, 114]), (ByteArray.mk #[108, 97, 110, 101]), (ByteArray.mk #[111, 119, 110, 101, 114]), (ByteArray.mk #[103, 97, 116, 101]), (ByteArray.mk #[99, 97, 108, 108])] : List ByteArray).getD kind.toNat ByteArray.empty))] (by kernel_rfl) (by kernel_rfl) ?_
    change WpE _ _ c_conf_name_6 _ _ _
    refine wpE_ret (by kernel_rfl) ?_
    repeat (first | refine seqQ_ret ?_ | refine blockQ_ret ?_ | refine loopQ_ret ?_ | refine cutQ_ret ?_)
    exact retS (rs := [(Go.ResultVar.tmp 2)]) (v := Value.string (([(ByteArray.mk #[100, 105, 115, 112, 97, 116, 99, 104, 101, 114]), (ByteArray.mk #[108, 97, 110, 101]), (ByteArray.mk #[111, 119, 110, 101, 114]), (ByteArray.mk #[103, 97, 116, 101]), (ByteArray.mk #[99, 97, 108, 108])] : List ByteArray).getD kind.toNat ByteArray.empty)) (by kernel_rfl) (⟨by kernel_rfl, trivial⟩) ⟨(([(ByteArray.mk #[100, 105, 115, 112, 97, 116, 99, 104, 101, 114]), (ByteArray.mk #[108, 97, 110, 101]), (ByteArray.mk #[111, 119, 110, 101, 114]), (ByteArray.mk #[103, 97, 116, 101]), (ByteArray.mk #[99, 97, 108, 108])] : List ByteArray).getD kind.toNat ByteArray.empty), rfl, h⟩
  · rintro e w' ⟨v, rfl, r0, rfl, h⟩; exact ⟨r0, rfl, h⟩
end Go.Proofs.Ytchcljkflklddaa
