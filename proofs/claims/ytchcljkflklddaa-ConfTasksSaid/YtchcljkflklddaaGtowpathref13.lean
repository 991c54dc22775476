/- WRITTEN BY PROGRAM (dec.py): for each Go function the clean formula F, the call's contract C, and the proof S that F gives C. -/
import Derived.Test.YtchcljkflklddaaRows
import Derived.Test.YtchcljkflklddaaGF
namespace Go.Proofs.Ytchcljkflklddaa
open Go
set_option linter.unusedVariables false

/-! ### towpath/towpathref13.Shard (function 14) -/
noncomputable def c_towpathref13_Shard_0 : Code := (Try.f14.body).getD Code.skip
noncomputable def c_towpathref13_Shard_1 : Code := Code.l c_towpathref13_Shard_0
noncomputable def r_towpathref13_Shard_1 : Array Oper := Code.ops c_towpathref13_Shard_1
noncomputable def c_towpathref13_Shard_3 : Code := Code.r c_towpathref13_Shard_0
noncomputable def c_towpathref13_Shard_4 : Code := Code.l c_towpathref13_Shard_3
noncomputable def r_towpathref13_Shard_4 : Array Oper := Code.ops c_towpathref13_Shard_4
noncomputable def c_towpathref13_Shard_6 : Code := Code.r c_towpathref13_Shard_3
noncomputable def c_towpathref13_Shard_7 : Code := Code.l c_towpathref13_Shard_6
noncomputable def c_towpathref13_Shard_8 : Code := Code.l c_towpathref13_Shard_7
noncomputable def r_towpathref13_Shard_8 : Array Oper := Code.ops c_towpathref13_Shard_8
noncomputable def c_towpathref13_Shard_10 : Code := Code.r c_towpathref13_Shard_7
noncomputable def c_towpathref13_Shard_11 : Code := Code.l c_towpathref13_Shard_10
noncomputable def c_towpathref13_Shard_12 : Code := Code.l c_towpathref13_Shard_11
noncomputable def r_towpathref13_Shard_12 : Array Oper := Code.ops c_towpathref13_Shard_12
noncomputable def c_towpathref13_Shard_14 : Code := Code.r c_towpathref13_Shard_11
noncomputable def c_towpathref13_Shard_15 : Code := Code.r c_towpathref13_Shard_10
noncomputable def c_towpathref13_Shard_16 : Code := Code.r c_towpathref13_Shard_6
noncomputable def c_towpathref13_Shard_17 : Code := Code.l c_towpathref13_Shard_16
noncomputable def c_towpathref13_Shard_18 : Code := Code.l c_towpathref13_Shard_17
noncomputable def r_towpathref13_Shard_18 : Array Oper := Code.ops c_towpathref13_Shard_18
noncomputable def c_towpathref13_Shard_20 : Code := Code.r c_towpathref13_Shard_17
noncomputable def c_towpathref13_Shard_21 : Code := Code.l c_towpathref13_Shard_20
noncomputable def c_towpathref13_Shard_22 : Code := Code.l c_towpathref13_Shard_21
noncomputable def r_towpathref13_Shard_22 : Array Oper := Code.ops c_towpathref13_Shard_22
noncomputable def c_towpathref13_Shard_24 : Code := Code.r c_towpathref13_Shard_21
noncomputable def c_towpathref13_Shard_25 : Code := Code.r c_towpathref13_Shard_20
noncomputable def c_towpathref13_Shard_26 : Code := Code.r c_towpathref13_Shard_16
noncomputable def c_towpathref13_Shard_27 : Code := Code.l c_towpathref13_Shard_26
noncomputable def r_towpathref13_Shard_27 : Array Oper := Code.ops c_towpathref13_Shard_27
noncomputable def c_towpathref13_Shard_29 : Code := Code.r c_towpathref13_Shard_26

set_option maxRecDepth 100000 in
set_option maxHeartbeats 4000000 in
theorem S_towpathref13_Shard {c : T_api_Config} {key : ByteArray} {w : World} {R : Int → Int → World → Prop} (h : F_towpathref13_Shard c key R w) : C_towpathref13_Shard c key w R := by
  unfold F_towpathref13_Shard at h
  unfold C_towpathref13_Shard
  refine Calls.mono (calls_of_wpE (args := [Value.agg #[Value.int .i64 c.Lanes, Value.int .i64 c.Shards, Value.int .i64 c.Window, Value.int .i64 c.Queue], Value.string key]) (R := fun v w' => ∃ (r0 : Int) (r1 : Int), v = Value.tuple #[Value.int .i64 r0, Value.int .i64 r1] ∧ R r0 r1 w') Try.func14 (c := c_towpathref13_Shard_0) (by kernel_rfl) 22 (by kernel_rfl) (by kernel_rfl) [(0, Value.agg #[Value.int .i64 c.Lanes, Value.int .i64 c.Shards, Value.int .i64 c.Window, Value.int .i64 c.Queue]), (1, Value.string key)] (by kernel_rfl) ?_) ?_
  · refine wpE_seq (x := c_towpathref13_Shard_1) (y := c_towpathref13_Shard_3) (by kernel_rfl) ?_
    refine wpE_region (id := 0) (ops := r_towpathref13_Shard_1) (by kernel_rfl) ?_
    refine reg_run [] 0 [(0, [], Value.agg #[Value.int .i64 c.Lanes, Value.int .i64 c.Shards, Value.int .i64 c.Window, Value.int .i64 c.Queue]), (1, [], Value.string key)] (by kernel_rfl) (by kernel_rfl) ?_
    refine reg_new (op := (Go.Op.box 23 (Go.Operand.tmp 0))) (ty := 0) (dst := some 2) (fun bb => Value.pointer (some ⟨bb, 0, none⟩)) (Obj.cells ([Value.int .i64 c.Lanes, Value.int .i64 c.Shards, Value.int .i64 c.Window, Value.int .i64 c.Queue]).toArray ty_api_Config (0, 0)) (by kernel_rfl) (by kernel_rfl) (fun b_ w1 hb hw => ?_)
    replace h := h b_ w1 hb hw
    clear hb hw
    refine reg_run [.plain, .plain] 3 [(1, [], Value.string key), (2, [], Value.pointer (some ⟨b_, 0, none⟩))] (by kernel_rfl) (by kernel_rfl) ?_
    refine reg_end [(1, Value.string key), (2, Value.pointer (some ⟨b_, 0, none⟩))] (by kernel_rfl) (by kernel_rfl) ?_
    change WpE _ _ c_towpathref13_Shard_3 _ _ _
    refine wpE_seq (x := c_towpathref13_Shard_4) (y := c_towpathref13_Shard_6) (by kernel_rfl) ?_
    refine wpE_region (id := 1) (ops := r_towpathref13_Shard_4) (by kernel_rfl) ?_
    refine reg_run [] 0 [(1, [], Value.string key), (2, [], Value.pointer (some ⟨b_, 0, none⟩))] (by kernel_rfl) (by kernel_rfl) ?_
    obtain ⟨v7, hc, h⟩ := h
    refine reg_loadN (t := 23) (a := (Go.Operand.tmp 2)) (b := b_) (o := 0) (ty := 23) (dst := some 7) [Value.int .i64 v7.Lanes, Value.int .i64 v7.Shards, Value.int .i64 v7.Window, Value.int .i64 v7.Queue] (by kernel_rfl) (by kernel_rfl) (by kernel_rfl) (k := 4) (by kernel_rfl) (by kernel_rfl) hc ?_
    refine reg_run [] 1 [(1, [], Value.string key), (2, [], Value.pointer (some ⟨b_, 0, none⟩)), (7, [], Value.agg #[Value.int .i64 v7.Lanes, Value.int .i64 v7.Shards, Value.int .i64 v7.Window, Value.int .i64 v7.Queue])] (by kernel_rfl) (by kernel_rfl) ?_
    refine reg_enter (op := (Go.Op.call (Go.Call.mk (Go.Callee.value (Go.Operand.func 16)) #[(Go.Operand.tmp 7)] #[23]))) (ty := 25) (dst := some 8) 16 #[Value.agg #[Value.int .i64 v7.Lanes, Value.int .i64 v7.Shards, Value.int .i64 v7.Window, Value.int .i64 v7.Queue]] (by kernel_rfl) (fun ww => by kernel_rfl) (Calls.mono h ?_)
    rintro _ w2 ⟨v8, rfl, h⟩
    refine ⟨_, rfl, ?_⟩
    refine reg_run [.plain] 3 [(1, [], Value.string key), (2, [], Value.pointer (some ⟨b_, 0, none⟩)), (6, [], Value.int .i64 v8)] (by kernel_rfl) (by kernel_rfl) ?_
    refine reg_end [(1, Value.string key), (2, Value.pointer (some ⟨b_, 0, none⟩)), (6, Value.int .i64 v8)] (by kernel_rfl) (by kernel_rfl) ?_
    change WpE _ _ c_towpathref13_Shard_6 _ _ _
    refine wpE_seq (x := c_towpathref13_Shard_7) (y := c_towpathref13_Shard_16) (by kernel_rfl) ?_
    refine wpE_seq (x := c_towpathref13_Shard_8) (y := c_towpathref13_Shard_10) (by kernel_rfl) ?_
    refine wpE_region (id := 2) (ops := r_towpathref13_Shard_8) (by kernel_rfl) ?_
    refine reg_run [.plain, .plain] 2 [(1, [], Value.string key), (2, [], Value.pointer (some ⟨b_, 0, none⟩)), (6, [], Value.int .i64 v8), (10, [], Value.bool (v8 != 0))] (by kernel_rfl) (by kernel_rfl) ?_
    refine reg_end [(1, Value.string key), (2, Value.pointer (some ⟨b_, 0, none⟩)), (6, Value.int .i64 v8), (10, Value.bool (v8 != 0))] (by kernel_rfl) (by kernel_rfl) ?_
    change WpE _ _ c_towpathref13_Shard_10 _ _ _
    refine wpE_cond (o := (Operand.tmp 10)) (b := (v8 != 0)) (x := c_towpathref13_Shard_11) (y := c_towpathref13_Shard_15) (by kernel_rfl) (by kernel_rfl) (fun hb => ?_) (fun hb => ?_)
    · replace h := h.1 hb
      refine wpE_seq (x := c_towpathref13_Shard_12) (y := c_towpathref13_Shard_14) (by kernel_rfl) ?_
      refine wpE_region (id := 3) (ops := r_towpathref13_Shard_12) (by kernel_rfl) ?_
      refine reg_run [.plain, .plain, .plain] 3 [(4, [], Value.int .i64 0), (5, [], Value.int .i64 v8)] (by kernel_rfl) (by kernel_rfl) ?_
      refine reg_end [(4, Value.int .i64 0), (5, Value.int .i64 v8)] (by kernel_rfl) (by kernel_rfl) ?_
      change WpE _ _ c_towpathref13_Shard_14 _ _ _
      refine wpE_ret (by kernel_rfl) ?_
      repeat (first | refine seqQ_ret ?_ | refine blockQ_ret ?_ | refine loopQ_ret ?_ | refine cutQ_ret ?_)
      exact retT (rs := [(Go.ResultVar.tmp 4), (Go.ResultVar.tmp 5)]) (vs := [Value.int .i64 0, Value.int .i64 v8]) (by kernel_rfl) (⟨by kernel_rfl, ⟨by kernel_rfl, trivial⟩⟩) (by kernel_rfl) ⟨0, v8, rfl, h⟩
    · replace h := h.2 hb
      refine wpE_skip (by kernel_rfl) ?_
      change WpE _ _ c_towpathref13_Shard_16 _ _ _
      refine wpE_seq (x := c_towpathref13_Shard_17) (y := c_towpathref13_Shard_26) (by kernel_rfl) ?_
      refine wpE_seq (x := c_towpathref13_Shard_18) (y := c_towpathref13_Shard_20) (by kernel_rfl) ?_
      refine wpE_region (id := 4) (ops := r_towpathref13_Shard_18) (by kernel_rfl) ?_
      refine reg_run [.plain] 1 [(1, [], Value.string key), (2, [], Value.pointer (some ⟨b_, 0, none⟩)), (12, [], Value.string key)] (by kernel_rfl) (by kernel_rfl) ?_
      refine reg_enter (op := (Go.Op.call (Go.Call.mk (Go.Callee.value (Go.Operand.func 43)) #[(Go.Operand.tmp 12)] #[9]))) (ty := 4) (dst := some 13) 43 #[Value.string key] (by kernel_rfl) (fun ww => by kernel_rfl) (Calls.mono h ?_)
      rintro _ w3 ⟨v13, rfl, h⟩
      refine ⟨_, rfl, ?_⟩
      refine reg_run [.plain] 3 [(1, [], Value.string key), (2, [], Value.pointer (some ⟨b_, 0, none⟩)), (14, [], Value.bool (!v13))] (by kernel_rfl) (by kernel_rfl) ?_
      refine reg_end [(1, Value.string key), (2, Value.pointer (some ⟨b_, 0, none⟩)), (14, Value.bool (!v13))] (by kernel_rfl) (by kernel_rfl) ?_
      change WpE _ _ c_towpathref13_Shard_20 _ _ _
      refine wpE_cond (o := (Operand.tmp 14)) (b := (!v13)) (x := c_towpathref13_Shard_21) (y := c_towpathref13_Shard_25) (by kernel_rfl) (by kernel_rfl) (fun hb => ?_) (fun hb => ?_)
      · replace h := h.1 hb
        refine wpE_seq (x := c_towpathref13_Shard_22) (y := c_towpathref13_Shard_24) (by kernel_rfl) ?_
        refine wpE_region (id := 5) (ops := r_towpathref13_Shard_22) (by kernel_rfl) ?_
        refine reg_run [.plain, .plain] 2 [(4, [], Value.int .i64 0), (5, [], Value.int .i64 1)] (by kernel_rfl) (by kernel_rfl) ?_
        refine reg_end [(4, Value.int .i64 0), (5, Value.int .i64 1)] (by kernel_rfl) (by kernel_rfl) ?_
        change WpE _ _ c_towpathref13_Shard_24 _ _ _
        refine wpE_ret (by kernel_rfl) ?_
        repeat (first | refine seqQ_ret ?_ | refine blockQ_ret ?_ | refine loopQ_ret ?_ | refine cutQ_ret ?_)
        exact retT (rs := [(Go.ResultVar.tmp 4), (Go.ResultVar.tmp 5)]) (vs := [Value.int .i64 0, Value.int .i64 1]) (by kernel_rfl) (⟨by kernel_rfl, ⟨by kernel_rfl, trivial⟩⟩) (by kernel_rfl) ⟨0, 1, rfl, h⟩
      · replace h := h.2 hb
        refine wpE_skip (by kernel_rfl) ?_
        change WpE _ _ c_towpathref13_Shard_26 _ _ _
        refine wpE_seq (x := c_towpathref13_Shard_27) (y := c_towpathref13_Shard_29) (by kernel_rfl) ?_
        refine wpE_drawregion (id := 6) (ops := r_towpathref13_Shard_27) (by kernel_rfl) (by kernel_rfl) (by kernel_rfl) ?_
        refine qreg_run [.plain] 1 [(2, [], Value.pointer (some ⟨b_, 0, none⟩)), (15, [], Value.string key)] (by kernel_rfl) (by kernel_rfl) ?_
        obtain ⟨v16, hq, h⟩ := h
        refine qreg_enter (op := (Go.Op.call (Go.Call.mk (Go.Callee.value (Go.Operand.func 44)) #[(Go.Operand.tmp 15)] #[9]))) (ty := 56) (dst := some 16) 44 #[Value.string key] (Value.int .u32 v16) (by kernel_rfl) (fun ww => by kernel_rfl) (fun w' he => Calls.mono (hq w' he) (by rintro _ w'' ⟨_, rfl, rfl, hE⟩; exact ⟨rfl, hE⟩)) ?_
        clear hq
        refine qreg_run [.plain] 3 [(16, [], Value.int .u32 v16), (17, [], Value.pointer (some ⟨b_, 1, none⟩))] (by kernel_rfl) (by kernel_rfl) ?_
        obtain ⟨v18, hc, h⟩ := h
        refine qreg_load1 (t := 3) (a := (Go.Operand.tmp 17)) (b := b_) (o := 1) (ty := 3) (dst := some 18) (by kernel_rfl) (by kernel_rfl) (by kernel_rfl) hc ?_
        refine qreg_run [.plain] 5 [(16, [], Value.int .u32 v16), (19, [], Value.int .u32 (IntKind.u32.wrap v18))] (by kernel_rfl) (by kernel_rfl) ?_
        obtain ⟨h0, h⟩ := h
        refine qreg_val (op := (Go.Op.binOp Go.BinOp.rem 56 (Go.Operand.tmp 16) (Go.Operand.tmp 19) 56)) (ty := 56) (dst := some 20) (Value.int .u32 (Int.tmod v16 (IntKind.u32.wrap v18))) (by kernel_rfl) (fun ww => run_rem (by kernel_rfl) (by kernel_rfl) h0 ww) ?_
        refine qreg_run [.plain, .plain, .plain] 9 [(4, [], Value.int .i64 (IntKind.i64.wrap (Int.tmod v16 (IntKind.u32.wrap v18)))), (5, [], Value.int .i64 0)] (by kernel_rfl) (by kernel_rfl) ?_
        refine qreg_end [(4, Value.int .i64 (IntKind.i64.wrap (Int.tmod v16 (IntKind.u32.wrap v18)))), (5, Value.int .i64 0)] (by kernel_rfl) (by kernel_rfl) (fun w5 hw => ?_)
        replace h := h w5 hw
        clear hw
        change WpE _ _ c_towpathref13_Shard_29 _ _ _
        refine wpE_ret (by kernel_rfl) ?_
        repeat (first | refine seqQ_ret ?_ | refine blockQ_ret ?_ | refine loopQ_ret ?_ | refine cutQ_ret ?_)
        exact retT (rs := [(Go.ResultVar.tmp 4), (Go.ResultVar.tmp 5)]) (vs := [Value.int .i64 (IntKind.i64.wrap (Int.tmod v16 (IntKind.u32.wrap v18))), Value.int .i64 0]) (by kernel_rfl) (⟨by kernel_rfl, ⟨by kernel_rfl, trivial⟩⟩) (by kernel_rfl) ⟨(IntKind.i64.wrap (Int.tmod v16 (IntKind.u32.wrap v18))), 0, rfl, h⟩
  · rintro e w' ⟨v, rfl, r0, r1, rfl, h⟩; exact ⟨r0, r1, rfl, h⟩

/-! ### towpath/towpathref13.Check (function 16) -/
noncomputable def c_towpathref13_Check_0 : Code := (Try.f16.body).getD Code.skip
noncomputable def c_towpathref13_Check_1 : Code := Code.l c_towpathref13_Check_0
noncomputable def r_towpathref13_Check_1 : Array Oper := Code.ops c_towpathref13_Check_1
noncomputable def c_towpathref13_Check_3 : Code := Code.r c_towpathref13_Check_0
noncomputable def c_towpathref13_Check_4 : Code := Code.l c_towpathref13_Check_3
noncomputable def c_towpathref13_Check_5 : Code := Code.l c_towpathref13_Check_4
noncomputable def r_towpathref13_Check_5 : Array Oper := Code.ops c_towpathref13_Check_5
noncomputable def c_towpathref13_Check_7 : Code := Code.r c_towpathref13_Check_4
noncomputable def c_towpathref13_Check_8 : Code := Code.l c_towpathref13_Check_7
noncomputable def c_towpathref13_Check_9 : Code := Code.l c_towpathref13_Check_8
noncomputable def r_towpathref13_Check_9 : Array Oper := Code.ops c_towpathref13_Check_9
noncomputable def c_towpathref13_Check_11 : Code := Code.r c_towpathref13_Check_8
noncomputable def c_towpathref13_Check_12 : Code := Code.r c_towpathref13_Check_7
noncomputable def c_towpathref13_Check_13 : Code := Code.r c_towpathref13_Check_3
noncomputable def c_towpathref13_Check_14 : Code := Code.l c_towpathref13_Check_13
noncomputable def r_towpathref13_Check_14 : Array Oper := Code.ops c_towpathref13_Check_14
noncomputable def c_towpathref13_Check_16 : Code := Code.r c_towpathref13_Check_13

set_option maxRecDepth 100000 in
set_option maxHeartbeats 4000000 in
theorem S_towpathref13_Check {c : T_api_Config} {w : World} {R : Int → World → Prop} (h : F_towpathref13_Check c R w) : C_towpathref13_Check c w R := by
  unfold F_towpathref13_Check at h
  unfold C_towpathref13_Check
  refine Calls.mono (calls_of_wpE (args := [Value.agg #[Value.int .i64 c.Lanes, Value.int .i64 c.Shards, Value.int .i64 c.Window, Value.int .i64 c.Queue]]) (R := fun v w' => ∃ (r0 : Int), v = Value.int .i64 r0 ∧ R r0 w') Try.func16 (c := c_towpathref13_Check_0) (by kernel_rfl) 25 (by kernel_rfl) (by kernel_rfl) [(0, Value.agg #[Value.int .i64 c.Lanes, Value.int .i64 c.Shards, Value.int .i64 c.Window, Value.int .i64 c.Queue])] (by kernel_rfl) ?_) ?_
  · refine wpE_seq (x := c_towpathref13_Check_1) (y := c_towpathref13_Check_3) (by kernel_rfl) ?_
    refine wpE_region (id := 0) (ops := r_towpathref13_Check_1) (by kernel_rfl) ?_
    refine reg_run [] 0 [(0, [], Value.agg #[Value.int .i64 c.Lanes, Value.int .i64 c.Shards, Value.int .i64 c.Window, Value.int .i64 c.Queue])] (by kernel_rfl) (by kernel_rfl) ?_
    refine reg_new (op := (Go.Op.box 23 (Go.Operand.tmp 0))) (ty := 0) (dst := some 1) (fun bb => Value.pointer (some ⟨bb, 0, none⟩)) (Obj.cells ([Value.int .i64 c.Lanes, Value.int .i64 c.Shards, Value.int .i64 c.Window, Value.int .i64 c.Queue]).toArray ty_api_Config (0, 0)) (by kernel_rfl) (by kernel_rfl) (fun b_ w1 hb hw => ?_)
    replace h := h b_ w1 hb hw
    clear hb hw
    refine reg_run [.plain] 2 [(1, [], Value.pointer (some ⟨b_, 0, none⟩))] (by kernel_rfl) (by kernel_rfl) ?_
    refine reg_end [(1, Value.pointer (some ⟨b_, 0, none⟩))] (by kernel_rfl) (by kernel_rfl) ?_
    change WpE _ _ c_towpathref13_Check_3 _ _ _
    refine wpE_seq (x := c_towpathref13_Check_4) (y := c_towpathref13_Check_13) (by kernel_rfl) ?_
    refine wpE_seq_cut (x := c_towpathref13_Check_5) (y := c_towpathref13_Check_7) (by kernel_rfl) (fun l w => ∃ (t24 : Bool), l = [(24, Value.bool t24)] ∧ F_towpathref13_Check_k0 R t24 w) ?_ ?_
    · refine wpE_region (id := 1) (ops := r_towpathref13_Check_5) (by kernel_rfl) ?_
      refine reg_run [.plain] 1 [(1, [], Value.pointer (some ⟨b_, 0, none⟩)), (3, [], Value.pointer (some ⟨b_, 0, none⟩))] (by kernel_rfl) (by kernel_rfl) ?_
      obtain ⟨v4, hc, h⟩ := h
      refine reg_load1 (t := 3) (a := (Go.Operand.tmp 3)) (b := b_) (o := 0) (ty := 3) (dst := some 4) (by kernel_rfl) (by kernel_rfl) (by kernel_rfl) hc ?_
      refine reg_run [] 2 [(1, [], Value.pointer (some ⟨b_, 0, none⟩)), (4, [], Value.int .i64 v4)] (by kernel_rfl) (by kernel_rfl) ?_
      refine reg_enter (op := (Go.Op.call (Go.Call.mk (Go.Callee.value (Go.Operand.func 45)) #[(Go.Operand.tmp 4), (Go.Operand.const (Go.Value.int Go.IntKind.i64 16))] #[3, 3]))) (ty := 4) (dst := some 5) 45 #[Value.int .i64 v4, Value.int .i64 16] (by kernel_rfl) (fun ww => by kernel_rfl) (Calls.mono h ?_)
      rintro _ w3 ⟨v5, rfl, h⟩
      refine ⟨_, rfl, ?_⟩
      refine reg_run [.plain, .plain, .plain] 6 [(1, [], Value.pointer (some ⟨b_, 0, none⟩)), (7, [], Value.bool (!v5)), (8, [(7, false)], Value.pointer (some ⟨b_, 1, none⟩))] (by kernel_rfl) (by kernel_rfl) ?_
      refine reg_split 7 (!v5) (by kernel_rfl) (fun hb => ?_) (fun hb => ?_)
      · replace h := h.1 hb
        refine reg_run [] 6 [(1, [], Value.pointer (some ⟨b_, 0, none⟩)), (7, [], Value.bool true), (8, [], undef)] (by kernel_rfl) (by kernel_rfl) ?_
        refine reg_run [.skip, .skip, .skip, .plain, .plain, .skip, .skip, .skip, .skip, .plain, .plain, .skip, .skip, .skip, .skip, .plain] 22 [(24, [], Value.bool true)] (by kernel_rfl) (by kernel_rfl) ?_
        refine reg_end [(24, Value.bool true)] (by kernel_rfl) (by kernel_rfl) ?_
        exact ⟨[(24, Value.bool true)], Sub.mk (by kernel_rfl), true, rfl, h⟩
      · replace h := h.2 hb
        refine reg_run [] 6 [(1, [], Value.pointer (some ⟨b_, 0, none⟩)), (7, [], Value.bool false), (8, [], Value.pointer (some ⟨b_, 1, none⟩))] (by kernel_rfl) (by kernel_rfl) ?_
        refine reg_run [] 6 [(1, [], Value.pointer (some ⟨b_, 0, none⟩)), (7, [], Value.bool false), (8, [], Value.pointer (some ⟨b_, 1, none⟩))] (by kernel_rfl) (by kernel_rfl) ?_
        obtain ⟨v9, hc, h⟩ := h
        refine reg_load1 (t := 3) (a := (Go.Operand.tmp 8)) (b := b_) (o := 1) (ty := 3) (dst := some 9) (by kernel_rfl) (by kernel_rfl) (by kernel_rfl) hc ?_
        refine reg_run [] 7 [(1, [], Value.pointer (some ⟨b_, 0, none⟩)), (7, [], Value.bool false), (9, [], Value.int .i64 v9)] (by kernel_rfl) (by kernel_rfl) ?_
        refine reg_enter (op := (Go.Op.call (Go.Call.mk (Go.Callee.value (Go.Operand.func 45)) #[(Go.Operand.tmp 9), (Go.Operand.const (Go.Value.int Go.IntKind.i64 16))] #[3, 3]))) (ty := 4) (dst := some 10) 45 #[Value.int .i64 v9, Value.int .i64 16] (by kernel_rfl) (fun ww => by kernel_rfl) (Calls.mono h ?_)
        rintro _ w4 ⟨v10, rfl, h⟩
        refine ⟨_, rfl, ?_⟩
        refine reg_run [.sure, .plain, .plain, .plain] 12 [(1, [], Value.pointer (some ⟨b_, 0, none⟩)), (13, [], Value.bool (!v10)), (14, [(13, false)], Value.pointer (some ⟨b_, 2, none⟩))] (by kernel_rfl) (by kernel_rfl) ?_
        refine reg_split 13 (!v10) (by kernel_rfl) (fun hb => ?_) (fun hb => ?_)
        · replace h := h.1 hb
          refine reg_run [] 12 [(1, [], Value.pointer (some ⟨b_, 0, none⟩)), (13, [], Value.bool true), (14, [], undef)] (by kernel_rfl) (by kernel_rfl) ?_
          refine reg_run [.skip, .skip, .skip, .plain, .plain, .skip, .skip, .skip, .skip, .plain] 22 [(24, [], Value.bool true)] (by kernel_rfl) (by kernel_rfl) ?_
          refine reg_end [(24, Value.bool true)] (by kernel_rfl) (by kernel_rfl) ?_
          exact ⟨[(24, Value.bool true)], Sub.mk (by kernel_rfl), true, rfl, h⟩
        · replace h := h.2 hb
          refine reg_run [] 12 [(1, [], Value.pointer (some ⟨b_, 0, none⟩)), (13, [], Value.bool false), (14, [], Value.pointer (some ⟨b_, 2, none⟩))] (by kernel_rfl) (by kernel_rfl) ?_
          refine reg_run [] 12 [(1, [], Value.pointer (some ⟨b_, 0, none⟩)), (13, [], Value.bool false), (14, [], Value.pointer (some ⟨b_, 2, none⟩))] (by kernel_rfl) (by kernel_rfl) ?_
          obtain ⟨v15, hc, h⟩ := h
          refine reg_load1 (t := 3) (a := (Go.Operand.tmp 14)) (b := b_) (o := 2) (ty := 3) (dst := some 15) (by kernel_rfl) (by kernel_rfl) (by kernel_rfl) hc ?_
          refine reg_run [] 13 [(1, [], Value.pointer (some ⟨b_, 0, none⟩)), (13, [], Value.bool false), (15, [], Value.int .i64 v15)] (by kernel_rfl) (by kernel_rfl) ?_
          refine reg_enter (op := (Go.Op.call (Go.Call.mk (Go.Callee.value (Go.Operand.func 45)) #[(Go.Operand.tmp 15), (Go.Operand.const (Go.Value.int Go.IntKind.i64 64))] #[3, 3]))) (ty := 4) (dst := some 16) 45 #[Value.int .i64 v15, Value.int .i64 64] (by kernel_rfl) (fun ww => by kernel_rfl) (Calls.mono h ?_)
          rintro _ w5 ⟨v16, rfl, h⟩
          refine ⟨_, rfl, ?_⟩
          refine reg_run [.sure, .plain, .plain, .plain] 18 [(19, [], Value.bool (!v16)), (20, [(19, false)], Value.pointer (some ⟨b_, 3, none⟩))] (by kernel_rfl) (by kernel_rfl) ?_
          refine reg_split 19 (!v16) (by kernel_rfl) (fun hb => ?_) (fun hb => ?_)
          · replace h := h.1 hb
            refine reg_run [] 18 [(19, [], Value.bool true), (20, [], undef)] (by kernel_rfl) (by kernel_rfl) ?_
            refine reg_run [.skip, .skip, .skip, .plain] 22 [(24, [], Value.bool true)] (by kernel_rfl) (by kernel_rfl) ?_
            refine reg_end [(24, Value.bool true)] (by kernel_rfl) (by kernel_rfl) ?_
            exact ⟨[(24, Value.bool true)], Sub.mk (by kernel_rfl), true, rfl, h⟩
          · replace h := h.2 hb
            refine reg_run [] 18 [(19, [], Value.bool false), (20, [], Value.pointer (some ⟨b_, 3, none⟩))] (by kernel_rfl) (by kernel_rfl) ?_
            refine reg_run [] 18 [(19, [], Value.bool false), (20, [], Value.pointer (some ⟨b_, 3, none⟩))] (by kernel_rfl) (by kernel_rfl) ?_
            obtain ⟨v21, hc, h⟩ := h
            refine reg_load1 (t := 3) (a := (Go.Operand.tmp 20)) (b := b_) (o := 3) (ty := 3) (dst := some 21) (by kernel_rfl) (by kernel_rfl) (by kernel_rfl) hc ?_
            refine reg_run [] 19 [(19, [], Value.bool false), (21, [], Value.int .i64 v21)] (by kernel_rfl) (by kernel_rfl) ?_
            refine reg_enter (op := (Go.Op.call (Go.Call.mk (Go.Callee.value (Go.Operand.func 45)) #[(Go.Operand.tmp 21), (Go.Operand.const (Go.Value.int Go.IntKind.i64 16))] #[3, 3]))) (ty := 4) (dst := some 22) 45 #[Value.int .i64 v21, Value.int .i64 16] (by kernel_rfl) (fun ww => by kernel_rfl) (Calls.mono h ?_)
            rintro _ w6 ⟨v22, rfl, h⟩
            refine ⟨_, rfl, ?_⟩
            refine reg_run [.sure, .plain] 22 [(24, [], Value.bool (!v22))] (by kernel_rfl) (by kernel_rfl) ?_
            refine reg_end [(24, Value.bool (!v22))] (by kernel_rfl) (by kernel_rfl) ?_
            exact ⟨[(24, Value.bool (!v22))], Sub.mk (by kernel_rfl), (!v22), rfl, h⟩
    · rintro _ w2 ⟨t24, rfl, h⟩
      unfold F_towpathref13_Check_k0 at h
      refine wpE_cond (o := (Operand.tmp 24)) (b := t24) (x := c_towpathref13_Check_8) (y := c_towpathref13_Check_12) (by kernel_rfl) (by kernel_rfl) (fun hb => ?_) (fun hb => ?_)
      · replace h := h.1 hb
        refine wpE_seq (x := c_towpathref13_Check_9) (y := c_towpathref13_Check_11) (by kernel_rfl) ?_
        refine wpE_region (id := 2) (ops := r_towpathref13_Check_9) (by kernel_rfl) ?_
        refine reg_run [.plain] 1 [(2, [], Value.int .i64 7)] (by kernel_rfl) (by kernel_rfl) ?_
        refine reg_end [(2, Value.int .i64 7)] (by kernel_rfl) (by kernel_rfl) ?_
        change WpE _ _ c_towpathref13_Check_11 _ _ _
        refine wpE_ret (by kernel_rfl) ?_
        repeat (first | refine seqQ_ret ?_ | refine blockQ_ret ?_ | refine loopQ_ret ?_ | refine cutQ_ret ?_)
        exact retS (rs := [(Go.ResultVar.tmp 2)]) (v := Value.int .i64 7) (by kernel_rfl) (⟨by kernel_rfl, trivial⟩) ⟨7, rfl, h⟩
      · replace h := h.2 hb
        refine wpE_skip (by kernel_rfl) ?_
        change WpE _ _ c_towpathref13_Check_13 _ _ _
        refine wpE_seq (x := c_towpathref13_Check_14) (y := c_towpathref13_Check_16) (by kernel_rfl) ?_
        refine wpE_region (id := 3) (ops := r_towpathref13_Check_14) (by kernel_rfl) ?_
        refine reg_run [.plain] 1 [(2, [], Value.int .i64 0)] (by kernel_rfl) (by kernel_rfl) ?_
        refine reg_end [(2, Value.int .i64 0)] (by kernel_rfl) (by kernel_rfl) ?_
        change WpE _ _ c_towpathref13_Check_16 _ _ _
        refine wpE_ret (by kernel_rfl) ?_
        repeat (first | refine seqQ_ret ?_ | refine blockQ_ret ?_ | refine loopQ_ret ?_ | refine cutQ_ret ?_)
        exact retS (rs := [(Go.ResultVar.tmp 2)]) (v := Value.int .i64 0) (by kernel_rfl) (⟨by kernel_rfl, trivial⟩) ⟨0, rfl, h⟩
  · rintro e w' ⟨v, rfl, r0, rfl, h⟩; exact ⟨r0, rfl, h⟩

/-! ### towpath/towpathref13.Tasks (function 18) -/
noncomputable def c_towpathref13_Tasks_0 : Code := (Try.f18.body).getD Code.skip
noncomputable def c_towpathref13_Tasks_1 : Code := Code.l c_towpathref13_Tasks_0
noncomputable def r_towpathref13_Tasks_1 : Array Oper := Code.ops c_towpathref13_Tasks_1
noncomputable def c_towpathref13_Tasks_3 : Code := Code.r c_towpathref13_Tasks_0
noncomputable def c_towpathref13_Tasks_4 : Code := Code.l c_towpathref13_Tasks_3
noncomputable def r_towpathref13_Tasks_4 : Array Oper := Code.ops c_towpathref13_Tasks_4
noncomputable def c_towpathref13_Tasks_6 : Code := Code.r c_towpathref13_Tasks_3
noncomputable def c_towpathref13_Tasks_7 : Code := Code.l c_towpathref13_Tasks_6
noncomputable def c_towpathref13_Tasks_8 : Code := Code.l c_towpathref13_Tasks_7
noncomputable def r_towpathref13_Tasks_8 : Array Oper := Code.ops c_towpathref13_Tasks_8
noncomputable def c_towpathref13_Tasks_10 : Code := Code.r c_towpathref13_Tasks_7
noncomputable def c_towpathref13_Tasks_11 : Code := Code.l c_towpathref13_Tasks_10
noncomputable def c_towpathref13_Tasks_12 : Code := Code.l c_towpathref13_Tasks_11
noncomputable def r_towpathref13_Tasks_12 : Array Oper := Code.ops c_towpathref13_Tasks_12
noncomputable def c_towpathref13_Tasks_14 : Code := Code.r c_towpathref13_Tasks_11
noncomputable def c_towpathref13_Tasks_15 : Code := Code.r c_towpathref13_Tasks_10
noncomputable def c_towpathref13_Tasks_16 : Code := Code.r c_towpathref13_Tasks_6
noncomputable def c_towpathref13_Tasks_17 : Code := Code.l c_towpathref13_Tasks_16
noncomputable def r_towpathref13_Tasks_17 : Array Oper := Code.ops c_towpathref13_Tasks_17
noncomputable def c_towpathref13_Tasks_19 : Code := Code.r c_towpathref13_Tasks_16

set_option maxRecDepth 100000 in
set_option maxHeartbeats 4000000 in
theorem S_towpathref13_Tasks {c : T_api_Config} {w : World} {R : Int → Int → World → Prop} (h : F_towpathref13_Tasks c R w) : C_towpathref13_Tasks c w R := by
  unfold F_towpathref13_Tasks at h
  unfold C_towpathref13_Tasks
  refine Calls.mono (calls_of_wpE (args := [Value.agg #[Value.int .i64 c.Lanes, Value.int .i64 c.Shards, Value.int .i64 c.Window, Value.int .i64 c.Queue]]) (R := fun v w' => ∃ (r0 : Int) (r1 : Int), v = Value.tuple #[Value.int .i64 r0, Value.int .i64 r1] ∧ R r0 r1 w') Try.func18 (c := c_towpathref13_Tasks_0) (by kernel_rfl) 16 (by kernel_rfl) (by kernel_rfl) [(0, Value.agg #[Value.int .i64 c.Lanes, Value.int .i64 c.Shards, Value.int .i64 c.Window, Value.int .i64 c.Queue])] (by kernel_rfl) ?_) ?_
  · refine wpE_seq (x := c_towpathref13_Tasks_1) (y := c_towpathref13_Tasks_3) (by kernel_rfl) ?_
    refine wpE_region (id := 0) (ops := r_towpathref13_Tasks_1) (by kernel_rfl) ?_
    refine reg_run [] 0 [(0, [], Value.agg #[Value.int .i64 c.Lanes, Value.int .i64 c.Shards, Value.int .i64 c.Window, Value.int .i64 c.Queue])] (by kernel_rfl) (by kernel_rfl) ?_
    refine reg_new (op := (Go.Op.box 23 (Go.Operand.tmp 0))) (ty := 0) (dst := some 1) (fun bb => Value.pointer (some ⟨bb, 0, none⟩)) (Obj.cells ([Value.int .i64 c.Lanes, Value.int .i64 c.Shards, Value.int .i64 c.Window, Value.int .i64 c.Queue]).toArray ty_api_Config (0, 0)) (by kernel_rfl) (by kernel_rfl) (fun b_ w1 hb hw => ?_)
    replace h := h b_ w1 hb hw
    clear hb hw
    refine reg_run [.plain, .plain] 3 [(1, [], Value.pointer (some ⟨b_, 0, none⟩))] (by kernel_rfl) (by kernel_rfl) ?_
    refine reg_end [(1, Value.pointer (some ⟨b_, 0, none⟩))] (by kernel_rfl) (by kernel_rfl) ?_
    change WpE _ _ c_towpathref13_Tasks_3 _ _ _
    refine wpE_seq (x := c_towpathref13_Tasks_4) (y := c_towpathref13_Tasks_6) (by kernel_rfl) ?_
    refine wpE_region (id := 1) (ops := r_towpathref13_Tasks_4) (by kernel_rfl) ?_
    refine reg_run [] 0 [(1, [], Value.pointer (some ⟨b_, 0, none⟩))] (by kernel_rfl) (by kernel_rfl) ?_
    obtain ⟨v5, hc, h⟩ := h
    refine reg_loadN (t := 23) (a := (Go.Operand.tmp 1)) (b := b_) (o := 0) (ty := 23) (dst := some 5) [Value.int .i64 v5.Lanes, Value.int .i64 v5.Shards, Value.int .i64 v5.Window, Value.int .i64 v5.Queue] (by kernel_rfl) (by kernel_rfl) (by kernel_rfl) (k := 4) (by kernel_rfl) (by kernel_rfl) hc ?_
    refine reg_run [] 1 [(1, [], Value.pointer (some ⟨b_, 0, none⟩)), (5, [], Value.agg #[Value.int .i64 v5.Lanes, Value.int .i64 v5.Shards, Value.int .i64 v5.Window, Value.int .i64 v5.Queue])] (by kernel_rfl) (by kernel_rfl) ?_
    refine reg_enter (op := (Go.Op.call (Go.Call.mk (Go.Callee.value (Go.Operand.func 16)) #[(Go.Operand.tmp 5)] #[23]))) (ty := 25) (dst := some 6) 16 #[Value.agg #[Value.int .i64 v5.Lanes, Value.int .i64 v5.Shards, Value.int .i64 v5.Window, Value.int .i64 v5.Queue]] (by kernel_rfl) (fun ww => by kernel_rfl) (Calls.mono h ?_)
    rintro _ w2 ⟨v6, rfl, h⟩
    refine ⟨_, rfl, ?_⟩
    refine reg_run [.plain] 3 [(1, [], Value.pointer (some ⟨b_, 0, none⟩)), (4, [], Value.int .i64 v6)] (by kernel_rfl) (by kernel_rfl) ?_
    refine reg_end [(1, Value.pointer (some ⟨b_, 0, none⟩)), (4, Value.int .i64 v6)] (by kernel_rfl) (by kernel_rfl) ?_
    change WpE _ _ c_towpathref13_Tasks_6 _ _ _
    refine wpE_seq (x := c_towpathref13_Tasks_7) (y := c_towpathref13_Tasks_16) (by kernel_rfl) ?_
    refine wpE_seq (x := c_towpathref13_Tasks_8) (y := c_towpathref13_Tasks_10) (by kernel_rfl) ?_
    refine wpE_region (id := 2) (ops := r_towpathref13_Tasks_8) (by kernel_rfl) ?_
    refine reg_run [.plain, .plain] 2 [(1, [], Value.pointer (some ⟨b_, 0, none⟩)), (4, [], Value.int .i64 v6), (8, [], Value.bool (v6 != 0))] (by kernel_rfl) (by kernel_rfl) ?_
    refine reg_end [(1, Value.pointer (some ⟨b_, 0, none⟩)), (4, Value.int .i64 v6), (8, Value.bool (v6 != 0))] (by kernel_rfl) (by kernel_rfl) ?_
    change WpE _ _ c_towpathref13_Tasks_10 _ _ _
    refine wpE_cond (o := (Operand.tmp 8)) (b := (v6 != 0)) (x := c_towpathref13_Tasks_11) (y := c_towpathref13_Tasks_15) (by kernel_rfl) (by kernel_rfl) (fun hb => ?_) (fun hb => ?_)
    · replace h := h.1 hb
      refine wpE_seq (x := c_towpathref13_Tasks_12) (y := c_towpathref13_Tasks_14) (by kernel_rfl) ?_
      refine wpE_region (id := 3) (ops := r_towpathref13_Tasks_12) (by kernel_rfl) ?_
      refine reg_run [.plain, .plain, .plain] 3 [(2, [], Value.int .i64 0), (3, [], Value.int .i64 v6)] (by kernel_rfl) (by kernel_rfl) ?_
      refine reg_end [(2, Value.int .i64 0), (3, Value.int .i64 v6)] (by kernel_rfl) (by kernel_rfl) ?_
      change WpE _ _ c_towpathref13_Tasks_14 _ _ _
      refine wpE_ret (by kernel_rfl) ?_
      repeat (first | refine seqQ_ret ?_ | refine blockQ_ret ?_ | refine loopQ_ret ?_ | refine cutQ_ret ?_)
      exact retT (rs := [(Go.ResultVar.tmp 2), (Go.ResultVar.tmp 3)]) (vs := [Value.int .i64 0, Value.int .i64 v6]) (by kernel_rfl) (⟨by kernel_rfl, ⟨by kernel_rfl, trivial⟩⟩) (by kernel_rfl) ⟨0, v6, rfl, h⟩
    · replace h := h.2 hb
      refine wpE_skip (by kernel_rfl) ?_
      change WpE _ _ c_towpathref13_Tasks_16 _ _ _
      refine wpE_seq (x := c_towpathref13_Tasks_17) (y := c_towpathref13_Tasks_19) (by kernel_rfl) ?_
      refine wpE_region (id := 4) (ops := r_towpathref13_Tasks_17) (by kernel_rfl) ?_
      refine reg_run [.plain] 1 [(1, [], Value.pointer (some ⟨b_, 0, none⟩)), (10, [], Value.pointer (some ⟨b_, 0, none⟩))] (by kernel_rfl) (by kernel_rfl) ?_
      obtain ⟨v11, hc, h⟩ := h
      refine reg_load1 (t := 3) (a := (Go.Operand.tmp 10)) (b := b_) (o := 0) (ty := 3) (dst := some 11) (by kernel_rfl) (by kernel_rfl) (by kernel_rfl) hc ?_
      refine reg_run [.plain] 3 [(11, [], Value.int .i64 v11), (12, [], Value.pointer (some ⟨b_, 1, none⟩))] (by kernel_rfl) (by kernel_rfl) ?_
      obtain ⟨v13, hc, h⟩ := h
      refine reg_load1 (t := 3) (a := (Go.Operand.tmp 12)) (b := b_) (o := 1) (ty := 3) (dst := some 13) (by kernel_rfl) (by kernel_rfl) (by kernel_rfl) hc ?_
      refine reg_run [.plain, .plain, .plain, .plain] 8 [(2, [], Value.int .i64 (IntKind.i64.wrap ((IntKind.i64.wrap (v11 + v13)) + 2))), (3, [], Value.int .i64 0)] (by kernel_rfl) (by kernel_rfl) ?_
      refine reg_end [(2, Value.int .i64 (IntKind.i64.wrap ((IntKind.i64.wrap (v11 + v13)) + 2))), (3, Value.int .i64 0)] (by kernel_rfl) (by kernel_rfl) ?_
      change WpE _ _ c_towpathref13_Tasks_19 _ _ _
      refine wpE_ret (by kernel_rfl) ?_
      repeat (first | refine seqQ_ret ?_ | refine blockQ_ret ?_ | refine loopQ_ret ?_ | refine cutQ_ret ?_)
      exact retT (rs := [(Go.ResultVar.tmp 2), (Go.ResultVar.tmp 3)]) (vs := [Value.int .i64 (IntKind.i64.wrap ((IntKind.i64.wrap (v11 + v13)) + 2)), Value.int .i64 0]) (by kernel_rfl) (⟨by kernel_rfl, ⟨by kernel_rfl, trivial⟩⟩) (by kernel_rfl) ⟨(IntKind.i64.wrap ((IntKind.i64.wrap (v11 + v13)) + 2)), 0, rfl, h⟩
  · rintro e w' ⟨v, rfl, r0, r1, rfl, h⟩; exact ⟨r0, r1, rfl, h⟩

/-! ### towpath/towpathref13.Name (function 20) -/
noncomputable def c_towpathref13_Name_0 : Code := (Try.f20.body).getD Code.skip
noncomputable def c_towpathref13_Name_1 : Code := Code.l c_towpathref13_Name_0
noncomputable def r_towpathref13_Name_1 : Array Oper := Code.ops c_towpathref13_Name_1
noncomputable def c_towpathref13_Name_3 : Code := Code.r c_towpathref13_Name_0
noncomputable def c_towpathref13_Name_4 : Code := Code.l c_towpathref13_Name_3
noncomputable def r_towpathref13_Name_4 : Array Oper := Code.ops c_towpathref13_Name_4
noncomputable def c_towpathref13_Name_6 : Code := Code.r c_towpathref13_Name_3
noncomputable def c_towpathref13_Name_7 : Code := Code.l c_towpathref13_Name_6
noncomputable def c_towpathref13_Name_8 : Code := Code.l c_towpathref13_Name_7
noncomputable def r_towpathref13_Name_8 : Array Oper := Code.ops c_towpathref13_Name_8
noncomputable def c_towpathref13_Name_10 : Code := Code.r c_towpathref13_Name_7
noncomputable def c_towpathref13_Name_11 : Code := Code.l c_towpathref13_Name_10
noncomputable def c_towpathref13_Name_12 : Code := Code.l c_towpathref13_Name_11
noncomputable def r_towpathref13_Name_12 : Array Oper := Code.ops c_towpathref13_Name_12
noncomputable def c_towpathref13_Name_14 : Code := Code.r c_towpathref13_Name_11
noncomputable def c_towpathref13_Name_15 : Code := Code.r c_towpathref13_Name_10
noncomputable def c_towpathref13_Name_16 : Code := Code.r c_towpathref13_Name_6
noncomputable def c_towpathref13_Name_17 : Code := Code.l c_towpathref13_Name_16
noncomputable def c_towpathref13_Name_18 : Code := Code.l c_towpathref13_Name_17
noncomputable def c_towpathref13_Name_19 : Code := Code.l c_towpathref13_Name_18
noncomputable def r_towpathref13_Name_19 : Array Oper := Code.ops c_towpathref13_Name_19
noncomputable def c_towpathref13_Name_21 : Code := Code.r c_towpathref13_Name_18
noncomputable def c_towpathref13_Name_22 : Code := Code.l c_towpathref13_Name_21
noncomputable def c_towpathref13_Name_23 : Code := Code.l c_towpathref13_Name_22
noncomputable def r_towpathref13_Name_23 : Array Oper := Code.ops c_towpathref13_Name_23
noncomputable def c_towpathref13_Name_25 : Code := Code.r c_towpathref13_Name_22
noncomputable def c_towpathref13_Name_26 : Code := Code.r c_towpathref13_Name_21
noncomputable def c_towpathref13_Name_27 : Code := Code.l c_towpathref13_Name_26
noncomputable def r_towpathref13_Name_27 : Array Oper := Code.ops c_towpathref13_Name_27
noncomputable def c_towpathref13_Name_29 : Code := Code.r c_towpathref13_Name_26
noncomputable def c_towpathref13_Name_30 : Code := Code.l c_towpathref13_Name_29
noncomputable def c_towpathref13_Name_31 : Code := Code.l c_towpathref13_Name_30
noncomputable def r_towpathref13_Name_31 : Array Oper := Code.ops c_towpathref13_Name_31
noncomputable def c_towpathref13_Name_33 : Code := Code.r c_towpathref13_Name_30
noncomputable def c_towpathref13_Name_34 : Code := Code.r c_towpathref13_Name_29
noncomputable def c_towpathref13_Name_35 : Code := Code.l c_towpathref13_Name_34
noncomputable def r_towpathref13_Name_35 : Array Oper := Code.ops c_towpathref13_Name_35
noncomputable def c_towpathref13_Name_37 : Code := Code.r c_towpathref13_Name_34
noncomputable def c_towpathref13_Name_38 : Code := Code.l c_towpathref13_Name_37
noncomputable def c_towpathref13_Name_39 : Code := Code.l c_towpathref13_Name_38
noncomputable def r_towpathref13_Name_39 : Array Oper := Code.ops c_towpathref13_Name_39
noncomputable def c_towpathref13_Name_41 : Code := Code.r c_towpathref13_Name_38
noncomputable def c_towpathref13_Name_42 : Code := Code.r c_towpathref13_Name_37
noncomputable def c_towpathref13_Name_43 : Code := Code.l c_towpathref13_Name_42
noncomputable def r_towpathref13_Name_43 : Array Oper := Code.ops c_towpathref13_Name_43
noncomputable def c_towpathref13_Name_45 : Code := Code.r c_towpathref13_Name_42
noncomputable def c_towpathref13_Name_46 : Code := Code.l c_towpathref13_Name_45
noncomputable def c_towpathref13_Name_47 : Code := Code.l c_towpathref13_Name_46
noncomputable def r_towpathref13_Name_47 : Array Oper := Code.ops c_towpathref13_Name_47
noncomputable def c_towpathref13_Name_49 : Code := Code.r c_towpathref13_Name_46
noncomputable def c_towpathref13_Name_50 : Code := Code.r c_towpathref13_Name_45
noncomputable def c_towpathref13_Name_51 : Code := Code.l c_towpathref13_Name_50
noncomputable def r_towpathref13_Name_51 : Array Oper := Code.ops c_towpathref13_Name_51
noncomputable def c_towpathref13_Name_53 : Code := Code.r c_towpathref13_Name_50
noncomputable def c_towpathref13_Name_54 : Code := Code.l c_towpathref13_Name_53
noncomputable def c_towpathref13_Name_55 : Code := Code.l c_towpathref13_Name_54
noncomputable def r_towpathref13_Name_55 : Array Oper := Code.ops c_towpathref13_Name_55
noncomputable def c_towpathref13_Name_57 : Code := Code.r c_towpathref13_Name_54
noncomputable def c_towpathref13_Name_58 : Code := Code.r c_towpathref13_Name_53
noncomputable def c_towpathref13_Name_59 : Code := Code.r c_towpathref13_Name_16
noncomputable def c_towpathref13_Name_60 : Code := Code.l c_towpathref13_Name_59
noncomputable def r_towpathref13_Name_60 : Array Oper := Code.ops c_towpathref13_Name_60
noncomputable def c_towpathref13_Name_62 : Code := Code.r c_towpathref13_Name_59

set_option maxRecDepth 100000 in
set_option maxHeartbeats 4000000 in
theorem S_towpathref13_Name {c : T_api_Config} {task : Int} {w : World} {R : ByteArray → Int → Int → World → Prop} (h : F_towpathref13_Name c task R w) : C_towpathref13_Name c task w R := by
  unfold F_towpathref13_Name at h
  unfold C_towpathref13_Name
  refine Calls.mono (calls_of_wpE (args := [Value.agg #[Value.int .i64 c.Lanes, Value.int .i64 c.Shards, Value.int .i64 c.Window, Value.int .i64 c.Queue], Value.int .i64 task]) (R := fun v w' => ∃ (r0 : ByteArray) (r1 : Int) (r2 : Int), v = Value.tuple #[Value.string r0, Value.int .i64 r1, Value.int .i64 r2] ∧ R r0 r1 r2 w') Try.func20 (c := c_towpathref13_Name_0) (by kernel_rfl) 47 (by kernel_rfl) (by kernel_rfl) [(0, Value.agg #[Value.int .i64 c.Lanes, Value.int .i64 c.Shards, Value.int .i64 c.Window, Value.int .i64 c.Queue]), (1, Value.int .i64 task)] (by kernel_rfl) ?_) ?_
  · refine wpE_seq (x := c_towpathref13_Name_1) (y := c_towpathref13_Name_3) (by kernel_rfl) ?_
    refine wpE_region (id := 0) (ops := r_towpathref13_Name_1) (by kernel_rfl) ?_
    refine reg_run [] 0 [(0, [], Value.agg #[Value.int .i64 c.Lanes, Value.int .i64 c.Shards, Value.int .i64 c.Window, Value.int .i64 c.Queue]), (1, [], Value.int .i64 task)] (by kernel_rfl) (by kernel_rfl) ?_
    refine reg_new (op := (Go.Op.box 23 (Go.Operand.tmp 0))) (ty := 0) (dst := some 2) (fun bb => Value.pointer (some ⟨bb, 0, none⟩)) (Obj.cells ([Value.int .i64 c.Lanes, Value.int .i64 c.Shards, Value.int .i64 c.Window, Value.int .i64 c.Queue]).toArray ty_api_Config (0, 0)) (by kernel_rfl) (by kernel_rfl) (fun b_ w1 hb hw => ?_)
    replace h := h b_ w1 hb hw
    clear hb hw
    refine reg_run [.plain, .plain, .plain] 4 [(1, [], Value.int .i64 task), (2, [], Value.pointer (some ⟨b_, 0, none⟩))] (by kernel_rfl) (by kernel_rfl) ?_
    refine reg_end [(1, Value.int .i64 task), (2, Value.pointer (some ⟨b_, 0, none⟩))] (by kernel_rfl) (by kernel_rfl) ?_
    change WpE _ _ c_towpathref13_Name_3 _ _ _
    refine wpE_seq (x := c_towpathref13_Name_4) (y := c_towpathref13_Name_6) (by kernel_rfl) ?_
    refine wpE_region (id := 1) (ops := r_towpathref13_Name_4) (by kernel_rfl) ?_
    refine reg_run [] 0 [(1, [], Value.int .i64 task), (2, [], Value.pointer (some ⟨b_, 0, none⟩))] (by kernel_rfl) (by kernel_rfl) ?_
    obtain ⟨v10, hc, h⟩ := h
    refine reg_loadN (t := 23) (a := (Go.Operand.tmp 2)) (b := b_) (o := 0) (ty := 23) (dst := some 10) [Value.int .i64 v10.Lanes, Value.int .i64 v10.Shards, Value.int .i64 v10.Window, Value.int .i64 v10.Queue] (by kernel_rfl) (by kernel_rfl) (by kernel_rfl) (k := 4) (by kernel_rfl) (by kernel_rfl) hc ?_
    refine reg_run [] 1 [(1, [], Value.int .i64 task), (2, [], Value.pointer (some ⟨b_, 0, none⟩)), (10, [], Value.agg #[Value.int .i64 v10.Lanes, Value.int .i64 v10.Shards, Value.int .i64 v10.Window, Value.int .i64 v10.Queue])] (by kernel_rfl) (by kernel_rfl) ?_
    refine reg_enter (op := (Go.Op.call (Go.Call.mk (Go.Callee.value (Go.Operand.func 18)) #[(Go.Operand.tmp 10)] #[23]))) (ty := 26) (dst := some 11) 18 #[Value.agg #[Value.int .i64 v10.Lanes, Value.int .i64 v10.Shards, Value.int .i64 v10.Window, Value.int .i64 v10.Queue]] (by kernel_rfl) (fun ww => by kernel_rfl) (Calls.mono h ?_)
    rintro _ w2 ⟨n_, e, rfl, h⟩
    refine ⟨_, rfl, ?_⟩
    refine reg_run [.plain, .plain, .plain, .plain, .plain] 7 [(1, [], Value.int .i64 task), (2, [], Value.pointer (some ⟨b_, 0, none⟩)), (7, [], Value.int .i64 n_), (8, [], Value.int .i64 e)] (by kernel_rfl) (by kernel_rfl) ?_
    refine reg_end [(1, Value.int .i64 task), (2, Value.pointer (some ⟨b_, 0, none⟩)), (7, Value.int .i64 n_), (8, Value.int .i64 e)] (by kernel_rfl) (by kernel_rfl) ?_
    change WpE _ _ c_towpathref13_Name_6 _ _ _
    refine wpE_seq (x := c_towpathref13_Name_7) (y := c_towpathref13_Name_16) (by kernel_rfl) ?_
    refine wpE_seq (x := c_towpathref13_Name_8) (y := c_towpathref13_Name_10) (by kernel_rfl) ?_
    refine wpE_region (id := 2) (ops := r_towpathref13_Name_8) (by kernel_rfl) ?_
    refine reg_run [.plain, .plain] 2 [(1, [], Value.int .i64 task), (2, [], Value.pointer (some ⟨b_, 0, none⟩)), (7, [], Value.int .i64 n_), (8, [], Value.int .i64 e), (15, [], Value.bool (e != 0))] (by kernel_rfl) (by kernel_rfl) ?_
    refine reg_end [(1, Value.int .i64 task), (2, Value.pointer (some ⟨b_, 0, none⟩)), (7, Value.int .i64 n_), (8, Value.int .i64 e), (15, Value.bool (e != 0))] (by kernel_rfl) (by kernel_rfl) ?_
    change WpE _ _ c_towpathref13_Name_10 _ _ _
    refine wpE_cond (o := (Operand.tmp 15)) (b := (e != 0)) (x := c_towpathref13_Name_11) (y := c_towpathref13_Name_15) (by kernel_rfl) (by kernel_rfl) (fun hb => ?_) (fun hb => ?_)
    · replace h := h.1 hb
      refine wpE_seq (x := c_towpathref13_Name_12) (y := c_towpathref13_Name_14) (by kernel_rfl) ?_
      refine wpE_region (id := 3) (ops := r_towpathref13_Name_12) (by kernel_rfl) ?_
      refine reg_run [.plain, .plain, .plain, .plain] 4 [(4, [], Value.string ByteArray.empty), (5, [], Value.int .i64 0), (6, [], Value.int .i64 e)] (by kernel_rfl) (by kernel_rfl) ?_
      refine reg_end [(4, Value.string ByteArray.empty), (5, Value.int .i64 0), (6, Value.int .i64 e)] (by kernel_rfl) (by kernel_rfl) ?_
      change WpE _ _ c_towpathref13_Name_14 _ _ _
      refine wpE_ret (by kernel_rfl) ?_
      repeat (first | refine seqQ_ret ?_ | refine blockQ_ret ?_ | refine loopQ_ret ?_ | refine cutQ_ret ?_)
      exact retT (rs := [(Go.ResultVar.tmp 4), (Go.ResultVar.tmp 5), (Go.ResultVar.tmp 6)]) (vs := [Value.string ByteArray.empty, Value.int .i64 0, Value.int .i64 e]) (by kernel_rfl) (⟨by kernel_rfl, ⟨by kernel_rfl, ⟨by kernel_rfl, trivial⟩⟩⟩) (by kernel_rfl) ⟨ByteArray.empty, 0, e, rfl, h⟩
    · replace h := h.2 hb
      refine wpE_skip (by kernel_rfl) ?_
      change WpE _ _ c_towpathref13_Name_16 _ _ _
      refine wpE_seq (x := c_towpathref13_Name_17) (y := c_towpathref13_Name_59) (by kernel_rfl) ?_
      refine wpE_block (id := 0) (x := c_towpathref13_Name_18) (by kernel_rfl) ?_
      refine wpE_seq (x := c_towpathref13_Name_19) (y := c_towpathref13_Name_21) (by kernel_rfl) ?_
      refine wpE_region (id := 4) (ops := r_towpathref13_Name_19) (by kernel_rfl) ?_
      refine reg_run [.plain, .plain, .plain, .plain] 4 [(1, [], Value.int .i64 task), (2, [], Value.pointer (some ⟨b_, 0, none⟩)), (17, [], Value.bool (decide (task ≥ n_)))] (by kernel_rfl) (by kernel_rfl) ?_
      refine reg_end [(1, Value.int .i64 task), (2, Value.pointer (some ⟨b_, 0, none⟩)), (17, Value.bool (decide (task ≥ n_)))] (by kernel_rfl) (by kernel_rfl) ?_
      change WpE _ _ c_towpathref13_Name_21 _ _ _
      refine wpE_cond (o := (Operand.tmp 17)) (b := (decide (task ≥ n_))) (x := c_towpathref13_Name_22) (y := c_towpathref13_Name_26) (by kernel_rfl) (by kernel_rfl) (fun hb => ?_) (fun hb => ?_)
      · replace h := h.1 hb
        refine wpE_seq (x := c_towpathref13_Name_23) (y := c_towpathref13_Name_25) (by kernel_rfl) ?_
        refine wpE_region (id := 5) (ops := r_towpathref13_Name_23) (by kernel_rfl) ?_
        refine reg_run [.plain, .plain, .plain] 3 [(4, [], Value.string ByteArray.empty), (5, [], Value.int .i64 0), (6, [], Value.int .i64 1)] (by kernel_rfl) (by kernel_rfl) ?_
        refine reg_end [(4, Value.string ByteArray.empty), (5, Value.int .i64 0), (6, Value.int .i64 1)] (by kernel_rfl) (by kernel_rfl) ?_
        change WpE _ _ c_towpathref13_Name_25 _ _ _
        refine wpE_ret (by kernel_rfl) ?_
        repeat (first | refine seqQ_ret ?_ | refine blockQ_ret ?_ | refine loopQ_ret ?_ | refine cutQ_ret ?_)
        exact retT (rs := [(Go.ResultVar.tmp 4), (Go.ResultVar.tmp 5), (Go.ResultVar.tmp 6)]) (vs := [Value.string ByteArray.empty, Value.int .i64 0, Value.int .i64 1]) (by kernel_rfl) (⟨by kernel_rfl, ⟨by kernel_rfl, ⟨by kernel_rfl, trivial⟩⟩⟩) (by kernel_rfl) ⟨ByteArray.empty, 0, 1, rfl, h⟩
      · replace h := h.2 hb
        refine wpE_seq (x := c_towpathref13_Name_27) (y := c_towpathref13_Name_29) (by kernel_rfl) ?_
        refine wpE_region (id := 6) (ops := r_towpathref13_Name_27) (by kernel_rfl) ?_
        refine reg_run [.plain, .plain, .plain] 3 [(1, [], Value.int .i64 task), (2, [], Value.pointer (some ⟨b_, 0, none⟩)), (21, [], Value.bool (decide (task < 0)))] (by kernel_rfl) (by kernel_rfl) ?_
        refine reg_end [(1, Value.int .i64 task), (2, Value.pointer (some ⟨b_, 0, none⟩)), (21, Value.bool (decide (task < 0)))] (by kernel_rfl) (by kernel_rfl) ?_
        change WpE _ _ c_towpathref13_Name_29 _ _ _
        refine wpE_cond (o := (Operand.tmp 21)) (b := (decide (task < 0))) (x := c_towpathref13_Name_30) (y := c_towpathref13_Name_34) (by kernel_rfl) (by kernel_rfl) (fun hb => ?_) (fun hb => ?_)
        · replace h := h.1 hb
          refine wpE_seq (x := c_towpathref13_Name_31) (y := c_towpathref13_Name_33) (by kernel_rfl) ?_
          refine wpE_region (id := 7) (ops := r_towpathref13_Name_31) (by kernel_rfl) ?_
          refine reg_run [.plain, .plain, .plain, .plain] 4 [(4, [], Value.string (ByteArray.mk #[99, 97, 108, 108])), (5, [], Value.int .i64 task), (6, [], Value.int .i64 0)] (by kernel_rfl) (by kernel_rfl) ?_
          refine reg_end [(4, Value.string (ByteArray.mk #[99, 97, 108, 108])), (5, Value.int .i64 task), (6, Value.int .i64 0)] (by kernel_rfl) (by kernel_rfl) ?_
          change WpE _ _ c_towpathref13_Name_33 _ _ _
          refine wpE_ret (by kernel_rfl) ?_
          repeat (first | refine seqQ_ret ?_ | refine blockQ_ret ?_ | refine loopQ_ret ?_ | refine cutQ_ret ?_)
          exact retT (rs := [(Go.ResultVar.tmp 4), (Go.ResultVar.tmp 5), (Go.ResultVar.tmp 6)]) (vs := [Value.string (ByteArray.mk #[99, 97, 108, 108]), Value.int .i64 task, Value.int .i64 0]) (by kernel_rfl) (⟨by kernel_rfl, ⟨by kernel_rfl, ⟨by kernel_rfl, trivial⟩⟩⟩) (by kernel_rfl) ⟨(ByteArray.mk #[99, 97, 108, 108]), task, 0, rfl, h⟩
        · replace h := h.2 hb
          refine wpE_seq (x := c_towpathref13_Name_35) (y := c_towpathref13_Name_37) (by kernel_rfl) ?_
          refine wpE_region (id := 8) (ops := r_towpathref13_Name_35) (by kernel_rfl) ?_
          refine reg_run [.plain, .plain, .plain] 3 [(1, [], Value.int .i64 task), (2, [], Value.pointer (some ⟨b_, 0, none⟩)), (25, [], Value.bool (task == 0))] (by kernel_rfl) (by kernel_rfl) ?_
          refine reg_end [(1, Value.int .i64 task), (2, Value.pointer (some ⟨b_, 0, none⟩)), (25, Value.bool (task == 0))] (by kernel_rfl) (by kernel_rfl) ?_
          change WpE _ _ c_towpathref13_Name_37 _ _ _
          refine wpE_cond (o := (Operand.tmp 25)) (b := (task == 0)) (x := c_towpathref13_Name_38) (y := c_towpathref13_Name_42) (by kernel_rfl) (by kernel_rfl) (fun hb => ?_) (fun hb => ?_)
          · replace h := h.1 hb
            refine wpE_seq (x := c_towpathref13_Name_39) (y := c_towpathref13_Name_41) (by kernel_rfl) ?_
            refine wpE_region (id := 9) (ops := r_towpathref13_Name_39) (by kernel_rfl) ?_
            refine reg_run [.plain, .plain, .plain] 3 [(4, [], Value.string (ByteArray.mk #[100, 105, 115, 112, 97, 116, 99, 104, 101, 114])), (5, [], Value.int .i64 0), (6, [], Value.int .i64 0)] (by kernel_rfl) (by kernel_rfl) ?_
            refine reg_end [(4, Value.string (ByteArray.mk #[100, 105, 115, 112, 97, 116, 99, 104, 101, 114])), (5, Value.int .i64 0), (6, Value.int .i64 0)] (by kernel_rfl) (by kernel_rfl) ?_
            change WpE _ _ c_towpathref13_Name_41 _ _ _
            refine wpE_ret (by kernel_rfl) ?_
            repeat (first | refine seqQ_ret ?_ | refine blockQ_ret ?_ | refine loopQ_ret ?_ | refine cutQ_ret ?_)
            exact retT (rs := [(Go.ResultVar.tmp 4), (Go.ResultVar.tmp 5), (Go.ResultVar.tmp 6)]) (vs := [Value.string (ByteArray.mk #[100, 105, 115, 112, 97, 116, 99, 104, 101, 114]), Value.int .i64 0, Value.int .i64 0]) (by kernel_rfl) (⟨by kernel_rfl, ⟨by kernel_rfl, ⟨by kernel_rfl, trivial⟩⟩⟩) (by kernel_rfl) ⟨(ByteArray.mk #[100, 105, 115, 112, 97, 116, 99, 104, 101, 114]), 0, 0, rfl, h⟩
          · replace h := h.2 hb
            refine wpE_seq (x := c_towpathref13_Name_43) (y := c_towpathref13_Name_45) (by kernel_rfl) ?_
            refine wpE_region (id := 10) (ops := r_towpathref13_Name_43) (by kernel_rfl) ?_
            refine reg_run [.plain, .plain] 2 [(1, [], Value.int .i64 task), (2, [], Value.pointer (some ⟨b_, 0, none⟩)), (29, [], Value.int .i64 task), (30, [], Value.pointer (some ⟨b_, 0, none⟩))] (by kernel_rfl) (by kernel_rfl) ?_
            obtain ⟨v31, hc, h⟩ := h
            refine reg_load1 (t := 3) (a := (Go.Operand.tmp 30)) (b := b_) (o := 0) (ty := 3) (dst := some 31) (by kernel_rfl) (by kernel_rfl) (by kernel_rfl) hc ?_
            refine reg_run [.plain, .plain] 5 [(1, [], Value.int .i64 task), (2, [], Value.pointer (some ⟨b_, 0, none⟩)), (28, [], Value.bool (decide (task ≤ v31)))] (by kernel_rfl) (by kernel_rfl) ?_
            refine reg_end [(1, Value.int .i64 task), (2, Value.pointer (some ⟨b_, 0, none⟩)), (28, Value.bool (decide (task ≤ v31)))] (by kernel_rfl) (by kernel_rfl) ?_
            change WpE _ _ c_towpathref13_Name_45 _ _ _
            refine wpE_cond (o := (Operand.tmp 28)) (b := (decide (task ≤ v31))) (x := c_towpathref13_Name_46) (y := c_towpathref13_Name_50) (by kernel_rfl) (by kernel_rfl) (fun hb => ?_) (fun hb => ?_)
            · replace h := h.1 hb
              refine wpE_seq (x := c_towpathref13_Name_47) (y := c_towpathref13_Name_49) (by kernel_rfl) ?_
              refine wpE_region (id := 11) (ops := r_towpathref13_Name_47) (by kernel_rfl) ?_
              refine reg_run [.plain, .plain, .plain, .plain] 4 [(4, [], Value.string (ByteArray.mk #[108, 97, 110, 101])), (5, [], Value.int .i64 task), (6, [], Value.int .i64 0)] (by kernel_rfl) (by kernel_rfl) ?_
              refine reg_end [(4, Value.string (ByteArray.mk #[108, 97, 110, 101])), (5, Value.int .i64 task), (6, Value.int .i64 0)] (by kernel_rfl) (by kernel_rfl) ?_
              change WpE _ _ c_towpathref13_Name_49 _ _ _
              refine wpE_ret (by kernel_rfl) ?_
              repeat (first | refine seqQ_ret ?_ | refine blockQ_ret ?_ | refine loopQ_ret ?_ | refine cutQ_ret ?_)
              exact retT (rs := [(Go.ResultVar.tmp 4), (Go.ResultVar.tmp 5), (Go.ResultVar.tmp 6)]) (vs := [Value.string (ByteArray.mk #[108, 97, 110, 101]), Value.int .i64 task, Value.int .i64 0]) (by kernel_rfl) (⟨by kernel_rfl, ⟨by kernel_rfl, ⟨by kernel_rfl, trivial⟩⟩⟩) (by kernel_rfl) ⟨(ByteArray.mk #[108, 97, 110, 101]), task, 0, rfl, h⟩
            · replace h := h.2 hb
              refine wpE_seq (x := c_towpathref13_Name_51) (y := c_towpathref13_Name_53) (by kernel_rfl) ?_
              refine wpE_region (id := 12) (ops := r_towpathref13_Name_51) (by kernel_rfl) ?_
              refine reg_run [.plain, .plain] 2 [(1, [], Value.int .i64 task), (2, [], Value.pointer (some ⟨b_, 0, none⟩)), (35, [], Value.int .i64 task), (36, [], Value.pointer (some ⟨b_, 0, none⟩))] (by kernel_rfl) (by kernel_rfl) ?_
              obtain ⟨v37, hc, h⟩ := h
              refine reg_load1 (t := 3) (a := (Go.Operand.tmp 36)) (b := b_) (o := 0) (ty := 3) (dst := some 37) (by kernel_rfl) (by kernel_rfl) (by kernel_rfl) hc ?_
              refine reg_run [.plain] 4 [(1, [], Value.int .i64 task), (2, [], Value.pointer (some ⟨b_, 0, none⟩)), (35, [], Value.int .i64 task), (37, [], Value.int .i64 v37), (38, [], Value.pointer (some ⟨b_, 1, none⟩))] (by kernel_rfl) (by kernel_rfl) ?_
              obtain ⟨v39, hc, h⟩ := h
              refine reg_load1 (t := 3) (a := (Go.Operand.tmp 38)) (b := b_) (o := 1) (ty := 3) (dst := some 39) (by kernel_rfl) (by kernel_rfl) (by kernel_rfl) hc ?_
              refine reg_run [.plain, .plain, .plain] 8 [(1, [], Value.int .i64 task), (2, [], Value.pointer (some ⟨b_, 0, none⟩)), (34, [], Value.bool (decide (task ≤ (IntKind.i64.wrap (v37 + v39)))))] (by kernel_rfl) (by kernel_rfl) ?_
              refine reg_end [(1, Value.int .i64 task), (2, Value.pointer (some ⟨b_, 0, none⟩)), (34, Value.bool (decide (task ≤ (IntKind.i64.wrap (v37 + v39)))))] (by kernel_rfl) (by kernel_rfl) ?_
              change WpE _ _ c_towpathref13_Name_53 _ _ _
              refine wpE_cond (o := (Operand.tmp 34)) (b := (decide (task ≤ (IntKind.i64.wrap (v37 + v39))))) (x := c_towpathref13_Name_54) (y := c_towpathref13_Name_58) (by kernel_rfl) (by kernel_rfl) (fun hb => ?_) (fun hb => ?_)
              · replace h := h.1 hb
                refine wpE_seq (x := c_towpathref13_Name_55) (y := c_towpathref13_Name_57) (by kernel_rfl) ?_
                refine wpE_drawregion (id := 13) (ops := r_towpathref13_Name_55) (by kernel_rfl) (by kernel_rfl) (by kernel_rfl) ?_
                refine qreg_run [.plain, .plain] 2 [(42, [], Value.int .i64 task), (43, [], Value.pointer (some ⟨b_, 0, none⟩))] (by kernel_rfl) (by kernel_rfl) ?_
                obtain ⟨v44, hc, h⟩ := h
                refine qreg_load1 (t := 3) (a := (Go.Operand.tmp 43)) (b := b_) (o := 0) (ty := 3) (dst := some 44) (by kernel_rfl) (by kernel_rfl) (by kernel_rfl) hc ?_
                refine qreg_run [.plain, .plain, .plain, .plain, .plain] 8 [(4, [], Value.string (ByteArray.mk #[111, 119, 110, 101, 114])), (5, [], Value.int .i64 (IntKind.i64.wrap ((IntKind.i64.wrap (task - v44)) - 1))), (6, [], Value.int .i64 0)] (by kernel_rfl) (by kernel_rfl) ?_
                refine qreg_end [(4, Value.string (ByteArray.mk #[111, 119, 110, 101, 114])), (5, Value.int .i64 (IntKind.i64.wrap ((IntKind.i64.wrap (task - v44)) - 1))), (6, Value.int .i64 0)] (by kernel_rfl) (by kernel_rfl) (fun w3 hw => ?_)
                replace h := h w3 hw
                clear hw
                change WpE _ _ c_towpathref13_Name_57 _ _ _
                refine wpE_ret (by kernel_rfl) ?_
                repeat (first | refine seqQ_ret ?_ | refine blockQ_ret ?_ | refine loopQ_ret ?_ | refine cutQ_ret ?_)
                exact retT (rs := [(Go.ResultVar.tmp 4), (Go.ResultVar.tmp 5), (Go.ResultVar.tmp 6)]) (vs := [Value.string (ByteArray.mk #[111, 119, 110, 101, 114]), Value.int .i64 (IntKind.i64.wrap ((IntKind.i64.wrap (task - v44)) - 1)), Value.int .i64 0]) (by kernel_rfl) (⟨by kernel_rfl, ⟨by kernel_rfl, ⟨by kernel_rfl, trivial⟩⟩⟩) (by kernel_rfl) ⟨(ByteArray.mk #[111, 119, 110, 101, 114]), (IntKind.i64.wrap ((IntKind.i64.wrap (task - v44)) - 1)), 0, rfl, h⟩
              · replace h := h.2 hb
                refine wpE_skip (by kernel_rfl) ?_
                change WpE _ _ c_towpathref13_Name_59 _ _ _
                refine wpE_seq (x := c_towpathref13_Name_60) (y := c_towpathref13_Name_62) (by kernel_rfl) ?_
                refine wpE_region (id := 14) (ops := r_towpathref13_Name_60) (by kernel_rfl) ?_
                refine reg_run [.plain, .plain, .plain] 3 [(4, [], Value.string (ByteArray.mk #[103, 97, 116, 101])), (5, [], Value.int .i64 0), (6, [], Value.int .i64 0)] (by kernel_rfl) (by kernel_rfl) ?_
                refine reg_end [(4, Value.string (ByteArray.mk #[103, 97, 116, 101])), (5, Value.int .i64 0), (6, Value.int .i64 0)] (by kernel_rfl) (by kernel_rfl) ?_
                change WpE _ _ c_towpathref13_Name_62 _ _ _
                refine wpE_ret (by kernel_rfl) ?_
                repeat (first | refine seqQ_ret ?_ | refine blockQ_ret ?_ | refine loopQ_ret ?_ | refine cutQ_ret ?_)
                exact retT (rs := [(Go.ResultVar.tmp 4), (Go.ResultVar.tmp 5), (Go.ResultVar.tmp 6)]) (vs := [Value.string (ByteArray.mk #[103, 97, 116, 101]), Value.int .i64 0, Value.int .i64 0]) (by kernel_rfl) (⟨by kernel_rfl, ⟨by kernel_rfl, ⟨by kernel_rfl, trivial⟩⟩⟩) (by kernel_rfl) ⟨(ByteArray.mk #[103, 97, 116, 101]), 0, 0, rfl, h⟩
  · rintro e w' ⟨v, rfl, r0, r1, r2, rfl, h⟩; exact ⟨r0, r1, r2, rfl, h⟩

/-! ### towpath/towpathref13.in (function 45) -/
noncomputable def c_towpathref13_in_0 : Code := (Try.f45.body).getD Code.skip
noncomputable def c_towpathref13_in_1 : Code := Code.l c_towpathref13_in_0
noncomputable def r_towpathref13_in_1 : Array Oper := Code.ops c_towpathref13_in_1
noncomputable def c_towpathref13_in_3 : Code := Code.r c_towpathref13_in_0
noncomputable def c_towpathref13_in_4 : Code := Code.l c_towpathref13_in_3
noncomputable def r_towpathref13_in_4 : Array Oper := Code.ops c_towpathref13_in_4
noncomputable def c_towpathref13_in_6 : Code := Code.r c_towpathref13_in_3

set_option maxRecDepth 100000 in
set_option maxHeartbeats 4000000 in
theorem S_towpathref13_in {n_ : Int} {most : Int} {w : World} {R : Bool → World → Prop} (h : F_towpathref13_in n_ most R w) : C_towpathref13_in n_ most w R := by
  unfold F_towpathref13_in at h
  unfold C_towpathref13_in
  refine Calls.mono (calls_of_wpE (args := [Value.int .i64 n_, Value.int .i64 most]) (R := fun v w' => ∃ (r0 : Bool), v = Value.bool r0 ∧ R r0 w') Try.func45 (c := c_towpathref13_in_0) (by kernel_rfl) 12 (by kernel_rfl) (by kernel_rfl) [(0, Value.int .i64 n_), (1, Value.int .i64 most)] (by kernel_rfl) ?_) ?_
  · refine wpE_seq (x := c_towpathref13_in_1) (y := c_towpathref13_in_3) (by kernel_rfl) ?_
    refine wpE_region (id := 0) (ops := r_towpathref13_in_1) (by kernel_rfl) ?_
    refine reg_run [.plain] 1 [(0, [], Value.int .i64 n_), (1, [], Value.int .i64 most)] (by kernel_rfl) (by kernel_rfl) ?_
    refine reg_end [(0, Value.int .i64 n_), (1, Value.int .i64 most)] (by kernel_rfl) (by kernel_rfl) ?_
    change WpE _ _ c_towpathref13_in_3 _ _ _
    refine wpE_seq (x := c_towpathref13_in_4) (y := c_towpathref13_in_6) (by kernel_rfl) ?_
    refine wpE_region (id := 1) (ops := r_towpathref13_in_4) (by kernel_rfl) ?_
    refine reg_run [.plain, .plain, .plain, .plain, .plain, .plain, .pick, .plain] 8 [(4, [], Value.bool ((decide (n_ ≥ 1)) && (decide (n_ ≤ most))))] (by kernel_rfl) (by kernel_rfl) ?_
    refine reg_end [(4, Value.bool ((decide (n_ ≥ 1)) && (decide (n_ ≤ most))))] (by kernel_rfl) (by kernel_rfl) ?_
    change WpE _ _ c_towpathref13_in_6 _ _ _
    refine wpE_ret (by kernel_rfl) ?_
    repeat (first | refine seqQ_ret ?_ | refine blockQ_ret ?_ | refine loopQ_ret ?_ | refine cutQ_ret ?_)
    exact retS (rs := [(Go.ResultVar.tmp 4)]) (v := Value.bool ((decide (n_ ≥ 1)) && (decide (n_ ≤ most)))) (by kernel_rfl) (⟨by kernel_rfl, trivial⟩) ⟨((decide (n_ ≥ 1)) && (decide (n_ ≤ most))), rfl, h⟩
  · rintro e w' ⟨v, rfl, r0, rfl, h⟩; exact ⟨r0, rfl, h⟩
end Go.Proofs.Ytchcljkflklddaa
