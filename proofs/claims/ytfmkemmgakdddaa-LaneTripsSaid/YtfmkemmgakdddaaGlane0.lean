/- WRITTEN BY PROGRAM (dec.py): for each Go function the clean formula F, the call's contract C, and the proof S that F gives C. -/
import Derived.Test.YtfmkemmgakdddaaRows
import Derived.Test.YtfmkemmgakdddaaGF
namespace Go.Proofs.Ytfmkemmgakdddaa
open Go
set_option linter.unusedVariables false

/-! ### towpath/lane.New (function 17) -/
noncomputable def c_lane_New_0 : Code := (Try.f17.body).getD Code.skip
noncomputable def c_lane_New_1 : Code := Code.l c_lane_New_0
noncomputable def r_lane_New_1 : Array Oper := Code.ops c_lane_New_1
noncomputable def c_lane_New_3 : Code := Code.r c_lane_New_0
noncomputable def c_lane_New_4 : Code := Code.l c_lane_New_3
noncomputable def c_lane_New_5 : Code := Code.l c_lane_New_4
noncomputable def c_lane_New_6 : Code := Code.l c_lane_New_5
noncomputable def r_lane_New_6 : Array Oper := Code.ops c_lane_New_6
noncomputable def c_lane_New_8 : Code := Code.r c_lane_New_5
noncomputable def c_lane_New_9 : Code := Code.l c_lane_New_8
noncomputable def c_lane_New_10 : Code := Code.l c_lane_New_9
noncomputable def r_lane_New_10 : Array Oper := Code.ops c_lane_New_10
noncomputable def c_lane_New_12 : Code := Code.r c_lane_New_9
noncomputable def c_lane_New_13 : Code := Code.r c_lane_New_8
noncomputable def c_lane_New_14 : Code := Code.l c_lane_New_13
noncomputable def r_lane_New_14 : Array Oper := Code.ops c_lane_New_14
noncomputable def c_lane_New_16 : Code := Code.r c_lane_New_13
noncomputable def c_lane_New_17 : Code := Code.l c_lane_New_16
noncomputable def c_lane_New_18 : Code := Code.l c_lane_New_17
noncomputable def r_lane_New_18 : Array Oper := Code.ops c_lane_New_18
noncomputable def c_lane_New_20 : Code := Code.r c_lane_New_17
noncomputable def c_lane_New_21 : Code := Code.r c_lane_New_16
noncomputable def c_lane_New_22 : Code := Code.r c_lane_New_3
noncomputable def c_lane_New_23 : Code := Code.l c_lane_New_22
noncomputable def r_lane_New_23 : Array Oper := Code.ops c_lane_New_23
noncomputable def c_lane_New_25 : Code := Code.r c_lane_New_22

set_option maxRecDepth 100000 in
set_option maxHeartbeats 4000000 in
theorem S_lane_New {number : Int} {c : T_api_Config} {w : World} {R : Option Addr → Int → World → Prop} (h : F_lane_New number c R w) : C_lane_New number c w R := by
  unfold F_lane_New at h
  unfold C_lane_New
  refine Calls.mono (calls_of_wpE (args := [Value.int .i64 number, Value.agg #[Value.int .i64 c.Lanes, Value.int .i64 c.Shards, Value.int .i64 c.Window, Value.int .i64 c.Queue]]) (R := fun v w' => ∃ (r0 : Option Addr) (r1 : Int), v = Value.tuple #[Value.pointer r0, Value.int .i64 r1] ∧ R r0 r1 w') Try.func17 (c := c_lane_New_0) (by kernel_rfl) 25 (by kernel_rfl) (by kernel_rfl) [(0, Value.int .i64 number), (1, Value.agg #[Value.int .i64 c.Lanes, Value.int .i64 c.Shards, Value.int .i64 c.Window, Value.int .i64 c.Queue])] (by kernel_rfl) ?_) ?_
  · refine wpE_seq (x := c_lane_New_1) (y := c_lane_New_3) (by kernel_rfl) ?_
    refine wpE_region (id := 0) (ops := r_lane_New_1) (by kernel_rfl) ?_
    refine reg_run [] 0 [(0, [], Value.int .i64 number), (1, [], Value.agg #[Value.int .i64 c.Lanes, Value.int .i64 c.Shards, Value.int .i64 c.Window, Value.int .i64 c.Queue])] (by kernel_rfl) (by kernel_rfl) ?_
    refine reg_new (op := (Go.Op.box 35 (Go.Operand.tmp 1))) (ty := 0) (dst := some 3) (fun bb => Value.pointer (some ⟨bb, 0, none⟩)) (Obj.cells ([Value.int .i64 c.Lanes, Value.int .i64 c.Shards, Value.int .i64 c.Window, Value.int .i64 c.Queue]).toArray ty_api_Config (0, 0)) (by kernel_rfl) (by kernel_rfl) (fun b_ w1 hb hw => ?_)
    replace h := h b_ w1 hb hw
    clear hb hw
    refine reg_run [.plain, .plain] 3 [(0, [], Value.int .i64 number), (3, [], Value.pointer (some ⟨b_, 0, none⟩))] (by kernel_rfl) (by kernel_rfl) ?_
    refine reg_end [(0, Value.int .i64 number), (3, Value.pointer (some ⟨b_, 0, none⟩))] (by kernel_rfl) (by kernel_rfl) ?_
    change WpE _ _ c_lane_New_3 _ _ _
    refine wpE_seq (x := c_lane_New_4) (y := c_lane_New_22) (by kernel_rfl) ?_
    refine wpE_block (id := 0) (x := c_lane_New_5) (by kernel_rfl) ?_
    refine wpE_seq (x := c_lane_New_6) (y := c_lane_New_8) (by kernel_rfl) ?_
    refine wpE_region (id := 1) (ops := r_lane_New_6) (by kernel_rfl) ?_
    refine reg_run [] 0 [(0, [], Value.int .i64 number), (3, [], Value.pointer (some ⟨b_, 0, none⟩))] (by kernel_rfl) (by kernel_rfl) ?_
    obtain ⟨v7, hc, h⟩ := h
    refine reg_loadN (t := 35) (a := (Go.Operand.tmp 3)) (b := b_) (o := 0) (ty := 35) (dst := some 7) [Value.int .i64 v7.Lanes, Value.int .i64 v7.Shards, Value.int .i64 v7.Window, Value.int .i64 v7.Queue] (by kernel_rfl) (by kernel_rfl) (by kernel_rfl) (k := 4) (by kernel_rfl) (by kernel_rfl) hc ?_
    refine reg_run [] 1 [(0, [], Value.int .i64 number), (3, [], Value.pointer (some ⟨b_, 0, none⟩)), (7, [], Value.agg #[Value.int .i64 v7.Lanes, Value.int .i64 v7.Shards, Value.int .i64 v7.Window, Value.int .i64 v7.Queue])] (by kernel_rfl) (by kernel_rfl) ?_
    refine reg_enter (op := (Go.Op.call (Go.Call.mk (Go.Callee.value (Go.Operand.func 21)) #[(Go.Operand.tmp 7)] #[35]))) (ty := 28) (dst := some 8) 21 #[Value.agg #[Value.int .i64 v7.Lanes, Value.int .i64 v7.Shards, Value.int .i64 v7.Window, Value.int .i64 v7.Queue]] (by kernel_rfl) (fun ww => by kernel_rfl) (Calls.mono h ?_)
    rintro _ w2 ⟨v8, rfl, h⟩
    refine ⟨_, rfl, ?_⟩
    refine reg_run [.plain, .plain] 4 [(0, [], Value.int .i64 number), (3, [], Value.pointer (some ⟨b_, 0, none⟩)), (6, [], Value.bool (v8 != 0))] (by kernel_rfl) (by kernel_rfl) ?_
    refine reg_end [(0, Value.int .i64 number), (3, Value.pointer (some ⟨b_, 0, none⟩)), (6, Value.bool (v8 != 0))] (by kernel_rfl) (by kernel_rfl) ?_
    change WpE _ _ c_lane_New_8 _ _ _
    refine wpE_cond (o := (Operand.tmp 6)) (b := (v8 != 0)) (x := c_lane_New_9) (y := c_lane_New_13) (by kernel_rfl) (by kernel_rfl) (fun hb => ?_) (fun hb => ?_)
    · replace h := h.1 hb
      refine wpE_seq (x := c_lane_New_10) (y := c_lane_New_12) (by kernel_rfl) ?_
      refine wpE_region (id := 2) (ops := r_lane_New_10) (by kernel_rfl) ?_
      refine reg_run [.plain, .plain] 2 [(4, [], Value.pointer none), (5, [], Value.int .i64 7)] (by kernel_rfl) (by kernel_rfl) ?_
      refine reg_end [(4, Value.pointer none), (5, Value.int .i64 7)] (by kernel_rfl) (by kernel_rfl) ?_
      change WpE _ _ c_lane_New_12 _ _ _
      refine wpE_ret (by kernel_rfl) ?_
      repeat (first | refine seqQ_ret ?_ | refine blockQ_ret ?_ | refine loopQ_ret ?_ | refine cutQ_ret ?_)
      exact retT (rs := [(Go.ResultVar.tmp 4), (Go.ResultVar.tmp 5)]) (vs := [Value.pointer none, Value.int .i64 7]) (by kernel_rfl) (⟨by kernel_rfl, ⟨by kernel_rfl, trivial⟩⟩) (by kernel_rfl) ⟨none, 7, rfl, h⟩
    · replace h := h.2 hb
      refine wpE_seq_cut (x := c_lane_New_14) (y := c_lane_New_16) (by kernel_rfl) (fun l w => ∃ (t10 : Bool), l = [(0, Value.int .i64 number), (3, Value.pointer (some ⟨b_, 0, none⟩)), (10, Value.bool t10)] ∧ F_lane_New_k0 number R b_ t10 w) ?_ ?_
      · refine wpE_region (id := 3) (ops := r_lane_New_14) (by kernel_rfl) ?_
        refine reg_run [.plain, .plain, .plain, .plain, .plain] 5 [(0, [], Value.int .i64 number), (3, [], Value.pointer (some ⟨b_, 0, none⟩)), (13, [], Value.bool (decide (number < 1))), (14, [(13, false)], Value.int .i64 number), (15, [(13, false)], Value.pointer (some ⟨b_, 0, none⟩))] (by kernel_rfl) (by kernel_rfl) ?_
        refine reg_split 13 (decide (number < 1)) (by kernel_rfl) (fun hb => ?_) (fun hb => ?_)
        · replace h := h.1 hb
          refine reg_run [] 5 [(0, [], Value.int .i64 number), (3, [], Value.pointer (some ⟨b_, 0, none⟩)), (13, [], Value.bool true), (14, [], undef), (15, [], undef)] (by kernel_rfl) (by kernel_rfl) ?_
          refine reg_run [.skip, .skip, .plain, .plain] 9 [(0, [], Value.int .i64 number), (3, [], Value.pointer (some ⟨b_, 0, none⟩)), (10, [], Value.bool true)] (by kernel_rfl) (by kernel_rfl) ?_
          refine reg_end [(0, Value.int .i64 number), (3, Value.pointer (some ⟨b_, 0, none⟩)), (10, Value.bool true)] (by kernel_rfl) (by kernel_rfl) ?_
          exact ⟨[(0, Value.int .i64 number), (3, Value.pointer (some ⟨b_, 0, none⟩)), (10, Value.bool true)], Sub.mk (by kernel_rfl), true, rfl, h⟩
        · replace h := h.2 hb
          refine reg_run [] 5 [(0, [], Value.int .i64 number), (3, [], Value.pointer (some ⟨b_, 0, none⟩)), (13, [], Value.bool false), (14, [], Value.int .i64 number), (15, [], Value.pointer (some ⟨b_, 0, none⟩))] (by kernel_rfl) (by kernel_rfl) ?_
          refine reg_run [] 5 [(0, [], Value.int .i64 number), (3, [], Value.pointer (some ⟨b_, 0, none⟩)), (13, [], Value.bool false), (14, [], Value.int .i64 number), (15, [], Value.pointer (some ⟨b_, 0, none⟩))] (by kernel_rfl) (by kernel_rfl) ?_
          obtain ⟨v16, hc, h⟩ := h
          refine reg_load1 (t := 3) (a := (Go.Operand.tmp 15)) (b := b_) (o := 0) (ty := 3) (dst := some 16) (by kernel_rfl) (by kernel_rfl) (by kernel_rfl) hc ?_
          refine reg_run [.sure, .plain, .plain] 9 [(0, [], Value.int .i64 number), (3, [], Value.pointer (some ⟨b_, 0, none⟩)), (10, [], Value.bool (decide (number > v16)))] (by kernel_rfl) (by kernel_rfl) ?_
          refine reg_end [(0, Value.int .i64 number), (3, Value.pointer (some ⟨b_, 0, none⟩)), (10, Value.bool (decide (number > v16)))] (by kernel_rfl) (by kernel_rfl) ?_
          exact ⟨[(0, Value.int .i64 number), (3, Value.pointer (some ⟨b_, 0, none⟩)), (10, Value.bool (decide (number > v16)))], Sub.mk (by kernel_rfl), (decide (number > v16)), rfl, h⟩
      · rintro _ w3 ⟨t10, rfl, h⟩
        unfold F_lane_New_k0 at h
        refine wpE_cond (o := (Operand.tmp 10)) (b := t10) (x := c_lane_New_17) (y := c_lane_New_21) (by kernel_rfl) (by kernel_rfl) (fun hb => ?_) (fun hb => ?_)
        · replace h := h.1 hb
          refine wpE_seq (x := c_lane_New_18) (y := c_lane_New_20) (by kernel_rfl) ?_
          refine wpE_region (id := 4) (ops := r_lane_New_18) (by kernel_rfl) ?_
          refine reg_run [.plain, .plain] 2 [(4, [], Value.pointer none), (5, [], Value.int .i64 1)] (by kernel_rfl) (by kernel_rfl) ?_
          refine reg_end [(4, Value.pointer none), (5, Value.int .i64 1)] (by kernel_rfl) (by kernel_rfl) ?_
          change WpE _ _ c_lane_New_20 _ _ _
          refine wpE_ret (by kernel_rfl) ?_
          repeat (first | refine seqQ_ret ?_ | refine blockQ_ret ?_ | refine loopQ_ret ?_ | refine cutQ_ret ?_)
          exact retT (rs := [(Go.ResultVar.tmp 4), (Go.ResultVar.tmp 5)]) (vs := [Value.pointer none, Value.int .i64 1]) (by kernel_rfl) (⟨by kernel_rfl, ⟨by kernel_rfl, trivial⟩⟩) (by kernel_rfl) ⟨none, 1, rfl, h⟩
        · replace h := h.2 hb
          refine wpE_skip (by kernel_rfl) ?_
          change WpE _ _ c_lane_New_22 _ _ _
          refine wpE_seq (x := c_lane_New_23) (y := c_lane_New_25) (by kernel_rfl) ?_
          refine wpE_region (id := 5) (ops := r_lane_New_23) (by kernel_rfl) ?_
          refine reg_run [.plain] 1 [(3, [], Value.pointer (some ⟨b_, 0, none⟩)), (19, [], Value.int .i64 number)] (by kernel_rfl) (by kernel_rfl) ?_
          obtain ⟨v20, hc, h⟩ := h
          refine reg_loadN (t := 35) (a := (Go.Operand.tmp 3)) (b := b_) (o := 0) (ty := 35) (dst := some 20) [Value.int .i64 v20.Lanes, Value.int .i64 v20.Shards, Value.int .i64 v20.Window, Value.int .i64 v20.Queue] (by kernel_rfl) (by kernel_rfl) (by kernel_rfl) (k := 4) (by kernel_rfl) (by kernel_rfl) hc ?_
          refine reg_run [.plain, .plain, .plain] 5 [(23, [], Value.agg #[Value.int .i64 number, Value.int .i64 v20.Lanes, Value.int .i64 v20.Shards, Value.int .i64 v20.Window, Value.int .i64 v20.Queue, Value.iface 96 (Value.agg #[])])] (by kernel_rfl) (by kernel_rfl) ?_
          refine reg_new (op := (Go.Op.box 47 (Go.Operand.tmp 23))) (ty := 38) (dst := some 24) (fun bb => Value.pointer (some ⟨bb, 0, none⟩)) (Obj.cells ([Value.int .i64 number, Value.int .i64 v20.Lanes, Value.int .i64 v20.Shards, Value.int .i64 v20.Window, Value.int .i64 v20.Queue, Value.iface 96 (Value.agg #[])]).toArray ty_lane_Lane (0, 0)) (by kernel_rfl) (by kernel_rfl) (fun b_1 w4 hb hw => ?_)
          replace h := h b_1 w4 hb hw
          clear hb hw
          refine reg_run [.plain, .plain] 8 [(4, [], Value.pointer (some ⟨b_1, 0, none⟩)), (5, [], Value.int .i64 0)] (by kernel_rfl) (by kernel_rfl) ?_
          refine reg_end [(4, Value.pointer (some ⟨b_1, 0, none⟩)), (5, Value.int .i64 0)] (by kernel_rfl) (by kernel_rfl) ?_
          change WpE _ _ c_lane_New_25 _ _ _
          refine wpE_ret (by kernel_rfl) ?_
          repeat (first | refine seqQ_ret ?_ | refine blockQ_ret ?_ | refine loopQ_ret ?_ | refine cutQ_ret ?_)
          exact retT (rs := [(Go.ResultVar.tmp 4), (Go.ResultVar.tmp 5)]) (vs := [Value.pointer (some ⟨b_1, 0, none⟩), Value.int .i64 0]) (by kernel_rfl) (⟨by kernel_rfl, ⟨by kernel_rfl, trivial⟩⟩) (by kernel_rfl) ⟨(some ⟨b_1, 0, none⟩), 0, rfl, h⟩
  · rintro e w' ⟨v, rfl, r0, r1, rfl, h⟩; exact ⟨r0, r1, rfl, h⟩

/-! ### (*towpath/lane.Lane).Take (function 23) -/
noncomputable def c_lane_Lane_Take_0 : Code := (Try.f23.body).getD Code.skip
noncomputable def c_lane_Lane_Take_1 : Code := Code.l c_lane_Lane_Take_0
noncomputable def r_lane_Lane_Take_1 : Array Oper := Code.ops c_lane_Lane_Take_1
noncomputable def c_lane_Lane_Take_3 : Code := Code.r c_lane_Lane_Take_0
noncomputable def c_lane_Lane_Take_4 : Code := Code.l c_lane_Lane_Take_3
noncomputable def c_lane_Lane_Take_5 : Code := Code.l c_lane_Lane_Take_4
noncomputable def r_lane_Lane_Take_5 : Array Oper := Code.ops c_lane_Lane_Take_5
noncomputable def c_lane_Lane_Take_7 : Code := Code.r c_lane_Lane_Take_4
noncomputable def c_lane_Lane_Take_8 : Code := Code.l c_lane_Lane_Take_7
noncomputable def c_lane_Lane_Take_9 : Code := Code.l c_lane_Lane_Take_8
noncomputable def r_lane_Lane_Take_9 : Array Oper := Code.ops c_lane_Lane_Take_9
noncomputable def c_lane_Lane_Take_11 : Code := Code.r c_lane_Lane_Take_8
noncomputable def c_lane_Lane_Take_12 : Code := Code.r c_lane_Lane_Take_7
noncomputable def c_lane_Lane_Take_13 : Code := Code.r c_lane_Lane_Take_3
noncomputable def c_lane_Lane_Take_14 : Code := Code.l c_lane_Lane_Take_13
noncomputable def c_lane_Lane_Take_15 : Code := Code.l c_lane_Lane_Take_14
noncomputable def r_lane_Lane_Take_15 : Array Oper := Code.ops c_lane_Lane_Take_15
noncomputable def c_lane_Lane_Take_17 : Code := Code.r c_lane_Lane_Take_14
noncomputable def c_lane_Lane_Take_18 : Code := Code.l c_lane_Lane_Take_17
noncomputable def r_lane_Lane_Take_18 : Array Oper := Code.ops c_lane_Lane_Take_18
noncomputable def c_lane_Lane_Take_20 : Code := Code.r c_lane_Lane_Take_17
noncomputable def c_lane_Lane_Take_21 : Code := Code.l c_lane_Lane_Take_20
noncomputable def c_lane_Lane_Take_22 : Code := Code.l c_lane_Lane_Take_21
noncomputable def r_lane_Lane_Take_22 : Array Oper := Code.ops c_lane_Lane_Take_22
noncomputable def c_lane_Lane_Take_24 : Code := Code.r c_lane_Lane_Take_21
noncomputable def c_lane_Lane_Take_25 : Code := Code.r c_lane_Lane_Take_20
noncomputable def c_lane_Lane_Take_26 : Code := Code.r c_lane_Lane_Take_13
noncomputable def c_lane_Lane_Take_27 : Code := Code.l c_lane_Lane_Take_26
noncomputable def c_lane_Lane_Take_28 : Code := Code.l c_lane_Lane_Take_27
noncomputable def r_lane_Lane_Take_28 : Array Oper := Code.ops c_lane_Lane_Take_28
noncomputable def c_lane_Lane_Take_30 : Code := Code.r c_lane_Lane_Take_27
noncomputable def c_lane_Lane_Take_31 : Code := Code.l c_lane_Lane_Take_30
noncomputable def r_lane_Lane_Take_31 : Array Oper := Code.ops c_lane_Lane_Take_31
noncomputable def c_lane_Lane_Take_33 : Code := Code.r c_lane_Lane_Take_30
noncomputable def c_lane_Lane_Take_34 : Code := Code.l c_lane_Lane_Take_33
noncomputable def c_lane_Lane_Take_35 : Code := Code.l c_lane_Lane_Take_34
noncomputable def r_lane_Lane_Take_35 : Array Oper := Code.ops c_lane_Lane_Take_35
noncomputable def c_lane_Lane_Take_37 : Code := Code.r c_lane_Lane_Take_34
noncomputable def c_lane_Lane_Take_38 : Code := Code.r c_lane_Lane_Take_33
noncomputable def c_lane_Lane_Take_39 : Code := Code.r c_lane_Lane_Take_26
noncomputable def c_lane_Lane_Take_40 : Code := Code.l c_lane_Lane_Take_39
noncomputable def r_lane_Lane_Take_40 : Array Oper := Code.ops c_lane_Lane_Take_40
noncomputable def c_lane_Lane_Take_42 : Code := Code.r c_lane_Lane_Take_39
noncomputable def c_lane_Lane_Take_43 : Code := Code.l c_lane_Lane_Take_42
noncomputable def r_lane_Lane_Take_43 : Array Oper := Code.ops c_lane_Lane_Take_43
noncomputable def c_lane_Lane_Take_45 : Code := Code.r c_lane_Lane_Take_42
def o_lane_Lane_Take_40 : List Nat := [0, 1, 2, 3, 4, 5, 6, 7, 8, 9, 10]

set_option maxRecDepth 100000 in
set_option maxHeartbeats 4000000 in
theorem S_lane_Lane_Take {l_ : Option Addr} {t_ : T_api_Txn} {w : World} {R : Int → World → Prop} (h : F_lane_Lane_Take l_ t_ R w) : C_lane_Lane_Take l_ t_ w R := by
  unfold F_lane_Lane_Take at h
  unfold C_lane_Lane_Take
  refine Calls.mono (calls_of_wpE (args := [Value.pointer l_, Value.agg #[Value.int .i64 t_.Number, Value.slice t_.Writes.ptr t_.Writes.len t_.Writes.cap]]) (R := fun v w' => ∃ (r0 : Int), v = Value.int .i64 r0 ∧ R r0 w') Try.func23 (c := c_lane_Lane_Take_0) (by kernel_rfl) 31 (by kernel_rfl) (by kernel_rfl) [(0, Value.pointer l_), (1, Value.agg #[Value.int .i64 t_.Number, Value.slice t_.Writes.ptr t_.Writes.len t_.Writes.cap])] (by kernel_rfl) ?_) ?_
  · refine wpE_seq (x := c_lane_Lane_Take_1) (y := c_lane_Lane_Take_3) (by kernel_rfl) ?_
    refine wpE_region (id := 0) (ops := r_lane_Lane_Take_1) (by kernel_rfl) ?_
    refine reg_run [] 0 [(0, [], Value.pointer l_), (1, [], Value.agg #[Value.int .i64 t_.Number, Value.slice t_.Writes.ptr t_.Writes.len t_.Writes.cap])] (by kernel_rfl) (by kernel_rfl) ?_
    refine reg_new (op := (Go.Op.box 27 (Go.Operand.tmp 1))) (ty := 0) (dst := some 3) (fun bb => Value.pointer (some ⟨bb, 0, none⟩)) (Obj.cells ([Value.int .i64 t_.Number, Value.slice t_.Writes.ptr t_.Writes.len t_.Writes.cap]).toArray ty_api_Txn (0, 0)) (by kernel_rfl) (by kernel_rfl) (fun b_ w1 hb hw => ?_)
    replace h := h b_ w1 hb hw
    clear hb hw
    refine reg_run [.plain] 2 [(0, [], Value.pointer l_), (3, [], Value.pointer (some ⟨b_, 0, none⟩))] (by kernel_rfl) (by kernel_rfl) ?_
    refine reg_end [(0, Value.pointer l_), (3, Value.pointer (some ⟨b_, 0, none⟩))] (by kernel_rfl) (by kernel_rfl) ?_
    change WpE _ _ c_lane_Lane_Take_3 _ _ _
    refine wpE_seq (x := c_lane_Lane_Take_4) (y := c_lane_Lane_Take_13) (by kernel_rfl) ?_
    refine wpE_seq (x := c_lane_Lane_Take_5) (y := c_lane_Lane_Take_7) (by kernel_rfl) ?_
    refine wpE_region (id := 1) (ops := r_lane_Lane_Take_5) (by kernel_rfl) ?_
    refine reg_run [.plain] 1 [(0, [], Value.pointer l_), (3, [], Value.pointer (some ⟨b_, 0, none⟩)), (8, [], Value.pointer l_)] (by kernel_rfl) (by kernel_rfl) ?_
    refine reg_enter (op := (Go.Op.call (Go.Call.mk (Go.Callee.value (Go.Operand.func 59)) #[(Go.Operand.tmp 8)] #[38]))) (ty := 4) (dst := some 9) 59 #[Value.pointer l_] (by kernel_rfl) (fun ww => by kernel_rfl) (Calls.mono h ?_)
    rintro _ w2 ⟨v9, rfl, h⟩
    refine ⟨_, rfl, ?_⟩
    refine reg_end [(0, Value.pointer l_), (3, Value.pointer (some ⟨b_, 0, none⟩)), (9, Value.bool v9)] (by kernel_rfl) (by kernel_rfl) ?_
    change WpE _ _ c_lane_Lane_Take_7 _ _ _
    refine wpE_cond (o := (Operand.tmp 9)) (b := v9) (x := c_lane_Lane_Take_8) (y := c_lane_Lane_Take_12) (by kernel_rfl) (by kernel_rfl) (fun hb => ?_) (fun hb => ?_)
    · replace h := h.1 hb
      refine wpE_seq (x := c_lane_Lane_Take_9) (y := c_lane_Lane_Take_11) (by kernel_rfl) ?_
      refine wpE_region (id := 2) (ops := r_lane_Lane_Take_9) (by kernel_rfl) ?_
      refine reg_run [.plain] 1 [(4, [], Value.int .i64 2)] (by kernel_rfl) (by kernel_rfl) ?_
      refine reg_end [(4, Value.int .i64 2)] (by kernel_rfl) (by kernel_rfl) ?_
      change WpE _ _ c_lane_Lane_Take_11 _ _ _
      refine wpE_ret (by kernel_rfl) ?_
      repeat (first | refine seqQ_ret ?_ | refine blockQ_ret ?_ | refine loopQ_ret ?_ | refine cutQ_ret ?_)
      exact retS (rs := [(Go.ResultVar.tmp 4)]) (v := Value.int .i64 2) (by kernel_rfl) (⟨by kernel_rfl, trivial⟩) ⟨2, rfl, h⟩
    · replace h := h.2 hb
      refine wpE_skip (by kernel_rfl) ?_
      change WpE _ _ c_lane_Lane_Take_13 _ _ _
      refine wpE_seq (x := c_lane_Lane_Take_14) (y := c_lane_Lane_Take_26) (by kernel_rfl) ?_
      refine wpE_seq (x := c_lane_Lane_Take_15) (y := c_lane_Lane_Take_17) (by kernel_rfl) ?_
      refine wpE_region (id := 3) (ops := r_lane_Lane_Take_15) (by kernel_rfl) ?_
      refine reg_run [.plain] 1 [(0, [], Value.pointer l_), (3, [], Value.pointer (some ⟨b_, 0, none⟩)), (11, [], Value.pointer l_)] (by kernel_rfl) (by kernel_rfl) ?_
      refine reg_enter (op := (Go.Op.call (Go.Call.mk (Go.Callee.value (Go.Operand.func 60)) #[(Go.Operand.tmp 11)] #[38]))) (ty := 103) (dst := some 12) 60 #[Value.pointer l_] (by kernel_rfl) (fun ww => by kernel_rfl) (Calls.mono h ?_)
      rintro _ w3 ⟨v12, ok, rfl, h⟩
      refine ⟨_, rfl, ?_⟩
      refine reg_run [.plain, .plain, .plain, .plain, .plain] 7 [(0, [], Value.pointer l_), (3, [], Value.pointer (some ⟨b_, 0, none⟩)), (6, [], Value.bool ok)] (by kernel_rfl) (by kernel_rfl) ?_
      refine reg_end [(0, Value.pointer l_), (3, Value.pointer (some ⟨b_, 0, none⟩)), (6, Value.bool ok)] (by kernel_rfl) (by kernel_rfl) ?_
      change WpE _ _ c_lane_Lane_Take_17 _ _ _
      refine wpE_seq (x := c_lane_Lane_Take_18) (y := c_lane_Lane_Take_20) (by kernel_rfl) ?_
      refine wpE_region (id := 4) (ops := r_lane_Lane_Take_18) (by kernel_rfl) ?_
      refine reg_run [.plain] 1 [(0, [], Value.pointer l_), (3, [], Value.pointer (some ⟨b_, 0, none⟩)), (15, [], Value.bool ok)] (by kernel_rfl) (by kernel_rfl) ?_
      refine reg_end [(0, Value.pointer l_), (3, Value.pointer (some ⟨b_, 0, none⟩)), (15, Value.bool ok)] (by kernel_rfl) (by kernel_rfl) ?_
      change WpE _ _ c_lane_Lane_Take_20 _ _ _
      refine wpE_cond (o := (Operand.tmp 15)) (b := ok) (x := c_lane_Lane_Take_21) (y := c_lane_Lane_Take_25) (by kernel_rfl) (by kernel_rfl) (fun hb => ?_) (fun hb => ?_)
      · replace h := h.1 hb
        refine wpE_seq (x := c_lane_Lane_Take_22) (y := c_lane_Lane_Take_24) (by kernel_rfl) ?_
        refine wpE_region (id := 5) (ops := r_lane_Lane_Take_22) (by kernel_rfl) ?_
        refine reg_run [.plain] 1 [(4, [], Value.int .i64 10)] (by kernel_rfl) (by kernel_rfl) ?_
        refine reg_end [(4, Value.int .i64 10)] (by kernel_rfl) (by kernel_rfl) ?_
        change WpE _ _ c_lane_Lane_Take_24 _ _ _
        refine wpE_ret (by kernel_rfl) ?_
        repeat (first | refine seqQ_ret ?_ | refine blockQ_ret ?_ | refine loopQ_ret ?_ | refine cutQ_ret ?_)
        exact retS (rs := [(Go.ResultVar.tmp 4)]) (v := Value.int .i64 10) (by kernel_rfl) (⟨by kernel_rfl, trivial⟩) ⟨10, rfl, h⟩
      · replace h := h.2 hb
        refine wpE_skip (by kernel_rfl) ?_
        change WpE _ _ c_lane_Lane_Take_26 _ _ _
        refine wpE_seq (x := c_lane_Lane_Take_27) (y := c_lane_Lane_Take_39) (by kernel_rfl) ?_
        refine wpE_seq (x := c_lane_Lane_Take_28) (y := c_lane_Lane_Take_30) (by kernel_rfl) ?_
        refine wpE_region (id := 6) (ops := r_lane_Lane_Take_28) (by kernel_rfl) ?_
        refine reg_run [] 0 [(0, [], Value.pointer l_), (3, [], Value.pointer (some ⟨b_, 0, none⟩))] (by kernel_rfl) (by kernel_rfl) ?_
        obtain ⟨v16, hc, h⟩ := h
        refine reg_loadN (t := 27) (a := (Go.Operand.tmp 3)) (b := b_) (o := 0) (ty := 27) (dst := some 16) [Value.int .i64 v16.Number, Value.slice v16.Writes.ptr v16.Writes.len v16.Writes.cap] (by kernel_rfl) (by kernel_rfl) (by kernel_rfl) (k := 2) (by kernel_rfl) (by kernel_rfl) hc ?_
        refine reg_run [] 1 [(0, [], Value.pointer l_), (3, [], Value.pointer (some ⟨b_, 0, none⟩)), (16, [], Value.agg #[Value.int .i64 v16.Number, Value.slice v16.Writes.ptr v16.Writes.len v16.Writes.cap])] (by kernel_rfl) (by kernel_rfl) ?_
        refine reg_enter (op := (Go.Op.call (Go.Call.mk (Go.Callee.value (Go.Operand.func 24)) #[(Go.Operand.tmp 16)] #[27]))) (ty := 28) (dst := some 17) 24 #[Value.agg #[Value.int .i64 v16.Number, Value.slice v16.Writes.ptr v16.Writes.len v16.Writes.cap]] (by kernel_rfl) (fun ww => by kernel_rfl) (Calls.mono h ?_)
        rintro _ w4 ⟨v17, rfl, h⟩
        refine ⟨_, rfl, ?_⟩
        refine reg_run [.plain] 3 [(0, [], Value.pointer l_), (3, [], Value.pointer (some ⟨b_, 0, none⟩)), (7, [], Value.int .i64 v17)] (by kernel_rfl) (by kernel_rfl) ?_
        refine reg_end [(0, Value.pointer l_), (3, Value.pointer (some ⟨b_, 0, none⟩)), (7, Value.int .i64 v17)] (by kernel_rfl) (by kernel_rfl) ?_
        change WpE _ _ c_lane_Lane_Take_30 _ _ _
        refine wpE_seq (x := c_lane_Lane_Take_31) (y := c_lane_Lane_Take_33) (by kernel_rfl) ?_
        refine wpE_region (id := 7) (ops := r_lane_Lane_Take_31) (by kernel_rfl) ?_
        refine reg_run [.plain, .plain] 2 [(0, [], Value.pointer l_), (3, [], Value.pointer (some ⟨b_, 0, none⟩)), (7, [], Value.int .i64 v17), (19, [], Value.bool (v17 != 0))] (by kernel_rfl) (by kernel_rfl) ?_
        refine reg_end [(0, Value.pointer l_), (3, Value.pointer (some ⟨b_, 0, none⟩)), (7, Value.int .i64 v17), (19, Value.bool (v17 != 0))] (by kernel_rfl) (by kernel_rfl) ?_
        change WpE _ _ c_lane_Lane_Take_33 _ _ _
        refine wpE_cond (o := (Operand.tmp 19)) (b := (v17 != 0)) (x := c_lane_Lane_Take_34) (y := c_lane_Lane_Take_38) (by kernel_rfl) (by kernel_rfl) (fun hb => ?_) (fun hb => ?_)
        · replace h := h.1 hb
          refine wpE_seq (x := c_lane_Lane_Take_35) (y := c_lane_Lane_Take_37) (by kernel_rfl) ?_
          refine wpE_region (id := 8) (ops := r_lane_Lane_Take_35) (by kernel_rfl) ?_
          refine reg_run [.plain, .plain] 2 [(4, [], Value.int .i64 v17)] (by kernel_rfl) (by kernel_rfl) ?_
          refine reg_end [(4, Value.int .i64 v17)] (by kernel_rfl) (by kernel_rfl) ?_
          change WpE _ _ c_lane_Lane_Take_37 _ _ _
          refine wpE_ret (by kernel_rfl) ?_
          repeat (first | refine seqQ_ret ?_ | refine blockQ_ret ?_ | refine loopQ_ret ?_ | refine cutQ_ret ?_)
          exact retS (rs := [(Go.ResultVar.tmp 4)]) (v := Value.int .i64 v17) (by kernel_rfl) (⟨by kernel_rfl, trivial⟩) ⟨v17, rfl, h⟩
        · replace h := h.2 hb
          refine wpE_skip (by kernel_rfl) ?_
          change WpE _ _ c_lane_Lane_Take_39 _ _ _
          refine wpE_seq (x := c_lane_Lane_Take_40) (y := c_lane_Lane_Take_42) (by kernel_rfl) ?_
          refine wpE_mixregion (id := 9) (ops := r_lane_Lane_Take_40) o_lane_Lane_Take_40 (by kernel_rfl) (by kernel_rfl) (by kernel_rfl) (by kernel_rfl) (fun w5 hw => ?_)
          replace h := h w5 hw
          clear hw
          refine mreg_run [.plain, .plain] 2 [(3, [], Value.pointer (some ⟨b_, 0, none⟩)), (21, [], Value.pointer l_), (22, [], Value.pointer (some ⟨b_, 0, none⟩))] (by kernel_rfl) (by kernel_rfl) ?_
          obtain ⟨v23, hc, h⟩ := h
          refine mreg_load1 (i := 2) (by kernel_rfl) (t := 3) (a := (Go.Operand.tmp 22)) (b := b_) (o := 0) (ty := 3) (dst := some 23) (by kernel_rfl) (by kernel_rfl) (by kernel_rfl) hc ?_
          refine mreg_run [] 3 [(3, [], Value.pointer (some ⟨b_, 0, none⟩)), (21, [], Value.pointer l_), (23, [], Value.int .i64 v23)] (by kernel_rfl) (by kernel_rfl) ?_
          obtain ⟨v24, hc, h⟩ := h
          refine mreg_loadN (i := 3) (by kernel_rfl) (t := 27) (a := (Go.Operand.tmp 3)) (b := b_) (o := 0) (ty := 27) (dst := some 24) [Value.int .i64 v24.Number, Value.slice v24.Writes.ptr v24.Writes.len v24.Writes.cap] (by kernel_rfl) (by kernel_rfl) (by kernel_rfl) (k := 2) (by kernel_rfl) (by kernel_rfl) hc ?_
          refine mreg_run [] 4 [(21, [], Value.pointer l_), (23, [], Value.int .i64 v23), (24, [], Value.agg #[Value.int .i64 v24.Number, Value.slice v24.Writes.ptr v24.Writes.len v24.Writes.cap])] (by kernel_rfl) (by kernel_rfl) ?_
          refine mreg_enter (op := (Go.Op.call (Go.Call.mk (Go.Callee.value (Go.Operand.func 61)) #[(Go.Operand.tmp 24)] #[27]))) (ty := 25) (dst := some 25) 4 [3] [(2, fun w' => w'.cell? ⟨b_, 0, none⟩ = some (Value.int .i64 v23))] 61 #[Value.agg #[Value.int .i64 v24.Number, Value.slice v24.Writes.ptr v24.Writes.len v24.Writes.cap]] (by kernel_rfl) (by kernel_rfl) (by kernel_rfl) (by kernel_rfl) (by kernel_rfl) (fun ww => by kernel_rfl) (Calls.mono h ?_)
          rintro _ w6 ⟨v25, rfl, h⟩
          obtain ⟨hk0, h⟩ := h
          refine ⟨_, rfl, ⟨hk0, trivial⟩, ?_⟩
          refine mreg_run [.plain] 6 [(21, [], Value.pointer l_), (26, [], Value.agg #[Value.int .i64 v23, Value.slice v25.ptr v25.len v25.cap, Value.int .i64 0])] (by kernel_rfl) (by kernel_rfl) ?_
          refine mreg_new (op := (Go.Op.box 107 (Go.Operand.tmp 26))) (ty := 102) (dst := some 27) 6 [5, 2, 4, 1, 3] [] (fun bb => Value.pointer (some ⟨bb, 0, none⟩)) (Obj.cells ([Value.int .i64 v23, Value.slice v25.ptr v25.len v25.cap, Value.int .i64 0]).toArray ty_lane_busy (0, 0)) (by kernel_rfl) (by kernel_rfl) (by kernel_rfl) (by kernel_rfl) (by kernel_rfl) (by kernel_rfl) (fun b_1 w7 hb hw => ?_)
          replace h := h b_1 w7 hb hw
          clear hb hw
          refine ⟨trivial, ?_⟩
          refine mreg_run [.plain] 8 [(21, [], Value.pointer l_), (28, [], Value.iface 102 (Value.pointer (some ⟨b_1, 0, none⟩)))] (by kernel_rfl) (by kernel_rfl) ?_
          obtain ⟨hp_1, h⟩ := h
          refine mreg_conv [(21, [], Value.pointer (some ⟨(pblk l_), (poff l_), none⟩)), (28, [], Value.iface 102 (Value.pointer (some ⟨b_1, 0, none⟩)))] (congrArg (fun pp => ([(21, [], Value.pointer pp), (28, [], Value.iface 102 (Value.pointer (some ⟨b_1, 0, none⟩)))] : GEnv)) hp_1) ?_
          refine mreg_run [.plain] 9 [(21, [], Value.pointer (some ⟨(pblk l_), (poff l_), none⟩)), (28, [], Value.iface 102 (Value.pointer (some ⟨b_1, 0, none⟩))), (29, [], Value.pointer (some ⟨(pblk l_), (poff l_), none⟩))] (by kernel_rfl) (by kernel_rfl) ?_
          refine mreg_run [.plain] 10 [(28, [], Value.iface 102 (Value.pointer (some ⟨b_1, 0, none⟩))), (30, [], Value.pointer (some ⟨(pblk l_), (poff l_) + 5, none⟩))] (by kernel_rfl) (by kernel_rfl) ?_
          obtain ⟨hc, h⟩ := h
          refine mreg_store (t := 45) (a := (Go.Operand.tmp 30)) (x := (Go.Operand.tmp 28)) (b := (pblk l_)) (o := ((poff l_) + 5)) (k := 1) (ty := 0) (dst := none) 10 [0, 1, 2, 3, 4, 5, 6, 7, 9, 8] [] [Value.iface 102 (Value.pointer (some ⟨b_1, 0, none⟩))] (by kernel_rfl) (by kernel_rfl) (by kernel_rfl) (by kernel_rfl) (by kernel_rfl) (by kernel_rfl) (by kernel_rfl) (by kernel_rfl) (by kernel_rfl) (by kernel_rfl) hc (fun w8 hw => ?_)
          replace h := h w8 hw
          clear hw
          refine ⟨trivial, ?_⟩
          refine mreg_end [] (by kernel_rfl) (by kernel_rfl) (by kernel_rfl) ?_
          change WpE _ _ c_lane_Lane_Take_42 _ _ _
          refine wpE_seq (x := c_lane_Lane_Take_43) (y := c_lane_Lane_Take_45) (by kernel_rfl) ?_
          refine wpE_region (id := 10) (ops := r_lane_Lane_Take_43) (by kernel_rfl) ?_
          refine reg_run [.plain] 1 [(4, [], Value.int .i64 0)] (by kernel_rfl) (by kernel_rfl) ?_
          refine reg_end [(4, Value.int .i64 0)] (by kernel_rfl) (by kernel_rfl) ?_
          change WpE _ _ c_lane_Lane_Take_45 _ _ _
          refine wpE_ret (by kernel_rfl) ?_
          repeat (first | refine seqQ_ret ?_ | refine blockQ_ret ?_ | refine loopQ_ret ?_ | refine cutQ_ret ?_)
          exact retS (rs := [(Go.ResultVar.tmp 4)]) (v := Value.int .i64 0) (by kernel_rfl) (⟨by kernel_rfl, trivial⟩) ⟨0, rfl, h⟩
  · rintro e w' ⟨v, rfl, r0, rfl, h⟩; exact ⟨r0, rfl, h⟩

/-! ### (*towpath/lane.Lane).Holds (function 25) -/
noncomputable def c_lane_Lane_Holds_0 : Code := (Try.f25.body).getD Code.skip
noncomputable def c_lane_Lane_Holds_1 : Code := Code.l c_lane_Lane_Holds_0
noncomputable def r_lane_Lane_Holds_1 : Array Oper := Code.ops c_lane_Lane_Holds_1
noncomputable def c_lane_Lane_Holds_3 : Code := Code.r c_lane_Lane_Holds_0
noncomputable def c_lane_Lane_Holds_4 : Code := Code.l c_lane_Lane_Holds_3
noncomputable def c_lane_Lane_Holds_5 : Code := Code.l c_lane_Lane_Holds_4
noncomputable def r_lane_Lane_Holds_5 : Array Oper := Code.ops c_lane_Lane_Holds_5
noncomputable def c_lane_Lane_Holds_7 : Code := Code.r c_lane_Lane_Holds_4
noncomputable def c_lane_Lane_Holds_8 : Code := Code.l c_lane_Lane_Holds_7
noncomputable def r_lane_Lane_Holds_8 : Array Oper := Code.ops c_lane_Lane_Holds_8
noncomputable def c_lane_Lane_Holds_10 : Code := Code.r c_lane_Lane_Holds_7
noncomputable def c_lane_Lane_Holds_11 : Code := Code.l c_lane_Lane_Holds_10
noncomputable def c_lane_Lane_Holds_12 : Code := Code.l c_lane_Lane_Holds_11
noncomputable def r_lane_Lane_Holds_12 : Array Oper := Code.ops c_lane_Lane_Holds_12
noncomputable def c_lane_Lane_Holds_14 : Code := Code.r c_lane_Lane_Holds_11
noncomputable def c_lane_Lane_Holds_15 : Code := Code.r c_lane_Lane_Holds_10
noncomputable def c_lane_Lane_Holds_16 : Code := Code.r c_lane_Lane_Holds_3
noncomputable def c_lane_Lane_Holds_17 : Code := Code.l c_lane_Lane_Holds_16
noncomputable def r_lane_Lane_Holds_17 : Array Oper := Code.ops c_lane_Lane_Holds_17
noncomputable def c_lane_Lane_Holds_19 : Code := Code.r c_lane_Lane_Holds_16

set_option maxRecDepth 100000 in
set_option maxHeartbeats 4000000 in
theorem S_lane_Lane_Holds {l_ : Option Addr} {w : World} {R : Int → World → Prop} (h : F_lane_Lane_Holds l_ R w) : C_lane_Lane_Holds l_ w R := by
  unfold F_lane_Lane_Holds at h
  unfold C_lane_Lane_Holds
  refine Calls.mono (calls_of_wpE (args := [Value.pointer l_]) (R := fun v w' => ∃ (r0 : Int), v = Value.int .i64 r0 ∧ R r0 w') Try.func25 (c := c_lane_Lane_Holds_0) (by kernel_rfl) 15 (by kernel_rfl) (by kernel_rfl) [(0, Value.pointer l_)] (by kernel_rfl) ?_) ?_
  · refine wpE_seq (x := c_lane_Lane_Holds_1) (y := c_lane_Lane_Holds_3) (by kernel_rfl) ?_
    refine wpE_region (id := 0) (ops := r_lane_Lane_Holds_1) (by kernel_rfl) ?_
    refine reg_run [.plain] 1 [(0, [], Value.pointer l_)] (by kernel_rfl) (by kernel_rfl) ?_
    refine reg_end [(0, Value.pointer l_)] (by kernel_rfl) (by kernel_rfl) ?_
    change WpE _ _ c_lane_Lane_Holds_3 _ _ _
    refine wpE_seq (x := c_lane_Lane_Holds_4) (y := c_lane_Lane_Holds_16) (by kernel_rfl) ?_
    refine wpE_seq (x := c_lane_Lane_Holds_5) (y := c_lane_Lane_Holds_7) (by kernel_rfl) ?_
    refine wpE_region (id := 1) (ops := r_lane_Lane_Holds_5) (by kernel_rfl) ?_
    refine reg_run [.plain] 1 [(6, [], Value.pointer l_)] (by kernel_rfl) (by kernel_rfl) ?_
    refine reg_enter (op := (Go.Op.call (Go.Call.mk (Go.Callee.value (Go.Operand.func 60)) #[(Go.Operand.tmp 6)] #[38]))) (ty := 103) (dst := some 7) 60 #[Value.pointer l_] (by kernel_rfl) (fun ww => by kernel_rfl) (Calls.mono h ?_)
    rintro _ w1 ⟨b_, ok, rfl, h⟩
    refine ⟨_, rfl, ?_⟩
    refine reg_run [.plain, .plain, .plain, .plain, .plain] 7 [(3, [], Value.pointer b_), (4, [], Value.bool ok)] (by kernel_rfl) (by kernel_rfl) ?_
    refine reg_end [(3, Value.pointer b_), (4, Value.bool ok)] (by kernel_rfl) (by kernel_rfl) ?_
    change WpE _ _ c_lane_Lane_Holds_7 _ _ _
    refine wpE_seq (x := c_lane_Lane_Holds_8) (y := c_lane_Lane_Holds_10) (by kernel_rfl) ?_
    refine wpE_region (id := 2) (ops := r_lane_Lane_Holds_8) (by kernel_rfl) ?_
    refine reg_run [.plain] 1 [(3, [], Value.pointer b_), (10, [], Value.bool ok)] (by kernel_rfl) (by kernel_rfl) ?_
    refine reg_end [(3, Value.pointer b_), (10, Value.bool ok)] (by kernel_rfl) (by kernel_rfl) ?_
    change WpE _ _ c_lane_Lane_Holds_10 _ _ _
    refine wpE_cond (o := (Operand.tmp 10)) (b := ok) (x := c_lane_Lane_Holds_11) (y := c_lane_Lane_Holds_15) (by kernel_rfl) (by kernel_rfl) (fun hb => ?_) (fun hb => ?_)
    · replace h := h.1 hb
      refine wpE_seq (x := c_lane_Lane_Holds_12) (y := c_lane_Lane_Holds_14) (by kernel_rfl) ?_
      refine wpE_region (id := 3) (ops := r_lane_Lane_Holds_12) (by kernel_rfl) ?_
      refine reg_run [.plain] 1 [(11, [], Value.pointer b_)] (by kernel_rfl) (by kernel_rfl) ?_
      obtain ⟨hp_1, h⟩ := h
      refine reg_conv [(11, [], Value.pointer (some ⟨(pblk b_), (poff b_), none⟩))] (congrArg (fun pp => ([(11, [], Value.pointer pp)] : GEnv)) hp_1) ?_
      refine reg_run [.plain] 2 [(11, [], Value.pointer (some ⟨(pblk b_), (poff b_), none⟩)), (12, [], Value.pointer (some ⟨(pblk b_), (poff b_), none⟩))] (by kernel_rfl) (by kernel_rfl) ?_
      refine reg_run [.plain] 3 [(13, [], Value.pointer (some ⟨(pblk b_), (poff b_), none⟩))] (by kernel_rfl) (by kernel_rfl) ?_
      obtain ⟨v14, hc, h⟩ := h
      refine reg_load1 (t := 3) (a := (Go.Operand.tmp 13)) (b := (pblk b_)) (o := (poff b_)) (ty := 3) (dst := some 14) (by kernel_rfl) (by kernel_rfl) (by kernel_rfl) hc ?_
      refine reg_run [.plain] 5 [(2, [], Value.int .i64 v14)] (by kernel_rfl) (by kernel_rfl) ?_
      refine reg_end [(2, Value.int .i64 v14)] (by kernel_rfl) (by kernel_rfl) ?_
      change WpE _ _ c_lane_Lane_Holds_14 _ _ _
      refine wpE_ret (by kernel_rfl) ?_
      repeat (first | refine seqQ_ret ?_ | refine blockQ_ret ?_ | refine loopQ_ret ?_ | refine cutQ_ret ?_)
      exact retS (rs := [(Go.ResultVar.tmp 2)]) (v := Value.int .i64 v14) (by kernel_rfl) (⟨by kernel_rfl, trivial⟩) ⟨v14, rfl, h⟩
    · replace h := h.2 hb
      refine wpE_skip (by kernel_rfl) ?_
      change WpE _ _ c_lane_Lane_Holds_16 _ _ _
      refine wpE_seq (x := c_lane_Lane_Holds_17) (y := c_lane_Lane_Holds_19) (by kernel_rfl) ?_
      refine wpE_region (id := 4) (ops := r_lane_Lane_Holds_17) (by kernel_rfl) ?_
      refine reg_run [.plain] 1 [(2, [], Value.int .i64 0)] (by kernel_rfl) (by kernel_rfl) ?_
      refine reg_end [(2, Value.int .i64 0)] (by kernel_rfl) (by kernel_rfl) ?_
      change WpE _ _ c_lane_Lane_Holds_19 _ _ _
      refine wpE_ret (by kernel_rfl) ?_
      repeat (first | refine seqQ_ret ?_ | refine blockQ_ret ?_ | refine loopQ_ret ?_ | refine cutQ_ret ?_)
      exact retS (rs := [(Go.ResultVar.tmp 2)]) (v := Value.int .i64 0) (by kernel_rfl) (⟨by kernel_rfl, trivial⟩) ⟨0, rfl, h⟩
  · rintro e w' ⟨v, rfl, r0, rfl, h⟩; exact ⟨r0, rfl, h⟩

/-! ### (*towpath/lane.Lane).Next (function 26) -/
noncomputable def c_lane_Lane_Next_0 : Code := (Try.f26.body).getD Code.skip
noncomputable def c_lane_Lane_Next_1 : Code := Code.l c_lane_Lane_Next_0
noncomputable def r_lane_Lane_Next_1 : Array Oper := Code.ops c_lane_Lane_Next_1
noncomputable def c_lane_Lane_Next_3 : Code := Code.r c_lane_Lane_Next_0
noncomputable def c_lane_Lane_Next_4 : Code := Code.l c_lane_Lane_Next_3
noncomputable def c_lane_Lane_Next_5 : Code := Code.l c_lane_Lane_Next_4
noncomputable def r_lane_Lane_Next_5 : Array Oper := Code.ops c_lane_Lane_Next_5
noncomputable def c_lane_Lane_Next_7 : Code := Code.r c_lane_Lane_Next_4
noncomputable def c_lane_Lane_Next_8 : Code := Code.l c_lane_Lane_Next_7
noncomputable def c_lane_Lane_Next_9 : Code := Code.l c_lane_Lane_Next_8
noncomputable def r_lane_Lane_Next_9 : Array Oper := Code.ops c_lane_Lane_Next_9
noncomputable def c_lane_Lane_Next_11 : Code := Code.r c_lane_Lane_Next_8
noncomputable def c_lane_Lane_Next_12 : Code := Code.r c_lane_Lane_Next_7
noncomputable def c_lane_Lane_Next_13 : Code := Code.r c_lane_Lane_Next_3
noncomputable def c_lane_Lane_Next_14 : Code := Code.l c_lane_Lane_Next_13
noncomputable def r_lane_Lane_Next_14 : Array Oper := Code.ops c_lane_Lane_Next_14
noncomputable def c_lane_Lane_Next_16 : Code := Code.r c_lane_Lane_Next_13
noncomputable def c_lane_Lane_Next_17 : Code := Code.l c_lane_Lane_Next_16
noncomputable def c_lane_Lane_Next_18 : Code := Code.l c_lane_Lane_Next_17
noncomputable def r_lane_Lane_Next_18 : Array Oper := Code.ops c_lane_Lane_Next_18
noncomputable def c_lane_Lane_Next_20 : Code := Code.r c_lane_Lane_Next_17
noncomputable def c_lane_Lane_Next_21 : Code := Code.l c_lane_Lane_Next_20
noncomputable def c_lane_Lane_Next_22 : Code := Code.l c_lane_Lane_Next_21
noncomputable def r_lane_Lane_Next_22 : Array Oper := Code.ops c_lane_Lane_Next_22
noncomputable def c_lane_Lane_Next_24 : Code := Code.r c_lane_Lane_Next_21
noncomputable def c_lane_Lane_Next_25 : Code := Code.r c_lane_Lane_Next_20
noncomputable def c_lane_Lane_Next_26 : Code := Code.r c_lane_Lane_Next_16
noncomputable def c_lane_Lane_Next_27 : Code := Code.l c_lane_Lane_Next_26
noncomputable def r_lane_Lane_Next_27 : Array Oper := Code.ops c_lane_Lane_Next_27
noncomputable def c_lane_Lane_Next_29 : Code := Code.r c_lane_Lane_Next_26
noncomputable def c_lane_Lane_Next_30 : Code := Code.l c_lane_Lane_Next_29
noncomputable def r_lane_Lane_Next_30 : Array Oper := Code.ops c_lane_Lane_Next_30
noncomputable def c_lane_Lane_Next_32 : Code := Code.r c_lane_Lane_Next_29
def o_lane_Lane_Next_27 : List Nat := [0, 1, 2, 3, 4, 5, 6, 7, 8, 9, 10, 11]
def o_lane_Lane_Next_30 : List Nat := [0, 1, 2, 3, 4, 5, 7, 6, 8, 9, 10, 11]

set_option maxRecDepth 100000 in
set_option maxHeartbeats 4000000 in
theorem S_lane_Lane_Next {l_ : Option Addr} {w : World} {R : Int → T_api_Req → Bool → World → Prop} (h : F_lane_Lane_Next l_ R w) : C_lane_Lane_Next l_ w R := by
  unfold F_lane_Lane_Next at h
  unfold C_lane_Lane_Next
  refine Calls.mono (calls_of_wpE (args := [Value.pointer l_]) (R := fun v w' => ∃ (r0 : Int) (r1 : T_api_Req) (r2 : Bool), v = Value.tuple #[Value.int .i64 r0, Value.agg #[Value.int .u8 r1.Kind, Value.int .i64 r1.From, Value.int .i64 r1.Number, Value.string r1.Write.Key, Value.string r1.Write.Val, Value.bool r1.Write.Drop, Value.string r1.Key, Value.string r1.End, Value.slice r1.Beyond.ptr r1.Beyond.len r1.Beyond.cap], Value.bool r2] ∧ R r0 r1 r2 w') Try.func26 (c := c_lane_Lane_Next_0) (by kernel_rfl) 42 (by kernel_rfl) (by kernel_rfl) [(0, Value.pointer l_)] (by kernel_rfl) ?_) ?_
  · refine wpE_seq (x := c_lane_Lane_Next_1) (y := c_lane_Lane_Next_3) (by kernel_rfl) ?_
    refine wpE_region (id := 0) (ops := r_lane_Lane_Next_1) (by kernel_rfl) ?_
    refine reg_run [.plain] 1 [(0, [], Value.pointer l_)] (by kernel_rfl) (by kernel_rfl) ?_
    refine reg_new (op := (Go.Op.alloc 65)) (ty := 0) (dst := some 3) (fun bb => Value.pointer (some ⟨bb, 0, none⟩)) (Obj.cells ([Value.int .u8 0, Value.int .i64 0, Value.int .i64 0, Value.string ByteArray.empty, Value.string ByteArray.empty, Value.bool false, Value.string ByteArray.empty, Value.string ByteArray.empty, Value.slice none 0 0]).toArray ty_api_Req (0, 0)) (by kernel_rfl) (by kernel_rfl) (fun b_ w1 hb hw => ?_)
    replace h := h b_ w1 hb hw
    clear hb hw
    refine reg_run [.plain] 3 [(0, [], Value.pointer l_), (3, [], Value.pointer (some ⟨b_, 0, none⟩))] (by kernel_rfl) (by kernel_rfl) ?_
    refine reg_end [(0, Value.pointer l_), (3, Value.pointer (some ⟨b_, 0, none⟩))] (by kernel_rfl) (by kernel_rfl) ?_
    change WpE _ _ c_lane_Lane_Next_3 _ _ _
    refine wpE_seq (x := c_lane_Lane_Next_4) (y := c_lane_Lane_Next_13) (by kernel_rfl) ?_
    refine wpE_seq (x := c_lane_Lane_Next_5) (y := c_lane_Lane_Next_7) (by kernel_rfl) ?_
    refine wpE_region (id := 1) (ops := r_lane_Lane_Next_5) (by kernel_rfl) ?_
    refine reg_run [.plain] 1 [(0, [], Value.pointer l_), (3, [], Value.pointer (some ⟨b_, 0, none⟩)), (9, [], Value.pointer l_)] (by kernel_rfl) (by kernel_rfl) ?_
    refine reg_enter (op := (Go.Op.call (Go.Call.mk (Go.Callee.value (Go.Operand.func 59)) #[(Go.Operand.tmp 9)] #[38]))) (ty := 4) (dst := some 10) 59 #[Value.pointer l_] (by kernel_rfl) (fun ww => by kernel_rfl) (Calls.mono h ?_)
    rintro _ w2 ⟨v10, rfl, h⟩
    refine ⟨_, rfl, ?_⟩
    refine reg_end [(0, Value.pointer l_), (3, Value.pointer (some ⟨b_, 0, none⟩)), (10, Value.bool v10)] (by kernel_rfl) (by kernel_rfl) ?_
    change WpE _ _ c_lane_Lane_Next_7 _ _ _
    refine wpE_cond (o := (Operand.tmp 10)) (b := v10) (x := c_lane_Lane_Next_8) (y := c_lane_Lane_Next_12) (by kernel_rfl) (by kernel_rfl) (fun hb => ?_) (fun hb => ?_)
    · replace h := h.1 hb
      refine wpE_seq (x := c_lane_Lane_Next_9) (y := c_lane_Lane_Next_11) (by kernel_rfl) ?_
      refine wpE_region (id := 2) (ops := r_lane_Lane_Next_9) (by kernel_rfl) ?_
      refine reg_run [.plain, .plain] 2 [(2, [], Value.int .i64 0), (3, [], Value.pointer (some ⟨b_, 0, none⟩)), (11, [], Value.agg #[Value.int .u8 0, Value.int .i64 0, Value.int .i64 0, Value.string ByteArray.empty, Value.string ByteArray.empty, Value.bool false, Value.string ByteArray.empty, Value.string ByteArray.empty, Value.slice none 0 0])] (by kernel_rfl) (by kernel_rfl) ?_
      obtain ⟨hc, h⟩ := h
      refine reg_store (t := 65) (a := (Go.Operand.tmp 3)) (x := (Go.Operand.tmp 11)) (b := b_) (o := 0) (ty := 0) (dst := none) [Value.int .u8 0, Value.int .i64 0, Value.int .i64 0, Value.string ByteArray.empty, Value.string ByteArray.empty, Value.bool false, Value.string ByteArray.empty, Value.string ByteArray.empty, Value.slice none 0 0] (by kernel_rfl) (by kernel_rfl) (by kernel_rfl) (k := 9) (by kernel_rfl) (by kernel_rfl) (by kernel_rfl) hc (fun w3 hw => ?_)
      replace h := h w3 hw
      clear hw
      refine reg_run [.plain] 4 [(2, [], Value.int .i64 0), (3, [], Value.pointer (some ⟨b_, 0, none⟩)), (4, [], Value.bool false)] (by kernel_rfl) (by kernel_rfl) ?_
      refine reg_end [(2, Value.int .i64 0), (3, Value.pointer (some ⟨b_, 0, none⟩)), (4, Value.bool false)] (by kernel_rfl) (by kernel_rfl) ?_
      change WpE _ _ c_lane_Lane_Next_11 _ _ _
      refine wpE_ret (by kernel_rfl) ?_
      obtain ⟨res, hc_res, h⟩ := h
      repeat (first | refine seqQ_ret ?_ | refine blockQ_ret ?_ | refine loopQ_ret ?_ | refine cutQ_ret ?_)
      exact retT (rs := [(Go.ResultVar.tmp 2), (Go.ResultVar.cell 3 65), (Go.ResultVar.tmp 4)]) (vs := [Value.int .i64 0, Value.agg #[Value.int .u8 res.Kind, Value.int .i64 res.From, Value.int .i64 res.Number, Value.string res.Write.Key, Value.string res.Write.Val, Value.bool res.Write.Drop, Value.string res.Key, Value.string res.End, Value.slice res.Beyond.ptr res.Beyond.len res.Beyond.cap], Value.bool false]) (by kernel_rfl) (⟨by kernel_rfl, ⟨b_, 0, [Value.int .u8 res.Kind, Value.int .i64 res.From, Value.int .i64 res.Number, Value.string res.Write.Key, Value.string res.Write.Val, Value.bool res.Write.Drop, Value.string res.Key, Value.string res.End, Value.slice res.Beyond.ptr res.Beyond.len res.Beyond.cap], by kernel_rfl, hc_res, (sizeP_of (k := 9) (by kernel_rfl) (by kernel_rfl)), .inl ⟨by kernel_rfl, rfl⟩, ⟨by kernel_rfl, trivial⟩⟩⟩) (by kernel_rfl) ⟨0, res, false, rfl, h⟩
    · replace h := h.2 hb
      refine wpE_skip (by kernel_rfl) ?_
      change WpE _ _ c_lane_Lane_Next_13 _ _ _
      refine wpE_seq_cut (x := c_lane_Lane_Next_14) (y := c_lane_Lane_Next_16) (by kernel_rfl) (fun l w => ∃ (w_ : Option Addr) (ok : Bool), l = [(0, Value.pointer l_), (3, Value.pointer (some ⟨b_, 0, none⟩)), (5, Value.pointer w_), (6, Value.bool ok)] ∧ F_lane_Lane_Next_k0 l_ R b_ w_ ok w) ?_ ?_
      · refine wpE_region (id := 3) (ops := r_lane_Lane_Next_14) (by kernel_rfl) ?_
        refine reg_run [.plain] 1 [(0, [], Value.pointer l_), (3, [], Value.pointer (some ⟨b_, 0, none⟩)), (13, [], Value.pointer l_)] (by kernel_rfl) (by kernel_rfl) ?_
        obtain ⟨hp_7, h⟩ := h
        refine reg_conv [(0, [], Value.pointer l_), (3, [], Value.pointer (some ⟨b_, 0, none⟩)), (13, [], Value.pointer (some ⟨(pblk l_), (poff l_), none⟩))] (congrArg (fun pp => ([(0, [], Value.pointer l_), (3, [], Value.pointer (some ⟨b_, 0, none⟩)), (13, [], Value.pointer pp)] : GEnv)) hp_7) ?_
        refine reg_run [.plain] 2 [(0, [], Value.pointer l_), (3, [], Value.pointer (some ⟨b_, 0, none⟩)), (13, [], Value.pointer (some ⟨(pblk l_), (poff l_), none⟩)), (14, [], Value.pointer (some ⟨(pblk l_), (poff l_), none⟩))] (by kernel_rfl) (by kernel_rfl) ?_
        refine reg_run [.plain] 3 [(0, [], Value.pointer l_), (3, [], Value.pointer (some ⟨b_, 0, none⟩)), (15, [], Value.pointer (some ⟨(pblk l_), (poff l_) + 5, none⟩))] (by kernel_rfl) (by kernel_rfl) ?_
        obtain ⟨v16, hc, h⟩ := h
        refine reg_load1 (t := 45) (a := (Go.Operand.tmp 15)) (b := (pblk l_)) (o := ((poff l_) + 5)) (ty := 45) (dst := some 16) (by kernel_rfl) (by kernel_rfl) (by kernel_rfl) hc ?_
        refine reg_run [] 4 [(0, [], Value.pointer l_), (3, [], Value.pointer (some ⟨b_, 0, none⟩)), (16, [], v16)] (by kernel_rfl) (by kernel_rfl) ?_
        rcases h with ⟨r, hx_, h⟩ | ⟨r1, hx_, h⟩
        · refine reg_conv [(0, [], Value.pointer l_), (3, [], Value.pointer (some ⟨b_, 0, none⟩)), (16, [], Value.iface 96 (Value.agg #[]))] (congrArg (fun pp => ([(0, [], Value.pointer l_), (3, [], Value.pointer (some ⟨b_, 0, none⟩)), (16, [], pp)] : GEnv)) hx_) ?_
          refine reg_enter (op := (Go.Op.call (Go.Call.mk (Go.Callee.invoke (Go.Operand.tmp 16) "towpath/lane.next") #[] #[]))) (ty := 110) (dst := some 17) 114 #[Value.agg #[]] (by kernel_rfl) (fun ww => by kernel_rfl) (Calls.mono h ?_)
          rintro _ w11 ⟨v17, ok1, rfl, h⟩
          refine ⟨_, rfl, ?_⟩
          refine reg_run [.plain, .plain, .plain] 8 [(0, [], Value.pointer l_), (3, [], Value.pointer (some ⟨b_, 0, none⟩)), (18, [], Value.agg #[Value.string v17.Key, Value.string v17.Val, Value.bool v17.Drop]), (19, [], Value.bool ok1)] (by kernel_rfl) (by kernel_rfl) ?_
          refine reg_new (op := (Go.Op.alloc 61)) (ty := 0) (dst := some 5) (fun bb => Value.pointer (some ⟨bb, 0, none⟩)) (Obj.cells ([Value.string ByteArray.empty, Value.string ByteArray.empty, Value.bool false]).toArray ty_api_Write (0, 0)) (by kernel_rfl) (by kernel_rfl) (fun b_1 w12 hb hw => ?_)
          replace h := h b_1 w12 hb hw
          clear hb hw
          refine reg_run [] 9 [(0, [], Value.pointer l_), (3, [], Value.pointer (some ⟨b_, 0, none⟩)), (5, [], Value.pointer (some ⟨b_1, 0, none⟩)), (18, [], Value.agg #[Value.string v17.Key, Value.string v17.Val, Value.bool v17.Drop]), (19, [], Value.bool ok1)] (by kernel_rfl) (by kernel_rfl) ?_
          obtain ⟨hc, h⟩ := h
          refine reg_store (t := 61) (a := (Go.Operand.tmp 5)) (x := (Go.Operand.tmp 18)) (b := b_1) (o := 0) (ty := 0) (dst := none) [Value.string v17.Key, Value.string v17.Val, Value.bool v17.Drop] (by kernel_rfl) (by kernel_rfl) (by kernel_rfl) (k := 3) (by kernel_rfl) (by kernel_rfl) (by kernel_rfl) hc (fun w13 hw => ?_)
          replace h := h w13 hw
          clear hw
          refine reg_run [.plain] 11 [(0, [], Value.pointer l_), (3, [], Value.pointer (some ⟨b_, 0, none⟩)), (5, [], Value.pointer (some ⟨b_1, 0, none⟩)), (6, [], Value.bool ok1)] (by kernel_rfl) (by kernel_rfl) ?_
          refine reg_end [(0, Value.pointer l_), (3, Value.pointer (some ⟨b_, 0, none⟩)), (5, Value.pointer (some ⟨b_1, 0, none⟩)), (6, Value.bool ok1)] (by kernel_rfl) (by kernel_rfl) ?_
          exact ⟨[(0, Value.pointer l_), (3, Value.pointer (some ⟨b_, 0, none⟩)), (5, Value.pointer (some ⟨b_1, 0, none⟩)), (6, Value.bool ok1)], Sub.mk (by kernel_rfl), (some ⟨b_1, 0, none⟩), ok1, rfl, h⟩
        · refine reg_conv [(0, [], Value.pointer l_), (3, [], Value.pointer (some ⟨b_, 0, none⟩)), (16, [], Value.iface 102 (Value.pointer r1))] (congrArg (fun pp => ([(0, [], Value.pointer l_), (3, [], Value.pointer (some ⟨b_, 0, none⟩)), (16, [], pp)] : GEnv)) hx_) ?_
          refine reg_enter (op := (Go.Op.call (Go.Call.mk (Go.Callee.invoke (Go.Operand.tmp 16) "towpath/lane.next") #[] #[]))) (ty := 110) (dst := some 17) 115 #[Value.pointer r1] (by kernel_rfl) (fun ww => by kernel_rfl) (Calls.mono h ?_)
          rintro _ w14 ⟨v171, ok2, rfl, h⟩
          refine ⟨_, rfl, ?_⟩
          refine reg_run [.plain, .plain, .plain] 8 [(0, [], Value.pointer l_), (3, [], Value.pointer (some ⟨b_, 0, none⟩)), (18, [], Value.agg #[Value.string v171.Key, Value.string v171.Val, Value.bool v171.Drop]), (19, [], Value.bool ok2)] (by kernel_rfl) (by kernel_rfl) ?_
          refine reg_new (op := (Go.Op.alloc 61)) (ty := 0) (dst := some 5) (fun bb => Value.pointer (some ⟨bb, 0, none⟩)) (Obj.cells ([Value.string ByteArray.empty, Value.string ByteArray.empty, Value.bool false]).toArray ty_api_Write (0, 0)) (by kernel_rfl) (by kernel_rfl) (fun b_2 w15 hb hw => ?_)
          replace h := h b_2 w15 hb hw
          clear hb hw
          refine reg_run [] 9 [(0, [], Value.pointer l_), (3, [], Value.pointer (some ⟨b_, 0, none⟩)), (5, [], Value.pointer (some ⟨b_2, 0, none⟩)), (18, [], Value.agg #[Value.string v171.Key, Value.string v171.Val, Value.bool v171.Drop]), (19, [], Value.bool ok2)] (by kernel_rfl) (by kernel_rfl) ?_
          obtain ⟨hc, h⟩ := h
          refine reg_store (t := 61) (a := (Go.Operand.tmp 5)) (x := (Go.Operand.tmp 18)) (b := b_2) (o := 0) (ty := 0) (dst := none) [Value.string v171.Key, Value.string v171.Val, Value.bool v171.Drop] (by kernel_rfl) (by kernel_rfl) (by kernel_rfl) (k := 3) (by kernel_rfl) (by kernel_rfl) (by kernel_rfl) hc (fun w16 hw => ?_)
          replace h := h w16 hw
          clear hw
          refine reg_run [.plain] 11 [(0, [], Value.pointer l_), (3, [], Value.pointer (some ⟨b_, 0, none⟩)), (5, [], Value.pointer (some ⟨b_2, 0, none⟩)), (6, [], Value.bool ok2)] (by kernel_rfl) (by kernel_rfl) ?_
          refine reg_end [(0, Value.pointer l_), (3, Value.pointer (some ⟨b_, 0, none⟩)), (5, Value.pointer (some ⟨b_2, 0, none⟩)), (6, Value.bool ok2)] (by kernel_rfl) (by kernel_rfl) ?_
          exact ⟨[(0, Value.pointer l_), (3, Value.pointer (some ⟨b_, 0, none⟩)), (5, Value.pointer (some ⟨b_2, 0, none⟩)), (6, Value.bool ok2)], Sub.mk (by kernel_rfl), (some ⟨b_2, 0, none⟩), ok2, rfl, h⟩
      · rintro _ w4 ⟨w_, ok, rfl, h⟩
        unfold F_lane_Lane_Next_k0 at h
        refine wpE_seq (x := c_lane_Lane_Next_17) (y := c_lane_Lane_Next_26) (by kernel_rfl) ?_
        refine wpE_seq (x := c_lane_Lane_Next_18) (y := c_lane_Lane_Next_20) (by kernel_rfl) ?_
        refine wpE_region (id := 4) (ops := r_lane_Lane_Next_18) (by kernel_rfl) ?_
        refine reg_run [.plain, .plain] 2 [(0, [], Value.pointer l_), (3, [], Value.pointer (some ⟨b_, 0, none⟩)), (5, [], Value.pointer w_), (21, [], Value.bool (!ok))] (by kernel_rfl) (by kernel_rfl) ?_
        refine reg_end [(0, Value.pointer l_), (3, Value.pointer (some ⟨b_, 0, none⟩)), (5, Value.pointer w_), (21, Value.bool (!ok))] (by kernel_rfl) (by kernel_rfl) ?_
        change WpE _ _ c_lane_Lane_Next_20 _ _ _
        refine wpE_cond (o := (Operand.tmp 21)) (b := (!ok)) (x := c_lane_Lane_Next_21) (y := c_lane_Lane_Next_25) (by kernel_rfl) (by kernel_rfl) (fun hb => ?_) (fun hb => ?_)
        · replace h := h.1 hb
          refine wpE_seq (x := c_lane_Lane_Next_22) (y := c_lane_Lane_Next_24) (by kernel_rfl) ?_
          refine wpE_region (id := 5) (ops := r_lane_Lane_Next_22) (by kernel_rfl) ?_
          refine reg_run [.plain, .plain] 2 [(2, [], Value.int .i64 0), (3, [], Value.pointer (some ⟨b_, 0, none⟩)), (22, [], Value.agg #[Value.int .u8 0, Value.int .i64 0, Value.int .i64 0, Value.string ByteArray.empty, Value.string ByteArray.empty, Value.bool false, Value.string ByteArray.empty, Value.string ByteArray.empty, Value.slice none 0 0])] (by kernel_rfl) (by kernel_rfl) ?_
          obtain ⟨hc, h⟩ := h
          refine reg_store (t := 65) (a := (Go.Operand.tmp 3)) (x := (Go.Operand.tmp 22)) (b := b_) (o := 0) (ty := 0) (dst := none) [Value.int .u8 0, Value.int .i64 0, Value.int .i64 0, Value.string ByteArray.empty, Value.string ByteArray.empty, Value.bool false, Value.string ByteArray.empty, Value.string ByteArray.empty, Value.slice none 0 0] (by kernel_rfl) (by kernel_rfl) (by kernel_rfl) (k := 9) (by kernel_rfl) (by kernel_rfl) (by kernel_rfl) hc (fun w5 hw => ?_)
          replace h := h w5 hw
          clear hw
          refine reg_run [.plain] 4 [(2, [], Value.int .i64 0), (3, [], Value.pointer (some ⟨b_, 0, none⟩)), (4, [], Value.bool false)] (by kernel_rfl) (by kernel_rfl) ?_
          refine reg_end [(2, Value.int .i64 0), (3, Value.pointer (some ⟨b_, 0, none⟩)), (4, Value.bool false)] (by kernel_rfl) (by kernel_rfl) ?_
          change WpE _ _ c_lane_Lane_Next_24 _ _ _
          refine wpE_ret (by kernel_rfl) ?_
          obtain ⟨res1, hc_res1, h⟩ := h
          repeat (first | refine seqQ_ret ?_ | refine blockQ_ret ?_ | refine loopQ_ret ?_ | refine cutQ_ret ?_)
          exact retT (rs := [(Go.ResultVar.tmp 2), (Go.ResultVar.cell 3 65), (Go.ResultVar.tmp 4)]) (vs := [Value.int .i64 0, Value.agg #[Value.int .u8 res1.Kind, Value.int .i64 res1.From, Value.int .i64 res1.Number, Value.string res1.Write.Key, Value.string res1.Write.Val, Value.bool res1.Write.Drop, Value.string res1.Key, Value.string res1.End, Value.slice res1.Beyond.ptr res1.Beyond.len res1.Beyond.cap], Value.bool false]) (by kernel_rfl) (⟨by kernel_rfl, ⟨b_, 0, [Value.int .u8 res1.Kind, Value.int .i64 res1.From, Value.int .i64 res1.Number, Value.string res1.Write.Key, Value.string res1.Write.Val, Value.bool res1.Write.Drop, Value.string res1.Key, Value.string res1.End, Value.slice res1.Beyond.ptr res1.Beyond.len res1.Beyond.cap], by kernel_rfl, hc_res1, (sizeP_of (k := 9) (by kernel_rfl) (by kernel_rfl)), .inl ⟨by kernel_rfl, rfl⟩, ⟨by kernel_rfl, trivial⟩⟩⟩) (by kernel_rfl) ⟨0, res1, false, rfl, h⟩
        · replace h := h.2 hb
          refine wpE_skip (by kernel_rfl) ?_
          change WpE _ _ c_lane_Lane_Next_26 _ _ _
          refine wpE_seq (x := c_lane_Lane_Next_27) (y := c_lane_Lane_Next_29) (by kernel_rfl) ?_
          refine wpE_mixregion (id := 6) (ops := r_lane_Lane_Next_27) o_lane_Lane_Next_27 (by kernel_rfl) (by kernel_rfl) (by kernel_rfl) (by kernel_rfl) (fun w6 hw => ?_)
          replace h := h w6 hw
          clear hw
          refine mreg_run [.plain] 1 [(0, [], Value.pointer l_), (3, [], Value.pointer (some ⟨b_, 0, none⟩)), (5, [], Value.pointer w_), (24, [], Value.pointer l_)] (by kernel_rfl) (by kernel_rfl) ?_
          obtain ⟨hp_3, h⟩ := h
          refine mreg_conv [(0, [], Value.pointer l_), (3, [], Value.pointer (some ⟨b_, 0, none⟩)), (5, [], Value.pointer w_), (24, [], Value.pointer (some ⟨(pblk l_), (poff l_), none⟩))] (congrArg (fun pp => ([(0, [], Value.pointer l_), (3, [], Value.pointer (some ⟨b_, 0, none⟩)), (5, [], Value.pointer w_), (24, [], Value.pointer pp)] : GEnv)) hp_3) ?_
          refine mreg_run [.plain] 2 [(0, [], Value.pointer l_), (3, [], Value.pointer (some ⟨b_, 0, none⟩)), (5, [], Value.pointer w_), (24, [], Value.pointer (some ⟨(pblk l_), (poff l_), none⟩)), (25, [], Value.pointer (some ⟨(pblk l_), (poff l_), none⟩))] (by kernel_rfl) (by kernel_rfl) ?_
          refine mreg_run [.plain] 3 [(0, [], Value.pointer l_), (3, [], Value.pointer (some ⟨b_, 0, none⟩)), (5, [], Value.pointer w_), (26, [], Value.pointer (some ⟨(pblk l_), (poff l_) + 1, none⟩))] (by kernel_rfl) (by kernel_rfl) ?_
          obtain ⟨v27, hc, h⟩ := h
          refine mreg_loadN (i := 3) (by kernel_rfl) (t := 35) (a := (Go.Operand.tmp 26)) (b := (pblk l_)) (o := ((poff l_) + 1)) (ty := 35) (dst := some 27) [Value.int .i64 v27.Lanes, Value.int .i64 v27.Shards, Value.int .i64 v27.Window, Value.int .i64 v27.Queue] (by kernel_rfl) (by kernel_rfl) (by kernel_rfl) (k := 4) (by kernel_rfl) (by kernel_rfl) hc ?_
          refine mreg_run [] 4 [(0, [], Value.pointer l_), (3, [], Value.pointer (some ⟨b_, 0, none⟩)), (5, [], Value.pointer w_), (27, [], Value.agg #[Value.int .i64 v27.Lanes, Value.int .i64 v27.Shards, Value.int .i64 v27.Window, Value.int .i64 v27.Queue])] (by kernel_rfl) (by kernel_rfl) ?_
          obtain ⟨hp_4, h⟩ := h
          refine mreg_conv [(0, [], Value.pointer l_), (3, [], Value.pointer (some ⟨b_, 0, none⟩)), (5, [], Value.pointer (some ⟨(pblk w_), (poff w_), none⟩)), (27, [], Value.agg #[Value.int .i64 v27.Lanes, Value.int .i64 v27.Shards, Value.int .i64 v27.Window, Value.int .i64 v27.Queue])] (congrArg (fun pp => ([(0, [], Value.pointer l_), (3, [], Value.pointer (some ⟨b_, 0, none⟩)), (5, [], Value.pointer pp), (27, [], Value.agg #[Value.int .i64 v27.Lanes, Value.int .i64 v27.Shards, Value.int .i64 v27.Window, Value.int .i64 v27.Queue])] : GEnv)) hp_4) ?_
          refine mreg_run [.plain] 5 [(0, [], Value.pointer l_), (3, [], Value.pointer (some ⟨b_, 0, none⟩)), (5, [], Value.pointer (some ⟨(pblk w_), (poff w_), none⟩)), (27, [], Value.agg #[Value.int .i64 v27.Lanes, Value.int .i64 v27.Shards, Value.int .i64 v27.Window, Value.int .i64 v27.Queue]), (28, [], Value.pointer (some ⟨(pblk w_), (poff w_), none⟩))] (by kernel_rfl) (by kernel_rfl) ?_
          refine mreg_run [] 5 [(0, [], Value.pointer l_), (3, [], Value.pointer (some ⟨b_, 0, none⟩)), (5, [], Value.pointer (some ⟨(pblk w_), (poff w_), none⟩)), (27, [], Value.agg #[Value.int .i64 v27.Lanes, Value.int .i64 v27.Shards, Value.int .i64 v27.Window, Value.int .i64 v27.Queue]), (28, [], Value.pointer (some ⟨(pblk w_), (poff w_), none⟩))] (by kernel_rfl) (by kernel_rfl) ?_
          obtain ⟨v29, hc, h⟩ := h
          refine mreg_load1 (i := 5) (by kernel_rfl) (t := 9) (a := (Go.Operand.tmp 28)) (b := (pblk w_)) (o := (poff w_)) (ty := 9) (dst := some 29) (by kernel_rfl) (by kernel_rfl) (by kernel_rfl) hc ?_
          refine mreg_run [] 6 [(0, [], Value.pointer l_), (3, [], Value.pointer (some ⟨b_, 0, none⟩)), (5, [], Value.pointer (some ⟨(pblk w_), (poff w_), none⟩)), (27, [], Value.agg #[Value.int .i64 v27.Lanes, Value.int .i64 v27.Shards, Value.int .i64 v27.Window, Value.int .i64 v27.Queue]), (29, [], Value.string v29)] (by kernel_rfl) (by kernel_rfl) ?_
          refine mreg_enter (op := (Go.Op.call (Go.Call.mk (Go.Callee.value (Go.Operand.func 27)) #[(Go.Operand.tmp 27), (Go.Operand.tmp 29)] #[35, 9]))) (ty := 68) (dst := some 30) 6 [3, 5, 2, 4, 1, 0] [] 27 #[Value.agg #[Value.int .i64 v27.Lanes, Value.int .i64 v27.Shards, Value.int .i64 v27.Window, Value.int .i64 v27.Queue], Value.string v29] (by kernel_rfl) (by kernel_rfl) (by kernel_rfl) (by kernel_rfl) (by kernel_rfl) (fun ww => by kernel_rfl) (Calls.mono h ?_)
          rintro _ w7 ⟨s, v30_1, rfl, h⟩
          refine ⟨_, rfl, trivial, ?_⟩
          refine mreg_run [.plain, .plain, .plain, .plain, .plain] 12 [(0, [], Value.pointer l_), (3, [], Value.pointer (some ⟨b_, 0, none⟩)), (5, [], Value.pointer (some ⟨(pblk w_), (poff w_), none⟩)), (7, [], Value.int .i64 s)] (by kernel_rfl) (by kernel_rfl) ?_
          refine mreg_conv [(0, [], Value.pointer l_), (3, [], Value.pointer (some ⟨b_, 0, none⟩)), (5, [], Value.pointer w_), (7, [], Value.int .i64 s)] (congrArg (fun pp => ([(0, [], Value.pointer l_), (3, [], Value.pointer (some ⟨b_, 0, none⟩)), (5, [], Value.pointer pp), (7, [], Value.int .i64 s)] : GEnv)) hp_4.symm) ?_
          refine mreg_end [(0, Value.pointer l_), (3, Value.pointer (some ⟨b_, 0, none⟩)), (5, Value.pointer w_), (7, Value.int .i64 s)] (by kernel_rfl) (by kernel_rfl) (by kernel_rfl) ?_
          change WpE _ _ c_lane_Lane_Next_29 _ _ _
          refine wpE_seq (x := c_lane_Lane_Next_30) (y := c_lane_Lane_Next_32) (by kernel_rfl) ?_
          refine wpE_mixregion (id := 7) (ops := r_lane_Lane_Next_30) o_lane_Lane_Next_30 (by kernel_rfl) (by kernel_rfl) (by kernel_rfl) (by kernel_rfl) (fun w8 hw => ?_)
          replace h := h w8 hw
          clear hw
          refine mreg_run [.plain, .plain] 2 [(0, [], Value.pointer l_), (3, [], Value.pointer (some ⟨b_, 0, none⟩)), (5, [], Value.pointer w_), (33, [], Value.int .i64 s), (34, [], Value.pointer l_)] (by kernel_rfl) (by kernel_rfl) ?_
          obtain ⟨hp_5, h⟩ := h
          refine mreg_conv [(0, [], Value.pointer l_), (3, [], Value.pointer (some ⟨b_, 0, none⟩)), (5, [], Value.pointer w_), (33, [], Value.int .i64 s), (34, [], Value.pointer (some ⟨(pblk l_), (poff l_), none⟩))] (congrArg (fun pp => ([(0, [], Value.pointer l_), (3, [], Value.pointer (some ⟨b_, 0, none⟩)), (5, [], Value.pointer w_), (33, [], Value.int .i64 s), (34, [], Value.pointer pp)] : GEnv)) hp_5) ?_
          refine mreg_run [.plain] 3 [(0, [], Value.pointer l_), (3, [], Value.pointer (some ⟨b_, 0, none⟩)), (5, [], Value.pointer w_), (33, [], Value.int .i64 s), (34, [], Value.pointer (some ⟨(pblk l_), (poff l_), none⟩)), (35, [], Value.pointer (some ⟨(pblk l_), (poff l_), none⟩))] (by kernel_rfl) (by kernel_rfl) ?_
          refine mreg_run [.plain] 4 [(0, [], Value.pointer l_), (3, [], Value.pointer (some ⟨b_, 0, none⟩)), (5, [], Value.pointer w_), (33, [], Value.int .i64 s), (36, [], Value.pointer (some ⟨(pblk l_), (poff l_), none⟩))] (by kernel_rfl) (by kernel_rfl) ?_
          obtain ⟨v37, hc, h⟩ := h
          refine mreg_load1 (i := 4) (by kernel_rfl) (t := 3) (a := (Go.Operand.tmp 36)) (b := (pblk l_)) (o := (poff l_)) (ty := 3) (dst := some 37) (by kernel_rfl) (by kernel_rfl) (by kernel_rfl) hc ?_
          refine mreg_run [.plain] 6 [(3, [], Value.pointer (some ⟨b_, 0, none⟩)), (5, [], Value.pointer w_), (33, [], Value.int .i64 s), (37, [], Value.int .i64 v37), (38, [], Value.pointer l_)] (by kernel_rfl) (by kernel_rfl) ?_
          obtain ⟨hp_6, h⟩ := h
          refine mreg_conv [(3, [], Value.pointer (some ⟨b_, 0, none⟩)), (5, [], Value.pointer (some ⟨(pblk w_), (poff w_), none⟩)), (33, [], Value.int .i64 s), (37, [], Value.int .i64 v37), (38, [], Value.pointer l_)] (congrArg (fun pp => ([(3, [], Value.pointer (some ⟨b_, 0, none⟩)), (5, [], Value.pointer pp), (33, [], Value.int .i64 s), (37, [], Value.int .i64 v37), (38, [], Value.pointer l_)] : GEnv)) hp_6) ?_
          obtain ⟨v40, hc, h⟩ := h
          refine mreg_loadN (i := 7) (by kernel_rfl) (t := 61) (a := (Go.Operand.tmp 5)) (b := (pblk w_)) (o := (poff w_)) (ty := 61) (dst := some 40) [Value.string v40.Key, Value.string v40.Val, Value.bool v40.Drop] (by kernel_rfl) (by kernel_rfl) (by kernel_rfl) (k := 3) (by kernel_rfl) (by kernel_rfl) hc ?_
          refine mreg_run [] 7 [(3, [], Value.pointer (some ⟨b_, 0, none⟩)), (33, [], Value.int .i64 s), (37, [], Value.int .i64 v37), (38, [], Value.pointer l_), (40, [], Value.agg #[Value.string v40.Key, Value.string v40.Val, Value.bool v40.Drop])] (by kernel_rfl) (by kernel_rfl) ?_
          refine mreg_enter (op := (Go.Op.call (Go.Call.mk (Go.Callee.value (Go.Operand.func 25)) #[(Go.Operand.tmp 38)] #[38]))) (ty := 3) (dst := some 39) 6 [5] [(7, fun w' => CellsAt w' (pblk w_) (poff w_) [Value.string v40.Key, Value.string v40.Val, Value.bool v40.Drop]), (4, fun w' => w'.cell? ⟨(pblk l_), (poff l_), none⟩ = some (Value.int .i64 v37))] 25 #[Value.pointer l_] (by kernel_rfl) (by kernel_rfl) (by kernel_rfl) (by kernel_rfl) (by kernel_rfl) (fun ww => by kernel_rfl) (Calls.mono h ?_)
          rintro _ w9 ⟨v39, rfl, h⟩
          obtain ⟨hk0, hk1, h⟩ := h
          refine ⟨_, rfl, ⟨hk0, hk1, trivial⟩, ?_⟩
          refine mreg_run [.plain, .plain] 10 [(2, [], Value.int .i64 s), (3, [], Value.pointer (some ⟨b_, 0, none⟩)), (41, [], Value.agg #[Value.int .u8 1, Value.int .i64 v37, Value.int .i64 v39, Value.string v40.Key, Value.string v40.Val, Value.bool v40.Drop, Value.string ByteArray.empty, Value.string ByteArray.empty, Value.slice none 0 0])] (by kernel_rfl) (by kernel_rfl) ?_
          obtain ⟨hc, h⟩ := h
          refine mreg_store (t := 65) (a := (Go.Operand.tmp 3)) (x := (Go.Operand.tmp 41)) (b := b_) (o := 0) (k := 9) (ty := 0) (dst := none) 10 [0, 1, 2, 3, 4, 5, 6, 7, 8, 9] [] [Value.int .u8 1, Value.int .i64 v37, Value.int .i64 v39, Value.string v40.Key, Value.string v40.Val, Value.bool v40.Drop, Value.string ByteArray.empty, Value.string ByteArray.empty, Value.slice none 0 0] (by kernel_rfl) (by kernel_rfl) (by kernel_rfl) (by kernel_rfl) (by kernel_rfl) (by kernel_rfl) (by kernel_rfl) (by kernel_rfl) (by kernel_rfl) (by kernel_rfl) hc (fun w10 hw => ?_)
          replace h := h w10 hw
          clear hw
          refine ⟨trivial, ?_⟩
          refine mreg_run [.plain] 12 [(2, [], Value.int .i64 s), (3, [], Value.pointer (some ⟨b_, 0, none⟩)), (4, [], Value.bool true)] (by kernel_rfl) (by kernel_rfl) ?_
          refine mreg_end [(2, Value.int .i64 s), (3, Value.pointer (some ⟨b_, 0, none⟩)), (4, Value.bool true)] (by kernel_rfl) (by kernel_rfl) (by kernel_rfl) ?_
          change WpE _ _ c_lane_Lane_Next_32 _ _ _
          refine wpE_ret (by kernel_rfl) ?_
          obtain ⟨res2, hc_res2, h⟩ := h
          repeat (first | refine seqQ_ret ?_ | refine blockQ_ret ?_ | refine loopQ_ret ?_ | refine cutQ_ret ?_)
          exact retT (rs := [(Go.ResultVar.tmp 2), (Go.ResultVar.cell 3 65), (Go.ResultVar.tmp 4)]) (vs := [Value.int .i64 s, Value.agg #[Value.int .u8 res2.Kind, Value.int .i64 res2.From, Value.int .i64 res2.Number, Value.string res2.Write.Key, Value.string res2.Write.Val, Value.bool res2.Write.Drop, Value.string res2.Key, Value.string res2.End, Value.slice res2.Beyond.ptr res2.Beyond.len res2.Beyond.cap], Value.bool true]) (by kernel_rfl) (⟨by kernel_rfl, ⟨b_, 0, [Value.int .u8 res2.Kind, Value.int .i64 res2.From, Value.int .i64 res2.Number, Value.string res2.Write.Key, Value.string res2.Write.Val, Value.bool res2.Write.Drop, Value.string res2.Key, Value.string res2.End, Value.slice res2.Beyond.ptr res2.Beyond.len res2.Beyond.cap], by kernel_rfl, hc_res2, (sizeP_of (k := 9) (by kernel_rfl) (by kernel_rfl)), .inl ⟨by kernel_rfl, rfl⟩, ⟨by kernel_rfl, trivial⟩⟩⟩) (by kernel_rfl) ⟨s, res2, true, rfl, h⟩
  · rintro e w' ⟨v, rfl, r0, r1, r2, rfl, h⟩; exact ⟨r0, r1, r2, rfl, h⟩

/-! ### (*towpath/lane.Lane).Ready (function 28) -/
noncomputable def c_lane_Lane_Ready_0 : Code := (Try.f28.body).getD Code.skip
noncomputable def c_lane_Lane_Ready_1 : Code := Code.l c_lane_Lane_Ready_0
noncomputable def r_lane_Lane_Ready_1 : Array Oper := Code.ops c_lane_Lane_Ready_1
noncomputable def c_lane_Lane_Ready_3 : Code := Code.r c_lane_Lane_Ready_0
noncomputable def c_lane_Lane_Ready_4 : Code := Code.l c_lane_Lane_Ready_3
noncomputable def r_lane_Lane_Ready_4 : Array Oper := Code.ops c_lane_Lane_Ready_4
noncomputable def c_lane_Lane_Ready_6 : Code := Code.r c_lane_Lane_Ready_3
noncomputable def c_lane_Lane_Ready_7 : Code := Code.l c_lane_Lane_Ready_6
noncomputable def r_lane_Lane_Ready_7 : Array Oper := Code.ops c_lane_Lane_Ready_7
noncomputable def c_lane_Lane_Ready_9 : Code := Code.r c_lane_Lane_Ready_6

set_option maxRecDepth 100000 in
set_option maxHeartbeats 4000000 in
theorem S_lane_Lane_Ready {l_ : Option Addr} {w : World} {R : Bool → World → Prop} (h : F_lane_Lane_Ready l_ R w) : C_lane_Lane_Ready l_ w R := by
  unfold F_lane_Lane_Ready at h
  unfold C_lane_Lane_Ready
  refine Calls.mono (calls_of_wpE (args := [Value.pointer l_]) (R := fun v w' => ∃ (r0 : Bool), v = Value.bool r0 ∧ R r0 w') Try.func28 (c := c_lane_Lane_Ready_0) (by kernel_rfl) 26 (by kernel_rfl) (by kernel_rfl) [(0, Value.pointer l_)] (by kernel_rfl) ?_) ?_
  · refine wpE_seq (x := c_lane_Lane_Ready_1) (y := c_lane_Lane_Ready_3) (by kernel_rfl) ?_
    refine wpE_region (id := 0) (ops := r_lane_Lane_Ready_1) (by kernel_rfl) ?_
    refine reg_run [.plain] 1 [(0, [], Value.pointer l_)] (by kernel_rfl) (by kernel_rfl) ?_
    refine reg_end [(0, Value.pointer l_)] (by kernel_rfl) (by kernel_rfl) ?_
    change WpE _ _ c_lane_Lane_Ready_3 _ _ _
    refine wpE_seq (x := c_lane_Lane_Ready_4) (y := c_lane_Lane_Ready_6) (by kernel_rfl) ?_
    refine wpE_region (id := 1) (ops := r_lane_Lane_Ready_4) (by kernel_rfl) ?_
    refine reg_run [.plain] 1 [(6, [], Value.pointer l_)] (by kernel_rfl) (by kernel_rfl) ?_
    refine reg_enter (op := (Go.Op.call (Go.Call.mk (Go.Callee.value (Go.Operand.func 60)) #[(Go.Operand.tmp 6)] #[38]))) (ty := 103) (dst := some 7) 60 #[Value.pointer l_] (by kernel_rfl) (fun ww => by kernel_rfl) (Calls.mono h ?_)
    rintro _ w1 ⟨b_, ok, rfl, h⟩
    refine ⟨_, rfl, ?_⟩
    refine reg_run [.plain, .plain, .plain, .plain, .plain] 7 [(3, [], Value.pointer b_), (4, [], Value.bool ok)] (by kernel_rfl) (by kernel_rfl) ?_
    refine reg_end [(3, Value.pointer b_), (4, Value.bool ok)] (by kernel_rfl) (by kernel_rfl) ?_
    change WpE _ _ c_lane_Lane_Ready_6 _ _ _
    refine wpE_seq (x := c_lane_Lane_Ready_7) (y := c_lane_Lane_Ready_9) (by kernel_rfl) ?_
    refine wpE_region (id := 2) (ops := r_lane_Lane_Ready_7) (by kernel_rfl) ?_
    refine reg_run [.plain, .plain, .plain] 3 [(3, [], Value.pointer b_), (11, [], Value.bool ok), (12, [(11, true)], Value.pointer b_)] (by kernel_rfl) (by kernel_rfl) ?_
    refine reg_split 11 ok (by kernel_rfl) (fun hb => ?_) (fun hb => ?_)
    · replace h := h.1 hb
      refine reg_run [] 3 [(3, [], Value.pointer b_), (11, [], Value.bool true), (12, [], Value.pointer b_)] (by kernel_rfl) (by kernel_rfl) ?_
      refine reg_run [] 3 [(3, [], Value.pointer b_), (11, [], Value.bool true), (12, [], Value.pointer b_)] (by kernel_rfl) (by kernel_rfl) ?_
      obtain ⟨hp_0, h⟩ := h
      refine reg_conv [(3, [], Value.pointer b_), (11, [], Value.bool true), (12, [], Value.pointer (some ⟨(pblk b_), (poff b_), none⟩))] (congrArg (fun pp => ([(3, [], Value.pointer b_), (11, [], Value.bool true), (12, [], Value.pointer pp)] : GEnv)) hp_0) ?_
      refine reg_run [.sure] 4 [(3, [], Value.pointer b_), (11, [], Value.bool true), (12, [], Value.pointer (some ⟨(pblk b_), (poff b_), none⟩)), (13, [], Value.pointer (some ⟨(pblk b_), (poff b_), none⟩))] (by kernel_rfl) (by kernel_rfl) ?_
      refine reg_run [.sure] 5 [(3, [], Value.pointer b_), (11, [], Value.bool true), (14, [], Value.pointer (some ⟨(pblk b_), (poff b_) + 1, none⟩))] (by kernel_rfl) (by kernel_rfl) ?_
      obtain ⟨v15, hc, h⟩ := h
      refine reg_load1 (t := 25) (a := (Go.Operand.tmp 14)) (b := (pblk b_)) (o := ((poff b_) + 1)) (ty := 25) (dst := some 15) (by kernel_rfl) (by kernel_rfl) (by kernel_rfl) hc ?_
      refine reg_run [.sure, .sure, .plain, .plain, .plain] 11 [(19, [], Value.bool (((v15.len : Nat) : Int) == 0)), (20, [(19, true)], Value.pointer b_)] (by kernel_rfl) (by kernel_rfl) ?_
      refine reg_split 19 (((v15.len : Nat) : Int) == 0) (by kernel_rfl) (fun hb => ?_) (fun hb => ?_)
      · replace h := h.1 hb
        refine reg_run [] 11 [(19, [], Value.bool true), (20, [], Value.pointer b_)] (by kernel_rfl) (by kernel_rfl) ?_
        refine reg_run [] 11 [(19, [], Value.bool true), (20, [], Value.pointer b_)] (by kernel_rfl) (by kernel_rfl) ?_
        obtain ⟨hp_1, h⟩ := h
        refine reg_conv [(19, [], Value.bool true), (20, [], Value.pointer (some ⟨(pblk b_), (poff b_), none⟩))] (congrArg (fun pp => ([(19, [], Value.bool true), (20, [], Value.pointer pp)] : GEnv)) hp_1) ?_
        refine reg_run [.sure] 12 [(19, [], Value.bool true), (20, [], Value.pointer (some ⟨(pblk b_), (poff b_), none⟩)), (21, [], Value.pointer (some ⟨(pblk b_), (poff b_), none⟩))] (by kernel_rfl) (by kernel_rfl) ?_
        refine reg_run [.sure] 13 [(19, [], Value.bool true), (22, [], Value.pointer (some ⟨(pblk b_), (poff b_) + 2, none⟩))] (by kernel_rfl) (by kernel_rfl) ?_
        obtain ⟨v23, hc, h⟩ := h
        refine reg_load1 (t := 3) (a := (Go.Operand.tmp 22)) (b := (pblk b_)) (o := ((poff b_) + 2)) (ty := 3) (dst := some 23) (by kernel_rfl) (by kernel_rfl) (by kernel_rfl) hc ?_
        refine reg_run [.sure, .plain, .plain] 17 [(2, [], Value.bool (v23 == 0))] (by kernel_rfl) (by kernel_rfl) ?_
        refine reg_end [(2, Value.bool (v23 == 0))] (by kernel_rfl) (by kernel_rfl) ?_
        change WpE _ _ c_lane_Lane_Ready_9 _ _ _
        refine wpE_ret (by kernel_rfl) ?_
        repeat (first | refine seqQ_ret ?_ | refine blockQ_ret ?_ | refine loopQ_ret ?_ | refine cutQ_ret ?_)
        exact retS (rs := [(Go.ResultVar.tmp 2)]) (v := Value.bool (v23 == 0)) (by kernel_rfl) (⟨by kernel_rfl, trivial⟩) ⟨(v23 == 0), rfl, h⟩
      · replace h := h.2 hb
        refine reg_run [] 11 [(19, [], Value.bool false), (20, [], undef)] (by kernel_rfl) (by kernel_rfl) ?_
        refine reg_run [.skip, .skip, .skip, .skip, .plain, .plain] 17 [(2, [], Value.bool false)] (by kernel_rfl) (by kernel_rfl) ?_
        refine reg_end [(2, Value.bool false)] (by kernel_rfl) (by kernel_rfl) ?_
        change WpE _ _ c_lane_Lane_Ready_9 _ _ _
        refine wpE_ret (by kernel_rfl) ?_
        repeat (first | refine seqQ_ret ?_ | refine blockQ_ret ?_ | refine loopQ_ret ?_ | refine cutQ_ret ?_)
        exact retS (rs := [(Go.ResultVar.tmp 2)]) (v := Value.bool false) (by kernel_rfl) (⟨by kernel_rfl, trivial⟩) ⟨false, rfl, h⟩
    · replace h := h.2 hb
      refine reg_run [] 3 [(3, [], Value.pointer b_), (11, [], Value.bool false), (12, [], undef)] (by kernel_rfl) (by kernel_rfl) ?_
      refine reg_run [.skip, .skip, .skip, .skip, .skip, .plain, .plain, .skip, .skip, .skip, .skip, .skip, .plain, .plain] 17 [(2, [], Value.bool false)] (by kernel_rfl) (by kernel_rfl) ?_
      refine reg_end [(2, Value.bool false)] (by kernel_rfl) (by kernel_rfl) ?_
      change WpE _ _ c_lane_Lane_Ready_9 _ _ _
      refine wpE_ret (by kernel_rfl) ?_
      repeat (first | refine seqQ_ret ?_ | refine blockQ_ret ?_ | refine loopQ_ret ?_ | refine cutQ_ret ?_)
      exact retS (rs := [(Go.ResultVar.tmp 2)]) (v := Value.bool false) (by kernel_rfl) (⟨by kernel_rfl, trivial⟩) ⟨false, rfl, h⟩
  · rintro e w' ⟨v, rfl, r0, rfl, h⟩; exact ⟨r0, rfl, h⟩

/-! ### (*towpath/lane.Lane).Sent (function 29) -/
noncomputable def c_lane_Lane_Sent_0 : Code := (Try.f29.body).getD Code.skip
noncomputable def c_lane_Lane_Sent_1 : Code := Code.l c_lane_Lane_Sent_0
noncomputable def r_lane_Lane_Sent_1 : Array Oper := Code.ops c_lane_Lane_Sent_1
noncomputable def c_lane_Lane_Sent_3 : Code := Code.r c_lane_Lane_Sent_0
noncomputable def c_lane_Lane_Sent_4 : Code := Code.l c_lane_Lane_Sent_3
noncomputable def c_lane_Lane_Sent_5 : Code := Code.l c_lane_Lane_Sent_4
noncomputable def r_lane_Lane_Sent_5 : Array Oper := Code.ops c_lane_Lane_Sent_5
noncomputable def c_lane_Lane_Sent_7 : Code := Code.r c_lane_Lane_Sent_4
noncomputable def c_lane_Lane_Sent_8 : Code := Code.l c_lane_Lane_Sent_7
noncomputable def c_lane_Lane_Sent_9 : Code := Code.l c_lane_Lane_Sent_8
noncomputable def r_lane_Lane_Sent_9 : Array Oper := Code.ops c_lane_Lane_Sent_9
noncomputable def c_lane_Lane_Sent_11 : Code := Code.r c_lane_Lane_Sent_8
noncomputable def c_lane_Lane_Sent_12 : Code := Code.r c_lane_Lane_Sent_7
noncomputable def c_lane_Lane_Sent_13 : Code := Code.r c_lane_Lane_Sent_3
noncomputable def c_lane_Lane_Sent_14 : Code := Code.l c_lane_Lane_Sent_13
noncomputable def r_lane_Lane_Sent_14 : Array Oper := Code.ops c_lane_Lane_Sent_14
noncomputable def c_lane_Lane_Sent_16 : Code := Code.r c_lane_Lane_Sent_13
noncomputable def c_lane_Lane_Sent_17 : Code := Code.l c_lane_Lane_Sent_16
noncomputable def c_lane_Lane_Sent_18 : Code := Code.l c_lane_Lane_Sent_17
noncomputable def r_lane_Lane_Sent_18 : Array Oper := Code.ops c_lane_Lane_Sent_18
noncomputable def c_lane_Lane_Sent_20 : Code := Code.r c_lane_Lane_Sent_17
noncomputable def c_lane_Lane_Sent_21 : Code := Code.l c_lane_Lane_Sent_20
noncomputable def c_lane_Lane_Sent_22 : Code := Code.l c_lane_Lane_Sent_21
noncomputable def r_lane_Lane_Sent_22 : Array Oper := Code.ops c_lane_Lane_Sent_22
noncomputable def c_lane_Lane_Sent_24 : Code := Code.r c_lane_Lane_Sent_21
noncomputable def c_lane_Lane_Sent_25 : Code := Code.r c_lane_Lane_Sent_20
noncomputable def c_lane_Lane_Sent_26 : Code := Code.r c_lane_Lane_Sent_16
noncomputable def c_lane_Lane_Sent_27 : Code := Code.l c_lane_Lane_Sent_26
noncomputable def r_lane_Lane_Sent_27 : Array Oper := Code.ops c_lane_Lane_Sent_27
noncomputable def c_lane_Lane_Sent_29 : Code := Code.r c_lane_Lane_Sent_26
noncomputable def c_lane_Lane_Sent_30 : Code := Code.l c_lane_Lane_Sent_29
noncomputable def r_lane_Lane_Sent_30 : Array Oper := Code.ops c_lane_Lane_Sent_30
noncomputable def c_lane_Lane_Sent_32 : Code := Code.r c_lane_Lane_Sent_29
noncomputable def c_lane_Lane_Sent_33 : Code := Code.l c_lane_Lane_Sent_32
noncomputable def r_lane_Lane_Sent_33 : Array Oper := Code.ops c_lane_Lane_Sent_33
noncomputable def c_lane_Lane_Sent_35 : Code := Code.r c_lane_Lane_Sent_32

set_option maxRecDepth 100000 in
set_option maxHeartbeats 4000000 in
theorem S_lane_Lane_Sent {l_ : Option Addr} {w : World} {R : Int → World → Prop} (h : F_lane_Lane_Sent l_ R w) : C_lane_Lane_Sent l_ w R := by
  unfold F_lane_Lane_Sent at h
  unfold C_lane_Lane_Sent
  refine Calls.mono (calls_of_wpE (args := [Value.pointer l_]) (R := fun v w' => ∃ (r0 : Int), v = Value.int .i64 r0 ∧ R r0 w') Try.func29 (c := c_lane_Lane_Sent_0) (by kernel_rfl) 37 (by kernel_rfl) (by kernel_rfl) [(0, Value.pointer l_)] (by kernel_rfl) ?_) ?_
  · refine wpE_seq (x := c_lane_Lane_Sent_1) (y := c_lane_Lane_Sent_3) (by kernel_rfl) ?_
    refine wpE_region (id := 0) (ops := r_lane_Lane_Sent_1) (by kernel_rfl) ?_
    refine reg_run [.plain] 1 [(0, [], Value.pointer l_)] (by kernel_rfl) (by kernel_rfl) ?_
    refine reg_end [(0, Value.pointer l_)] (by kernel_rfl) (by kernel_rfl) ?_
    change WpE _ _ c_lane_Lane_Sent_3 _ _ _
    refine wpE_seq (x := c_lane_Lane_Sent_4) (y := c_lane_Lane_Sent_13) (by kernel_rfl) ?_
    refine wpE_seq (x := c_lane_Lane_Sent_5) (y := c_lane_Lane_Sent_7) (by kernel_rfl) ?_
    refine wpE_region (id := 1) (ops := r_lane_Lane_Sent_5) (by kernel_rfl) ?_
    refine reg_run [.plain] 1 [(0, [], Value.pointer l_), (5, [], Value.pointer l_)] (by kernel_rfl) (by kernel_rfl) ?_
    refine reg_enter (op := (Go.Op.call (Go.Call.mk (Go.Callee.value (Go.Operand.func 59)) #[(Go.Operand.tmp 5)] #[38]))) (ty := 4) (dst := some 6) 59 #[Value.pointer l_] (by kernel_rfl) (fun ww => by kernel_rfl) (Calls.mono h ?_)
    rintro _ w1 ⟨v6, rfl, h⟩
    refine ⟨_, rfl, ?_⟩
    refine reg_end [(0, Value.pointer l_), (6, Value.bool v6)] (by kernel_rfl) (by kernel_rfl) ?_
    change WpE _ _ c_lane_Lane_Sent_7 _ _ _
    refine wpE_cond (o := (Operand.tmp 6)) (b := v6) (x := c_lane_Lane_Sent_8) (y := c_lane_Lane_Sent_12) (by kernel_rfl) (by kernel_rfl) (fun hb => ?_) (fun hb => ?_)
    · replace h := h.1 hb
      refine wpE_seq (x := c_lane_Lane_Sent_9) (y := c_lane_Lane_Sent_11) (by kernel_rfl) ?_
      refine wpE_region (id := 2) (ops := r_lane_Lane_Sent_9) (by kernel_rfl) ?_
      refine reg_run [.plain] 1 [(2, [], Value.int .i64 2)] (by kernel_rfl) (by kernel_rfl) ?_
      refine reg_end [(2, Value.int .i64 2)] (by kernel_rfl) (by kernel_rfl) ?_
      change WpE _ _ c_lane_Lane_Sent_11 _ _ _
      refine wpE_ret (by kernel_rfl) ?_
      repeat (first | refine seqQ_ret ?_ | refine blockQ_ret ?_ | refine loopQ_ret ?_ | refine cutQ_ret ?_)
      exact retS (rs := [(Go.ResultVar.tmp 2)]) (v := Value.int .i64 2) (by kernel_rfl) (⟨by kernel_rfl, trivial⟩) ⟨2, rfl, h⟩
    · replace h := h.2 hb
      refine wpE_skip (by kernel_rfl) ?_
      change WpE _ _ c_lane_Lane_Sent_13 _ _ _
      refine wpE_seq (x := c_lane_Lane_Sent_14) (y := c_lane_Lane_Sent_16) (by kernel_rfl) ?_
      refine wpE_region (id := 3) (ops := r_lane_Lane_Sent_14) (by kernel_rfl) ?_
      refine reg_run [.plain] 1 [(8, [], Value.pointer l_)] (by kernel_rfl) (by kernel_rfl) ?_
      refine reg_enter (op := (Go.Op.call (Go.Call.mk (Go.Callee.value (Go.Operand.func 60)) #[(Go.Operand.tmp 8)] #[38]))) (ty := 103) (dst := some 9) 60 #[Value.pointer l_] (by kernel_rfl) (fun ww => by kernel_rfl) (Calls.mono h ?_)
      rintro _ w2 ⟨b_, ok, rfl, h⟩
      refine ⟨_, rfl, ?_⟩
      refine reg_run [.plain, .plain, .plain, .plain, .plain] 7 [(3, [], Value.pointer b_), (4, [], Value.bool ok)] (by kernel_rfl) (by kernel_rfl) ?_
      refine reg_end [(3, Value.pointer b_), (4, Value.bool ok)] (by kernel_rfl) (by kernel_rfl) ?_
      change WpE _ _ c_lane_Lane_Sent_16 _ _ _
      refine wpE_seq (x := c_lane_Lane_Sent_17) (y := c_lane_Lane_Sent_26) (by kernel_rfl) ?_
      refine wpE_seq_cut (x := c_lane_Lane_Sent_18) (y := c_lane_Lane_Sent_20) (by kernel_rfl) (fun l w => ∃ (t21 : Bool), l = [(3, Value.pointer b_), (21, Value.bool t21)] ∧ F_lane_Lane_Sent_k0 R b_ t21 w) ?_ ?_
      · refine wpE_region (id := 4) (ops := r_lane_Lane_Sent_18) (by kernel_rfl) ?_
        refine reg_run [.plain, .plain, .plain, .plain] 4 [(3, [], Value.pointer b_), (14, [], Value.bool (!ok)), (15, [(14, false)], Value.pointer b_)] (by kernel_rfl) (by kernel_rfl) ?_
        refine reg_split 14 (!ok) (by kernel_rfl) (fun hb => ?_) (fun hb => ?_)
        · replace h := h.1 hb
          refine reg_run [] 4 [(3, [], Value.pointer b_), (14, [], Value.bool true), (15, [], undef)] (by kernel_rfl) (by kernel_rfl) ?_
          refine reg_run [.skip, .skip, .skip, .skip, .skip, .plain] 10 [(3, [], Value.pointer b_), (21, [], Value.bool true)] (by kernel_rfl) (by kernel_rfl) ?_
          refine reg_end [(3, Value.pointer b_), (21, Value.bool true)] (by kernel_rfl) (by kernel_rfl) ?_
          exact ⟨[(3, Value.pointer b_), (21, Value.bool true)], Sub.mk (by kernel_rfl), true, rfl, h⟩
        · replace h := h.2 hb
          refine reg_run [] 4 [(3, [], Value.pointer b_), (14, [], Value.bool false), (15, [], Value.pointer b_)] (by kernel_rfl) (by kernel_rfl) ?_
          refine reg_run [] 4 [(3, [], Value.pointer b_), (14, [], Value.bool false), (15, [], Value.pointer b_)] (by kernel_rfl) (by kernel_rfl) ?_
          obtain ⟨hp_9, h⟩ := h
          refine reg_conv [(3, [], Value.pointer b_), (14, [], Value.bool false), (15, [], Value.pointer (some ⟨(pblk b_), (poff b_), none⟩))] (congrArg (fun pp => ([(3, [], Value.pointer b_), (14, [], Value.bool false), (15, [], Value.pointer pp)] : GEnv)) hp_9) ?_
          refine reg_run [.sure] 5 [(3, [], Value.pointer b_), (14, [], Value.bool false), (15, [], Value.pointer (some ⟨(pblk b_), (poff b_), none⟩)), (16, [], Value.pointer (some ⟨(pblk b_), (poff b_), none⟩))] (by kernel_rfl) (by kernel_rfl) ?_
          refine reg_run [.sure] 6 [(3, [], Value.pointer b_), (14, [], Value.bool false), (17, [], Value.pointer (some ⟨(pblk b_), (poff b_) + 1, none⟩))] (by kernel_rfl) (by kernel_rfl) ?_
          obtain ⟨v18, hc, h⟩ := h
          refine reg_load1 (t := 25) (a := (Go.Operand.tmp 17)) (b := (pblk b_)) (o := ((poff b_) + 1)) (ty := 25) (dst := some 18) (by kernel_rfl) (by kernel_rfl) (by kernel_rfl) hc ?_
          refine reg_run [.sure, .sure, .plain] 10 [(3, [], Value.pointer b_), (21, [], Value.bool (((v18.len : Nat) : Int) == 0))] (by kernel_rfl) (by kernel_rfl) ?_
          refine reg_end [(3, Value.pointer b_), (21, Value.bool (((v18.len : Nat) : Int) == 0))] (by kernel_rfl) (by kernel_rfl) ?_
          exact ⟨[(3, Value.pointer b_), (21, Value.bool (((v18.len : Nat) : Int) == 0))], Sub.mk (by kernel_rfl), (((v18.len : Nat) : Int) == 0), rfl, h⟩
      · rintro _ w3 ⟨t21, rfl, h⟩
        unfold F_lane_Lane_Sent_k0 at h
        refine wpE_cond (o := (Operand.tmp 21)) (b := t21) (x := c_lane_Lane_Sent_21) (y := c_lane_Lane_Sent_25) (by kernel_rfl) (by kernel_rfl) (fun hb => ?_) (fun hb => ?_)
        · replace h := h.1 hb
          refine wpE_seq (x := c_lane_Lane_Sent_22) (y := c_lane_Lane_Sent_24) (by kernel_rfl) ?_
          refine wpE_region (id := 5) (ops := r_lane_Lane_Sent_22) (by kernel_rfl) ?_
          refine reg_run [.plain] 1 [(2, [], Value.int .i64 9)] (by kernel_rfl) (by kernel_rfl) ?_
          refine reg_end [(2, Value.int .i64 9)] (by kernel_rfl) (by kernel_rfl) ?_
          change WpE _ _ c_lane_Lane_Sent_24 _ _ _
          refine wpE_ret (by kernel_rfl) ?_
          repeat (first | refine seqQ_ret ?_ | refine blockQ_ret ?_ | refine loopQ_ret ?_ | refine cutQ_ret ?_)
          exact retS (rs := [(Go.ResultVar.tmp 2)]) (v := Value.int .i64 9) (by kernel_rfl) (⟨by kernel_rfl, trivial⟩) ⟨9, rfl, h⟩
        · replace h := h.2 hb
          refine wpE_skip (by kernel_rfl) ?_
          change WpE _ _ c_lane_Lane_Sent_26 _ _ _
          refine wpE_seq (x := c_lane_Lane_Sent_27) (y := c_lane_Lane_Sent_29) (by kernel_rfl) ?_
          refine wpE_region (id := 6) (ops := r_lane_Lane_Sent_27) (by kernel_rfl) ?_
          refine reg_run [.plain, .plain] 2 [(3, [], Value.pointer b_), (22, [], Value.pointer b_), (23, [], Value.pointer b_)] (by kernel_rfl) (by kernel_rfl) ?_
          obtain ⟨hp_5, h⟩ := h
          refine reg_conv [(3, [], Value.pointer b_), (22, [], Value.pointer b_), (23, [], Value.pointer (some ⟨(pblk b_), (poff b_), none⟩))] (congrArg (fun pp => ([(3, [], Value.pointer b_), (22, [], Value.pointer b_), (23, [], Value.pointer pp)] : GEnv)) hp_5) ?_
          refine reg_run [.plain] 3 [(3, [], Value.pointer b_), (22, [], Value.pointer b_), (23, [], Value.pointer (some ⟨(pblk b_), (poff b_), none⟩)), (24, [], Value.pointer (some ⟨(pblk b_), (poff b_), none⟩))] (by kernel_rfl) (by kernel_rfl) ?_
          refine reg_run [.plain] 4 [(3, [], Value.pointer b_), (22, [], Value.pointer b_), (25, [], Value.pointer (some ⟨(pblk b_), (poff b_) + 1, none⟩))] (by kernel_rfl) (by kernel_rfl) ?_
          obtain ⟨v26, hc, h⟩ := h
          refine reg_load1 (t := 25) (a := (Go.Operand.tmp 25)) (b := (pblk b_)) (o := ((poff b_) + 1)) (ty := 25) (dst := some 26) (by kernel_rfl) (by kernel_rfl) (by kernel_rfl) hc ?_
          refine reg_run [] 5 [(3, [], Value.pointer b_), (22, [], Value.pointer b_), (26, [], Value.slice v26.ptr v26.len v26.cap)] (by kernel_rfl) (by kernel_rfl) ?_
          obtain ⟨hc, h⟩ := h
          refine reg_slice (t := 25) (e := 61) (x := (Go.Operand.tmp 26)) (lo := (Go.Operand.const (Go.Value.int Go.IntKind.i64 1))) (s := v26) (sz := 3) (k := .i64) (a := 1) (ty := 25) (dst := some 27) (by kernel_rfl) (by kernel_rfl) (by kernel_rfl) (by kernel_rfl) (by kernel_rfl) hc (fun s hs => ?_)
          replace h := h s hs
          clear hs
          refine reg_run [] 6 [(3, [], Value.pointer b_), (22, [], Value.pointer b_), (27, [], Value.slice s.ptr s.len s.cap)] (by kernel_rfl) (by kernel_rfl) ?_
          obtain ⟨hp_6, h⟩ := h
          refine reg_conv [(3, [], Value.pointer b_), (22, [], Value.pointer (some ⟨(pblk b_), (poff b_), none⟩)), (27, [], Value.slice s.ptr s.len s.cap)] (congrArg (fun pp => ([(3, [], Value.pointer b_), (22, [], Value.pointer pp), (27, [], Value.slice s.ptr s.len s.cap)] : GEnv)) hp_6) ?_
          refine reg_run [.plain] 7 [(3, [], Value.pointer b_), (22, [], Value.pointer (some ⟨(pblk b_), (poff b_), none⟩)), (27, [], Value.slice s.ptr s.len s.cap), (28, [], Value.pointer (some ⟨(pblk b_), (poff b_), none⟩))] (by kernel_rfl) (by kernel_rfl) ?_
          refine reg_run [.plain] 8 [(3, [], Value.pointer b_), (27, [], Value.slice s.ptr s.len s.cap), (29, [], Value.pointer (some ⟨(pblk b_), (poff b_) + 1, none⟩))] (by kernel_rfl) (by kernel_rfl) ?_
          obtain ⟨hc, h⟩ := h
          refine reg_store (t := 25) (a := (Go.Operand.tmp 29)) (x := (Go.Operand.tmp 27)) (b := (pblk b_)) (o := ((poff b_) + 1)) (ty := 0) (dst := none) [Value.slice s.ptr s.len s.cap] (by kernel_rfl) (by kernel_rfl) (by kernel_rfl) (k := 1) (by kernel_rfl) (by kernel_rfl) (by kernel_rfl) hc (fun w4 hw => ?_)
          replace h := h w4 hw
          clear hw
          refine reg_end [(3, Value.pointer b_)] (by kernel_rfl) (by kernel_rfl) ?_
          change WpE _ _ c_lane_Lane_Sent_29 _ _ _
          refine wpE_seq (x := c_lane_Lane_Sent_30) (y := c_lane_Lane_Sent_32) (by kernel_rfl) ?_
          refine wpE_region (id := 7) (ops := r_lane_Lane_Sent_30) (by kernel_rfl) ?_
          refine reg_run [.plain] 1 [(30, [], Value.pointer b_)] (by kernel_rfl) (by kernel_rfl) ?_
          obtain ⟨hp_8, h⟩ := h
          refine reg_conv [(30, [], Value.pointer (some ⟨(pblk b_), (poff b_), none⟩))] (congrArg (fun pp => ([(30, [], Value.pointer pp)] : GEnv)) hp_8) ?_
          refine reg_run [.plain] 2 [(30, [], Value.pointer (some ⟨(pblk b_), (poff b_), none⟩)), (31, [], Value.pointer (some ⟨(pblk b_), (poff b_), none⟩))] (by kernel_rfl) (by kernel_rfl) ?_
          refine reg_run [.plain] 3 [(30, [], Value.pointer (some ⟨(pblk b_), (poff b_), none⟩)), (32, [], Value.pointer (some ⟨(pblk b_), (poff b_) + 2, none⟩))] (by kernel_rfl) (by kernel_rfl) ?_
          obtain ⟨v33, hc, h⟩ := h
          refine reg_load1 (t := 3) (a := (Go.Operand.tmp 32)) (b := (pblk b_)) (o := ((poff b_) + 2)) (ty := 3) (dst := some 33) (by kernel_rfl) (by kernel_rfl) (by kernel_rfl) hc ?_
          refine reg_run [.plain, .plain, .plain] 7 [(34, [], Value.int .i64 (IntKind.i64.wrap (v33 + 1))), (36, [], Value.pointer (some ⟨(pblk b_), (poff b_) + 2, none⟩))] (by kernel_rfl) (by kernel_rfl) ?_
          obtain ⟨hc, h⟩ := h
          refine reg_store (t := 3) (a := (Go.Operand.tmp 36)) (x := (Go.Operand.tmp 34)) (b := (pblk b_)) (o := ((poff b_) + 2)) (ty := 0) (dst := none) [Value.int .i64 (IntKind.i64.wrap (v33 + 1))] (by kernel_rfl) (by kernel_rfl) (by kernel_rfl) (k := 1) (by kernel_rfl) (by kernel_rfl) (by kernel_rfl) hc (fun w5 hw => ?_)
          replace h := h w5 hw
          clear hw
          refine reg_end [] (by kernel_rfl) (by kernel_rfl) ?_
          change WpE _ _ c_lane_Lane_Sent_32 _ _ _
          refine wpE_seq (x := c_lane_Lane_Sent_33) (y := c_lane_Lane_Sent_35) (by kernel_rfl) ?_
          refine wpE_region (id := 8) (ops := r_lane_Lane_Sent_33) (by kernel_rfl) ?_
          refine reg_run [.plain] 1 [(2, [], Value.int .i64 0)] (by kernel_rfl) (by kernel_rfl) ?_
          refine reg_end [(2, Value.int .i64 0)] (by kernel_rfl) (by kernel_rfl) ?_
          change WpE _ _ c_lane_Lane_Sent_35 _ _ _
          refine wpE_ret (by kernel_rfl) ?_
          repeat (first | refine seqQ_ret ?_ | refine blockQ_ret ?_ | refine loopQ_ret ?_ | refine cutQ_ret ?_)
          exact retS (rs := [(Go.ResultVar.tmp 2)]) (v := Value.int .i64 0) (by kernel_rfl) (⟨by kernel_rfl, trivial⟩) ⟨0, rfl, h⟩
  · rintro e w' ⟨v, rfl, r0, rfl, h⟩; exact ⟨r0, rfl, h⟩

/-! ### (*towpath/lane.Lane).Acked (function 30) -/
noncomputable def c_lane_Lane_Acked_0 : Code := (Try.f30.body).getD Code.skip
noncomputable def c_lane_Lane_Acked_1 : Code := Code.l c_lane_Lane_Acked_0
noncomputable def r_lane_Lane_Acked_1 : Array Oper := Code.ops c_lane_Lane_Acked_1
noncomputable def c_lane_Lane_Acked_3 : Code := Code.r c_lane_Lane_Acked_0
noncomputable def c_lane_Lane_Acked_4 : Code := Code.l c_lane_Lane_Acked_3
noncomputable def c_lane_Lane_Acked_5 : Code := Code.l c_lane_Lane_Acked_4
noncomputable def r_lane_Lane_Acked_5 : Array Oper := Code.ops c_lane_Lane_Acked_5
noncomputable def c_lane_Lane_Acked_7 : Code := Code.r c_lane_Lane_Acked_4
noncomputable def c_lane_Lane_Acked_8 : Code := Code.l c_lane_Lane_Acked_7
noncomputable def c_lane_Lane_Acked_9 : Code := Code.l c_lane_Lane_Acked_8
noncomputable def r_lane_Lane_Acked_9 : Array Oper := Code.ops c_lane_Lane_Acked_9
noncomputable def c_lane_Lane_Acked_11 : Code := Code.r c_lane_Lane_Acked_8
noncomputable def c_lane_Lane_Acked_12 : Code := Code.r c_lane_Lane_Acked_7
noncomputable def c_lane_Lane_Acked_13 : Code := Code.r c_lane_Lane_Acked_3
noncomputable def c_lane_Lane_Acked_14 : Code := Code.l c_lane_Lane_Acked_13
noncomputable def r_lane_Lane_Acked_14 : Array Oper := Code.ops c_lane_Lane_Acked_14
noncomputable def c_lane_Lane_Acked_16 : Code := Code.r c_lane_Lane_Acked_13
noncomputable def c_lane_Lane_Acked_17 : Code := Code.l c_lane_Lane_Acked_16
noncomputable def c_lane_Lane_Acked_18 : Code := Code.l c_lane_Lane_Acked_17
noncomputable def r_lane_Lane_Acked_18 : Array Oper := Code.ops c_lane_Lane_Acked_18
noncomputable def c_lane_Lane_Acked_20 : Code := Code.r c_lane_Lane_Acked_17
noncomputable def c_lane_Lane_Acked_21 : Code := Code.l c_lane_Lane_Acked_20
noncomputable def c_lane_Lane_Acked_22 : Code := Code.l c_lane_Lane_Acked_21
noncomputable def r_lane_Lane_Acked_22 : Array Oper := Code.ops c_lane_Lane_Acked_22
noncomputable def c_lane_Lane_Acked_24 : Code := Code.r c_lane_Lane_Acked_21
noncomputable def c_lane_Lane_Acked_25 : Code := Code.r c_lane_Lane_Acked_20
noncomputable def c_lane_Lane_Acked_26 : Code := Code.r c_lane_Lane_Acked_16
noncomputable def c_lane_Lane_Acked_27 : Code := Code.l c_lane_Lane_Acked_26
noncomputable def r_lane_Lane_Acked_27 : Array Oper := Code.ops c_lane_Lane_Acked_27
noncomputable def c_lane_Lane_Acked_29 : Code := Code.r c_lane_Lane_Acked_26
noncomputable def c_lane_Lane_Acked_30 : Code := Code.l c_lane_Lane_Acked_29
noncomputable def r_lane_Lane_Acked_30 : Array Oper := Code.ops c_lane_Lane_Acked_30
noncomputable def c_lane_Lane_Acked_32 : Code := Code.r c_lane_Lane_Acked_29

set_option maxRecDepth 100000 in
set_option maxHeartbeats 4000000 in
theorem S_lane_Lane_Acked {l_ : Option Addr} {w : World} {R : Int → World → Prop} (h : F_lane_Lane_Acked l_ R w) : C_lane_Lane_Acked l_ w R := by
  unfold F_lane_Lane_Acked at h
  unfold C_lane_Lane_Acked
  refine Calls.mono (calls_of_wpE (args := [Value.pointer l_]) (R := fun v w' => ∃ (r0 : Int), v = Value.int .i64 r0 ∧ R r0 w') Try.func30 (c := c_lane_Lane_Acked_0) (by kernel_rfl) 28 (by kernel_rfl) (by kernel_rfl) [(0, Value.pointer l_)] (by kernel_rfl) ?_) ?_
  · refine wpE_seq (x := c_lane_Lane_Acked_1) (y := c_lane_Lane_Acked_3) (by kernel_rfl) ?_
    refine wpE_region (id := 0) (ops := r_lane_Lane_Acked_1) (by kernel_rfl) ?_
    refine reg_run [.plain] 1 [(0, [], Value.pointer l_)] (by kernel_rfl) (by kernel_rfl) ?_
    refine reg_end [(0, Value.pointer l_)] (by kernel_rfl) (by kernel_rfl) ?_
    change WpE _ _ c_lane_Lane_Acked_3 _ _ _
    refine wpE_seq (x := c_lane_Lane_Acked_4) (y := c_lane_Lane_Acked_13) (by kernel_rfl) ?_
    refine wpE_seq (x := c_lane_Lane_Acked_5) (y := c_lane_Lane_Acked_7) (by kernel_rfl) ?_
    refine wpE_region (id := 1) (ops := r_lane_Lane_Acked_5) (by kernel_rfl) ?_
    refine reg_run [.plain] 1 [(0, [], Value.pointer l_), (5, [], Value.pointer l_)] (by kernel_rfl) (by kernel_rfl) ?_
    refine reg_enter (op := (Go.Op.call (Go.Call.mk (Go.Callee.value (Go.Operand.func 59)) #[(Go.Operand.tmp 5)] #[38]))) (ty := 4) (dst := some 6) 59 #[Value.pointer l_] (by kernel_rfl) (fun ww => by kernel_rfl) (Calls.mono h ?_)
    rintro _ w1 ⟨v6, rfl, h⟩
    refine ⟨_, rfl, ?_⟩
    refine reg_end [(0, Value.pointer l_), (6, Value.bool v6)] (by kernel_rfl) (by kernel_rfl) ?_
    change WpE _ _ c_lane_Lane_Acked_7 _ _ _
    refine wpE_cond (o := (Operand.tmp 6)) (b := v6) (x := c_lane_Lane_Acked_8) (y := c_lane_Lane_Acked_12) (by kernel_rfl) (by kernel_rfl) (fun hb => ?_) (fun hb => ?_)
    · replace h := h.1 hb
      refine wpE_seq (x := c_lane_Lane_Acked_9) (y := c_lane_Lane_Acked_11) (by kernel_rfl) ?_
      refine wpE_region (id := 2) (ops := r_lane_Lane_Acked_9) (by kernel_rfl) ?_
      refine reg_run [.plain] 1 [(2, [], Value.int .i64 2)] (by kernel_rfl) (by kernel_rfl) ?_
      refine reg_end [(2, Value.int .i64 2)] (by kernel_rfl) (by kernel_rfl) ?_
      change WpE _ _ c_lane_Lane_Acked_11 _ _ _
      refine wpE_ret (by kernel_rfl) ?_
      repeat (first | refine seqQ_ret ?_ | refine blockQ_ret ?_ | refine loopQ_ret ?_ | refine cutQ_ret ?_)
      exact retS (rs := [(Go.ResultVar.tmp 2)]) (v := Value.int .i64 2) (by kernel_rfl) (⟨by kernel_rfl, trivial⟩) ⟨2, rfl, h⟩
    · replace h := h.2 hb
      refine wpE_skip (by kernel_rfl) ?_
      change WpE _ _ c_lane_Lane_Acked_13 _ _ _
      refine wpE_seq (x := c_lane_Lane_Acked_14) (y := c_lane_Lane_Acked_16) (by kernel_rfl) ?_
      refine wpE_region (id := 3) (ops := r_lane_Lane_Acked_14) (by kernel_rfl) ?_
      refine reg_run [.plain] 1 [(8, [], Value.pointer l_)] (by kernel_rfl) (by kernel_rfl) ?_
      refine reg_enter (op := (Go.Op.call (Go.Call.mk (Go.Callee.value (Go.Operand.func 60)) #[(Go.Operand.tmp 8)] #[38]))) (ty := 103) (dst := some 9) 60 #[Value.pointer l_] (by kernel_rfl) (fun ww => by kernel_rfl) (Calls.mono h ?_)
      rintro _ w2 ⟨b_, ok, rfl, h⟩
      refine ⟨_, rfl, ?_⟩
      refine reg_run [.plain, .plain, .plain, .plain, .plain] 7 [(3, [], Value.pointer b_), (4, [], Value.bool ok)] (by kernel_rfl) (by kernel_rfl) ?_
      refine reg_end [(3, Value.pointer b_), (4, Value.bool ok)] (by kernel_rfl) (by kernel_rfl) ?_
      change WpE _ _ c_lane_Lane_Acked_16 _ _ _
      refine wpE_seq (x := c_lane_Lane_Acked_17) (y := c_lane_Lane_Acked_26) (by kernel_rfl) ?_
      refine wpE_seq_cut (x := c_lane_Lane_Acked_18) (y := c_lane_Lane_Acked_20) (by kernel_rfl) (fun l w => ∃ (t20 : Bool), l = [(3, Value.pointer b_), (20, Value.bool t20)] ∧ F_lane_Lane_Acked_k0 R b_ t20 w) ?_ ?_
      · refine wpE_region (id := 4) (ops := r_lane_Lane_Acked_18) (by kernel_rfl) ?_
        refine reg_run [.plain, .plain, .plain, .plain] 4 [(3, [], Value.pointer b_), (14, [], Value.bool (!ok)), (15, [(14, false)], Value.pointer b_)] (by kernel_rfl) (by kernel_rfl) ?_
        refine reg_split 14 (!ok) (by kernel_rfl) (fun hb => ?_) (fun hb => ?_)
        · replace h := h.1 hb
          refine reg_run [] 4 [(3, [], Value.pointer b_), (14, [], Value.bool true), (15, [], undef)] (by kernel_rfl) (by kernel_rfl) ?_
          refine reg_run [.skip, .skip, .skip, .skip, .plain] 9 [(3, [], Value.pointer b_), (20, [], Value.bool true)] (by kernel_rfl) (by kernel_rfl) ?_
          refine reg_end [(3, Value.pointer b_), (20, Value.bool true)] (by kernel_rfl) (by kernel_rfl) ?_
          exact ⟨[(3, Value.pointer b_), (20, Value.bool true)], Sub.mk (by kernel_rfl), true, rfl, h⟩
        · replace h := h.2 hb
          refine reg_run [] 4 [(3, [], Value.pointer b_), (14, [], Value.bool false), (15, [], Value.pointer b_)] (by kernel_rfl) (by kernel_rfl) ?_
          refine reg_run [] 4 [(3, [], Value.pointer b_), (14, [], Value.bool false), (15, [], Value.pointer b_)] (by kernel_rfl) (by kernel_rfl) ?_
          obtain ⟨hp_5, h⟩ := h
          refine reg_conv [(3, [], Value.pointer b_), (14, [], Value.bool false), (15, [], Value.pointer (some ⟨(pblk b_), (poff b_), none⟩))] (congrArg (fun pp => ([(3, [], Value.pointer b_), (14, [], Value.bool false), (15, [], Value.pointer pp)] : GEnv)) hp_5) ?_
          refine reg_run [.sure] 5 [(3, [], Value.pointer b_), (14, [], Value.bool false), (15, [], Value.pointer (some ⟨(pblk b_), (poff b_), none⟩)), (16, [], Value.pointer (some ⟨(pblk b_), (poff b_), none⟩))] (by kernel_rfl) (by kernel_rfl) ?_
          refine reg_run [.sure] 6 [(3, [], Value.pointer b_), (14, [], Value.bool false), (17, [], Value.pointer (some ⟨(pblk b_), (poff b_) + 2, none⟩))] (by kernel_rfl) (by kernel_rfl) ?_
          obtain ⟨v18, hc, h⟩ := h
          refine reg_load1 (t := 3) (a := (Go.Operand.tmp 17)) (b := (pblk b_)) (o := ((poff b_) + 2)) (ty := 3) (dst := some 18) (by kernel_rfl) (by kernel_rfl) (by kernel_rfl) hc ?_
          refine reg_run [.sure, .plain] 9 [(3, [], Value.pointer b_), (20, [], Value.bool (v18 == 0))] (by kernel_rfl) (by kernel_rfl) ?_
          refine reg_end [(3, Value.pointer b_), (20, Value.bool (v18 == 0))] (by kernel_rfl) (by kernel_rfl) ?_
          exact ⟨[(3, Value.pointer b_), (20, Value.bool (v18 == 0))], Sub.mk (by kernel_rfl), (v18 == 0), rfl, h⟩
      · rintro _ w3 ⟨t20, rfl, h⟩
        unfold F_lane_Lane_Acked_k0 at h
        refine wpE_cond (o := (Operand.tmp 20)) (b := t20) (x := c_lane_Lane_Acked_21) (y := c_lane_Lane_Acked_25) (by kernel_rfl) (by kernel_rfl) (fun hb => ?_) (fun hb => ?_)
        · replace h := h.1 hb
          refine wpE_seq (x := c_lane_Lane_Acked_22) (y := c_lane_Lane_Acked_24) (by kernel_rfl) ?_
          refine wpE_region (id := 5) (ops := r_lane_Lane_Acked_22) (by kernel_rfl) ?_
          refine reg_run [.plain] 1 [(2, [], Value.int .i64 9)] (by kernel_rfl) (by kernel_rfl) ?_
          refine reg_end [(2, Value.int .i64 9)] (by kernel_rfl) (by kernel_rfl) ?_
          change WpE _ _ c_lane_Lane_Acked_24 _ _ _
          refine wpE_ret (by kernel_rfl) ?_
          repeat (first | refine seqQ_ret ?_ | refine blockQ_ret ?_ | refine loopQ_ret ?_ | refine cutQ_ret ?_)
          exact retS (rs := [(Go.ResultVar.tmp 2)]) (v := Value.int .i64 9) (by kernel_rfl) (⟨by kernel_rfl, trivial⟩) ⟨9, rfl, h⟩
        · replace h := h.2 hb
          refine wpE_skip (by kernel_rfl) ?_
          change WpE _ _ c_lane_Lane_Acked_26 _ _ _
          refine wpE_seq (x := c_lane_Lane_Acked_27) (y := c_lane_Lane_Acked_29) (by kernel_rfl) ?_
          refine wpE_region (id := 6) (ops := r_lane_Lane_Acked_27) (by kernel_rfl) ?_
          refine reg_run [.plain] 1 [(21, [], Value.pointer b_)] (by kernel_rfl) (by kernel_rfl) ?_
          obtain ⟨hp_4, h⟩ := h
          refine reg_conv [(21, [], Value.pointer (some ⟨(pblk b_), (poff b_), none⟩))] (congrArg (fun pp => ([(21, [], Value.pointer pp)] : GEnv)) hp_4) ?_
          refine reg_run [.plain] 2 [(21, [], Value.pointer (some ⟨(pblk b_), (poff b_), none⟩)), (22, [], Value.pointer (some ⟨(pblk b_), (poff b_), none⟩))] (by kernel_rfl) (by kernel_rfl) ?_
          refine reg_run [.plain] 3 [(21, [], Value.pointer (some ⟨(pblk b_), (poff b_), none⟩)), (23, [], Value.pointer (some ⟨(pblk b_), (poff b_) + 2, none⟩))] (by kernel_rfl) (by kernel_rfl) ?_
          obtain ⟨v24, hc, h⟩ := h
          refine reg_load1 (t := 3) (a := (Go.Operand.tmp 23)) (b := (pblk b_)) (o := ((poff b_) + 2)) (ty := 3) (dst := some 24) (by kernel_rfl) (by kernel_rfl) (by kernel_rfl) hc ?_
          refine reg_run [.plain, .plain, .plain] 7 [(25, [], Value.int .i64 (IntKind.i64.wrap (v24 - 1))), (27, [], Value.pointer (some ⟨(pblk b_), (poff b_) + 2, none⟩))] (by kernel_rfl) (by kernel_rfl) ?_
          obtain ⟨hc, h⟩ := h
          refine reg_store (t := 3) (a := (Go.Operand.tmp 27)) (x := (Go.Operand.tmp 25)) (b := (pblk b_)) (o := ((poff b_) + 2)) (ty := 0) (dst := none) [Value.int .i64 (IntKind.i64.wrap (v24 - 1))] (by kernel_rfl) (by kernel_rfl) (by kernel_rfl) (k := 1) (by kernel_rfl) (by kernel_rfl) (by kernel_rfl) hc (fun w4 hw => ?_)
          replace h := h w4 hw
          clear hw
          refine reg_end [] (by kernel_rfl) (by kernel_rfl) ?_
          change WpE _ _ c_lane_Lane_Acked_29 _ _ _
          refine wpE_seq (x := c_lane_Lane_Acked_30) (y := c_lane_Lane_Acked_32) (by kernel_rfl) ?_
          refine wpE_region (id := 7) (ops := r_lane_Lane_Acked_30) (by kernel_rfl) ?_
          refine reg_run [.plain] 1 [(2, [], Value.int .i64 0)] (by kernel_rfl) (by kernel_rfl) ?_
          refine reg_end [(2, Value.int .i64 0)] (by kernel_rfl) (by kernel_rfl) ?_
          change WpE _ _ c_lane_Lane_Acked_32 _ _ _
          refine wpE_ret (by kernel_rfl) ?_
          repeat (first | refine seqQ_ret ?_ | refine blockQ_ret ?_ | refine loopQ_ret ?_ | refine cutQ_ret ?_)
          exact retS (rs := [(Go.ResultVar.tmp 2)]) (v := Value.int .i64 0) (by kernel_rfl) (⟨by kernel_rfl, trivial⟩) ⟨0, rfl, h⟩
  · rintro e w' ⟨v, rfl, r0, rfl, h⟩; exact ⟨r0, rfl, h⟩

/-! ### (*towpath/lane.Lane).Done (function 31) -/
noncomputable def c_lane_Lane_Done_0 : Code := (Try.f31.body).getD Code.skip
noncomputable def c_lane_Lane_Done_1 : Code := Code.l c_lane_Lane_Done_0
noncomputable def r_lane_Lane_Done_1 : Array Oper := Code.ops c_lane_Lane_Done_1
noncomputable def c_lane_Lane_Done_3 : Code := Code.r c_lane_Lane_Done_0
noncomputable def c_lane_Lane_Done_4 : Code := Code.l c_lane_Lane_Done_3
noncomputable def c_lane_Lane_Done_5 : Code := Code.l c_lane_Lane_Done_4
noncomputable def r_lane_Lane_Done_5 : Array Oper := Code.ops c_lane_Lane_Done_5
noncomputable def c_lane_Lane_Done_7 : Code := Code.r c_lane_Lane_Done_4
noncomputable def c_lane_Lane_Done_8 : Code := Code.l c_lane_Lane_Done_7
noncomputable def c_lane_Lane_Done_9 : Code := Code.l c_lane_Lane_Done_8
noncomputable def r_lane_Lane_Done_9 : Array Oper := Code.ops c_lane_Lane_Done_9
noncomputable def c_lane_Lane_Done_11 : Code := Code.r c_lane_Lane_Done_8
noncomputable def c_lane_Lane_Done_12 : Code := Code.r c_lane_Lane_Done_7
noncomputable def c_lane_Lane_Done_13 : Code := Code.r c_lane_Lane_Done_3
noncomputable def c_lane_Lane_Done_14 : Code := Code.l c_lane_Lane_Done_13
noncomputable def r_lane_Lane_Done_14 : Array Oper := Code.ops c_lane_Lane_Done_14
noncomputable def c_lane_Lane_Done_16 : Code := Code.r c_lane_Lane_Done_13
noncomputable def c_lane_Lane_Done_17 : Code := Code.l c_lane_Lane_Done_16
noncomputable def c_lane_Lane_Done_18 : Code := Code.l c_lane_Lane_Done_17
noncomputable def c_lane_Lane_Done_19 : Code := Code.l c_lane_Lane_Done_18
noncomputable def r_lane_Lane_Done_19 : Array Oper := Code.ops c_lane_Lane_Done_19
noncomputable def c_lane_Lane_Done_21 : Code := Code.r c_lane_Lane_Done_18
noncomputable def c_lane_Lane_Done_22 : Code := Code.l c_lane_Lane_Done_21
noncomputable def c_lane_Lane_Done_23 : Code := Code.l c_lane_Lane_Done_22
noncomputable def r_lane_Lane_Done_23 : Array Oper := Code.ops c_lane_Lane_Done_23
noncomputable def c_lane_Lane_Done_25 : Code := Code.r c_lane_Lane_Done_22
noncomputable def c_lane_Lane_Done_26 : Code := Code.r c_lane_Lane_Done_21
noncomputable def c_lane_Lane_Done_27 : Code := Code.l c_lane_Lane_Done_26
noncomputable def r_lane_Lane_Done_27 : Array Oper := Code.ops c_lane_Lane_Done_27
noncomputable def c_lane_Lane_Done_29 : Code := Code.r c_lane_Lane_Done_26
noncomputable def c_lane_Lane_Done_30 : Code := Code.l c_lane_Lane_Done_29
noncomputable def c_lane_Lane_Done_31 : Code := Code.l c_lane_Lane_Done_30
noncomputable def r_lane_Lane_Done_31 : Array Oper := Code.ops c_lane_Lane_Done_31
noncomputable def c_lane_Lane_Done_33 : Code := Code.r c_lane_Lane_Done_30
noncomputable def c_lane_Lane_Done_34 : Code := Code.r c_lane_Lane_Done_29
noncomputable def c_lane_Lane_Done_35 : Code := Code.r c_lane_Lane_Done_16
noncomputable def c_lane_Lane_Done_36 : Code := Code.l c_lane_Lane_Done_35
noncomputable def r_lane_Lane_Done_36 : Array Oper := Code.ops c_lane_Lane_Done_36
noncomputable def c_lane_Lane_Done_38 : Code := Code.r c_lane_Lane_Done_35
noncomputable def c_lane_Lane_Done_39 : Code := Code.l c_lane_Lane_Done_38
noncomputable def r_lane_Lane_Done_39 : Array Oper := Code.ops c_lane_Lane_Done_39
noncomputable def c_lane_Lane_Done_41 : Code := Code.r c_lane_Lane_Done_38

set_option maxRecDepth 100000 in
set_option maxHeartbeats 4000000 in
theorem S_lane_Lane_Done {l_ : Option Addr} {w : World} {R : Int → Int → World → Prop} (h : F_lane_Lane_Done l_ R w) : C_lane_Lane_Done l_ w R := by
  unfold F_lane_Lane_Done at h
  unfold C_lane_Lane_Done
  refine Calls.mono (calls_of_wpE (args := [Value.pointer l_]) (R := fun v w' => ∃ (r0 : Int) (r1 : Int), v = Value.tuple #[Value.int .i64 r0, Value.int .i64 r1] ∧ R r0 r1 w') Try.func31 (c := c_lane_Lane_Done_0) (by kernel_rfl) 29 (by kernel_rfl) (by kernel_rfl) [(0, Value.pointer l_)] (by kernel_rfl) ?_) ?_
  · refine wpE_seq (x := c_lane_Lane_Done_1) (y := c_lane_Lane_Done_3) (by kernel_rfl) ?_
    refine wpE_region (id := 0) (ops := r_lane_Lane_Done_1) (by kernel_rfl) ?_
    refine reg_run [.plain, .plain] 2 [(0, [], Value.pointer l_)] (by kernel_rfl) (by kernel_rfl) ?_
    refine reg_end [(0, Value.pointer l_)] (by kernel_rfl) (by kernel_rfl) ?_
    change WpE _ _ c_lane_Lane_Done_3 _ _ _
    refine wpE_seq (x := c_lane_Lane_Done_4) (y := c_lane_Lane_Done_13) (by kernel_rfl) ?_
    refine wpE_seq (x := c_lane_Lane_Done_5) (y := c_lane_Lane_Done_7) (by kernel_rfl) ?_
    refine wpE_region (id := 1) (ops := r_lane_Lane_Done_5) (by kernel_rfl) ?_
    refine reg_run [.plain] 1 [(0, [], Value.pointer l_), (6, [], Value.pointer l_)] (by kernel_rfl) (by kernel_rfl) ?_
    refine reg_enter (op := (Go.Op.call (Go.Call.mk (Go.Callee.value (Go.Operand.func 59)) #[(Go.Operand.tmp 6)] #[38]))) (ty := 4) (dst := some 7) 59 #[Value.pointer l_] (by kernel_rfl) (fun ww => by kernel_rfl) (Calls.mono h ?_)
    rintro _ w1 ⟨v7, rfl, h⟩
    refine ⟨_, rfl, ?_⟩
    refine reg_end [(0, Value.pointer l_), (7, Value.bool v7)] (by kernel_rfl) (by kernel_rfl) ?_
    change WpE _ _ c_lane_Lane_Done_7 _ _ _
    refine wpE_cond (o := (Operand.tmp 7)) (b := v7) (x := c_lane_Lane_Done_8) (y := c_lane_Lane_Done_12) (by kernel_rfl) (by kernel_rfl) (fun hb => ?_) (fun hb => ?_)
    · replace h := h.1 hb
      refine wpE_seq (x := c_lane_Lane_Done_9) (y := c_lane_Lane_Done_11) (by kernel_rfl) ?_
      refine wpE_region (id := 2) (ops := r_lane_Lane_Done_9) (by kernel_rfl) ?_
      refine reg_run [.plain, .plain] 2 [(2, [], Value.int .i64 0), (3, [], Value.int .i64 2)] (by kernel_rfl) (by kernel_rfl) ?_
      refine reg_end [(2, Value.int .i64 0), (3, Value.int .i64 2)] (by kernel_rfl) (by kernel_rfl) ?_
      change WpE _ _ c_lane_Lane_Done_11 _ _ _
      refine wpE_ret (by kernel_rfl) ?_
      repeat (first | refine seqQ_ret ?_ | refine blockQ_ret ?_ | refine loopQ_ret ?_ | refine cutQ_ret ?_)
      exact retT (rs := [(Go.ResultVar.tmp 2), (Go.ResultVar.tmp 3)]) (vs := [Value.int .i64 0, Value.int .i64 2]) (by kernel_rfl) (⟨by kernel_rfl, ⟨by kernel_rfl, trivial⟩⟩) (by kernel_rfl) ⟨0, 2, rfl, h⟩
    · replace h := h.2 hb
      refine wpE_skip (by kernel_rfl) ?_
      change WpE _ _ c_lane_Lane_Done_13 _ _ _
      refine wpE_seq (x := c_lane_Lane_Done_14) (y := c_lane_Lane_Done_16) (by kernel_rfl) ?_
      refine wpE_region (id := 3) (ops := r_lane_Lane_Done_14) (by kernel_rfl) ?_
      refine reg_run [.plain] 1 [(0, [], Value.pointer l_), (9, [], Value.pointer l_)] (by kernel_rfl) (by kernel_rfl) ?_
      refine reg_enter (op := (Go.Op.call (Go.Call.mk (Go.Callee.value (Go.Operand.func 60)) #[(Go.Operand.tmp 9)] #[38]))) (ty := 103) (dst := some 10) 60 #[Value.pointer l_] (by kernel_rfl) (fun ww => by kernel_rfl) (Calls.mono h ?_)
      rintro _ w2 ⟨b_, ok, rfl, h⟩
      refine ⟨_, rfl, ?_⟩
      refine reg_run [.plain, .plain, .plain, .plain, .plain] 7 [(0, [], Value.pointer l_), (4, [], Value.pointer b_), (5, [], Value.bool ok)] (by kernel_rfl) (by kernel_rfl) ?_
      refine reg_end [(0, Value.pointer l_), (4, Value.pointer b_), (5, Value.bool ok)] (by kernel_rfl) (by kernel_rfl) ?_
      change WpE _ _ c_lane_Lane_Done_16 _ _ _
      refine wpE_seq (x := c_lane_Lane_Done_17) (y := c_lane_Lane_Done_35) (by kernel_rfl) ?_
      refine wpE_block (id := 0) (x := c_lane_Lane_Done_18) (by kernel_rfl) ?_
      refine wpE_seq (x := c_lane_Lane_Done_19) (y := c_lane_Lane_Done_21) (by kernel_rfl) ?_
      refine wpE_region (id := 4) (ops := r_lane_Lane_Done_19) (by kernel_rfl) ?_
      refine reg_run [.plain, .plain, .plain] 3 [(0, [], Value.pointer l_), (4, [], Value.pointer b_), (13, [], Value.bool (!ok))] (by kernel_rfl) (by kernel_rfl) ?_
      refine reg_end [(0, Value.pointer l_), (4, Value.pointer b_), (13, Value.bool (!ok))] (by kernel_rfl) (by kernel_rfl) ?_
      change WpE _ _ c_lane_Lane_Done_21 _ _ _
      refine wpE_cond (o := (Operand.tmp 13)) (b := (!ok)) (x := c_lane_Lane_Done_22) (y := c_lane_Lane_Done_26) (by kernel_rfl) (by kernel_rfl) (fun hb => ?_) (fun hb => ?_)
      · replace h := h.1 hb
        refine wpE_seq (x := c_lane_Lane_Done_23) (y := c_lane_Lane_Done_25) (by kernel_rfl) ?_
        refine wpE_region (id := 5) (ops := r_lane_Lane_Done_23) (by kernel_rfl) ?_
        refine reg_run [.plain, .plain] 2 [(2, [], Value.int .i64 0), (3, [], Value.int .i64 9)] (by kernel_rfl) (by kernel_rfl) ?_
        refine reg_end [(2, Value.int .i64 0), (3, Value.int .i64 9)] (by kernel_rfl) (by kernel_rfl) ?_
        change WpE _ _ c_lane_Lane_Done_25 _ _ _
        refine wpE_ret (by kernel_rfl) ?_
        repeat (first | refine seqQ_ret ?_ | refine blockQ_ret ?_ | refine loopQ_ret ?_ | refine cutQ_ret ?_)
        exact retT (rs := [(Go.ResultVar.tmp 2), (Go.ResultVar.tmp 3)]) (vs := [Value.int .i64 0, Value.int .i64 9]) (by kernel_rfl) (⟨by kernel_rfl, ⟨by kernel_rfl, trivial⟩⟩) (by kernel_rfl) ⟨0, 9, rfl, h⟩
      · replace h := h.2 hb
        refine wpE_seq (x := c_lane_Lane_Done_27) (y := c_lane_Lane_Done_29) (by kernel_rfl) ?_
        refine wpE_region (id := 6) (ops := r_lane_Lane_Done_27) (by kernel_rfl) ?_
        refine reg_run [.plain] 1 [(0, [], Value.pointer l_), (4, [], Value.pointer b_), (17, [], Value.pointer l_)] (by kernel_rfl) (by kernel_rfl) ?_
        refine reg_enter (op := (Go.Op.call (Go.Call.mk (Go.Callee.value (Go.Operand.func 28)) #[(Go.Operand.tmp 17)] #[38]))) (ty := 4) (dst := some 18) 28 #[Value.pointer l_] (by kernel_rfl) (fun ww => by kernel_rfl) (Calls.mono h ?_)
        rintro _ w3 ⟨v18, rfl, h⟩
        refine ⟨_, rfl, ?_⟩
        refine reg_run [.plain, .plain] 4 [(0, [], Value.pointer l_), (4, [], Value.pointer b_), (16, [], Value.bool (!v18))] (by kernel_rfl) (by kernel_rfl) ?_
        refine reg_end [(0, Value.pointer l_), (4, Value.pointer b_), (16, Value.bool (!v18))] (by kernel_rfl) (by kernel_rfl) ?_
        change WpE _ _ c_lane_Lane_Done_29 _ _ _
        refine wpE_cond (o := (Operand.tmp 16)) (b := (!v18)) (x := c_lane_Lane_Done_30) (y := c_lane_Lane_Done_34) (by kernel_rfl) (by kernel_rfl) (fun hb => ?_) (fun hb => ?_)
        · replace h := h.1 hb
          refine wpE_seq (x := c_lane_Lane_Done_31) (y := c_lane_Lane_Done_33) (by kernel_rfl) ?_
          refine wpE_region (id := 7) (ops := r_lane_Lane_Done_31) (by kernel_rfl) ?_
          refine reg_run [.plain, .plain] 2 [(2, [], Value.int .i64 0), (3, [], Value.int .i64 10)] (by kernel_rfl) (by kernel_rfl) ?_
          refine reg_end [(2, Value.int .i64 0), (3, Value.int .i64 10)] (by kernel_rfl) (by kernel_rfl) ?_
          change WpE _ _ c_lane_Lane_Done_33 _ _ _
          refine wpE_ret (by kernel_rfl) ?_
          repeat (first | refine seqQ_ret ?_ | refine blockQ_ret ?_ | refine loopQ_ret ?_ | refine cutQ_ret ?_)
          exact retT (rs := [(Go.ResultVar.tmp 2), (Go.ResultVar.tmp 3)]) (vs := [Value.int .i64 0, Value.int .i64 10]) (by kernel_rfl) (⟨by kernel_rfl, ⟨by kernel_rfl, trivial⟩⟩) (by kernel_rfl) ⟨0, 10, rfl, h⟩
        · replace h := h.2 hb
          refine wpE_skip (by kernel_rfl) ?_
          change WpE _ _ c_lane_Lane_Done_35 _ _ _
          refine wpE_seq (x := c_lane_Lane_Done_36) (y := c_lane_Lane_Done_38) (by kernel_rfl) ?_
          refine wpE_region (id := 8) (ops := r_lane_Lane_Done_36) (by kernel_rfl) ?_
          refine reg_run [.plain, .plain, .plain] 3 [(4, [], Value.pointer b_), (20, [], Value.pointer l_), (22, [], Value.iface 96 (Value.agg #[]))] (by kernel_rfl) (by kernel_rfl) ?_
          obtain ⟨hp_1, h⟩ := h
          refine reg_conv [(4, [], Value.pointer b_), (20, [], Value.pointer (some ⟨(pblk l_), (poff l_), none⟩)), (22, [], Value.iface 96 (Value.agg #[]))] (congrArg (fun pp => ([(4, [], Value.pointer b_), (20, [], Value.pointer pp), (22, [], Value.iface 96 (Value.agg #[]))] : GEnv)) hp_1) ?_
          refine reg_run [.plain] 4 [(4, [], Value.pointer b_), (20, [], Value.pointer (some ⟨(pblk l_), (poff l_), none⟩)), (22, [], Value.iface 96 (Value.agg #[])), (23, [], Value.pointer (some ⟨(pblk l_), (poff l_), none⟩))] (by kernel_rfl) (by kernel_rfl) ?_
          refine reg_run [.plain] 5 [(4, [], Value.pointer b_), (22, [], Value.iface 96 (Value.agg #[])), (24, [], Value.pointer (some ⟨(pblk l_), (poff l_) + 5, none⟩))] (by kernel_rfl) (by kernel_rfl) ?_
          obtain ⟨hc, h⟩ := h
          refine reg_store (t := 45) (a := (Go.Operand.tmp 24)) (x := (Go.Operand.tmp 22)) (b := (pblk l_)) (o := ((poff l_) + 5)) (ty := 0) (dst := none) [Value.iface 96 (Value.agg #[])] (by kernel_rfl) (by kernel_rfl) (by kernel_rfl) (k := 1) (by kernel_rfl) (by kernel_rfl) (by kernel_rfl) hc (fun w4 hw => ?_)
          replace h := h w4 hw
          clear hw
          refine reg_end [(4, Value.pointer b_)] (by kernel_rfl) (by kernel_rfl) ?_
          change WpE _ _ c_lane_Lane_Done_38 _ _ _
          refine wpE_seq (x := c_lane_Lane_Done_39) (y := c_lane_Lane_Done_41) (by kernel_rfl) ?_
          refine wpE_region (id := 9) (ops := r_lane_Lane_Done_39) (by kernel_rfl) ?_
          refine reg_run [.plain] 1 [(25, [], Value.pointer b_)] (by kernel_rfl) (by kernel_rfl) ?_
          obtain ⟨hp_2, h⟩ := h
          refine reg_conv [(25, [], Value.pointer (some ⟨(pblk b_), (poff b_), none⟩))] (congrArg (fun pp => ([(25, [], Value.pointer pp)] : GEnv)) hp_2) ?_
          refine reg_run [.plain] 2 [(25, [], Value.pointer (some ⟨(pblk b_), (poff b_), none⟩)), (26, [], Value.pointer (some ⟨(pblk b_), (poff b_), none⟩))] (by kernel_rfl) (by kernel_rfl) ?_
          refine reg_run [.plain] 3 [(27, [], Value.pointer (some ⟨(pblk b_), (poff b_), none⟩))] (by kernel_rfl) (by kernel_rfl) ?_
          obtain ⟨v28, hc, h⟩ := h
          refine reg_load1 (t := 3) (a := (Go.Operand.tmp 27)) (b := (pblk b_)) (o := (poff b_)) (ty := 3) (dst := some 28) (by kernel_rfl) (by kernel_rfl) (by kernel_rfl) hc ?_
          refine reg_run [.plain, .plain] 6 [(2, [], Value.int .i64 v28), (3, [], Value.int .i64 0)] (by kernel_rfl) (by kernel_rfl) ?_
          refine reg_end [(2, Value.int .i64 v28), (3, Value.int .i64 0)] (by kernel_rfl) (by kernel_rfl) ?_
          change WpE _ _ c_lane_Lane_Done_41 _ _ _
          refine wpE_ret (by kernel_rfl) ?_
          repeat (first | refine seqQ_ret ?_ | refine blockQ_ret ?_ | refine loopQ_ret ?_ | refine cutQ_ret ?_)
          exact retT (rs := [(Go.ResultVar.tmp 2), (Go.ResultVar.tmp 3)]) (vs := [Value.int .i64 v28, Value.int .i64 0]) (by kernel_rfl) (⟨by kernel_rfl, ⟨by kernel_rfl, trivial⟩⟩) (by kernel_rfl) ⟨v28, 0, rfl, h⟩
  · rintro e w' ⟨v, rfl, r0, r1, rfl, h⟩; exact ⟨r0, r1, rfl, h⟩

/-! ### (*towpath/lane.Lane).gone (function 59) -/
noncomputable def c_lane_Lane_gone_0 : Code := (Try.f59.body).getD Code.skip
noncomputable def c_lane_Lane_gone_1 : Code := Code.l c_lane_Lane_gone_0
noncomputable def r_lane_Lane_gone_1 : Array Oper := Code.ops c_lane_Lane_gone_1
noncomputable def c_lane_Lane_gone_3 : Code := Code.r c_lane_Lane_gone_0
noncomputable def c_lane_Lane_gone_4 : Code := Code.l c_lane_Lane_gone_3
noncomputable def r_lane_Lane_gone_4 : Array Oper := Code.ops c_lane_Lane_gone_4
noncomputable def c_lane_Lane_gone_6 : Code := Code.r c_lane_Lane_gone_3

set_option maxRecDepth 100000 in
set_option maxHeartbeats 4000000 in
theorem S_lane_Lane_gone {l_ : Option Addr} {w : World} {R : Bool → World → Prop} (h : F_lane_Lane_gone l_ R w) : C_lane_Lane_gone l_ w R := by
  unfold F_lane_Lane_gone at h
  unfold C_lane_Lane_gone
  refine Calls.mono (calls_of_wpE (args := [Value.pointer l_]) (R := fun v w' => ∃ (r0 : Bool), v = Value.bool r0 ∧ R r0 w') Try.func59 (c := c_lane_Lane_gone_0) (by kernel_rfl) 12 (by kernel_rfl) (by kernel_rfl) [(0, Value.pointer l_)] (by kernel_rfl) ?_) ?_
  · refine wpE_seq (x := c_lane_Lane_gone_1) (y := c_lane_Lane_gone_3) (by kernel_rfl) ?_
    refine wpE_region (id := 0) (ops := r_lane_Lane_gone_1) (by kernel_rfl) ?_
    refine reg_run [.plain] 1 [(0, [], Value.pointer l_)] (by kernel_rfl) (by kernel_rfl) ?_
    refine reg_end [(0, Value.pointer l_)] (by kernel_rfl) (by kernel_rfl) ?_
    change WpE _ _ c_lane_Lane_gone_3 _ _ _
    refine wpE_seq (x := c_lane_Lane_gone_4) (y := c_lane_Lane_gone_6) (by kernel_rfl) ?_
    refine wpE_region (id := 1) (ops := r_lane_Lane_gone_4) (by kernel_rfl) ?_
    refine reg_run [.plain] 1 [(0, [], Value.pointer l_), (3, [], Value.pointer l_)] (by kernel_rfl) (by kernel_rfl) ?_
    refine reg_val (op := (Go.Op.binOp Go.BinOp.eql 38 (Go.Operand.tmp 3) (Go.Operand.const (Go.Value.pointer none)) 38)) (ty := 4) (dst := some 4) (Value.bool l_.isNone) (by kernel_rfl) (fun ww => run_ptr_eql_R (p := l_) (by kernel_rfl) (by kernel_rfl) (by kernel_rfl) ww) ?_
    refine reg_run [.plain, .plain] 4 [(5, [], Value.bool l_.isNone), (6, [(5, false)], Value.pointer l_)] (by kernel_rfl) (by kernel_rfl) ?_
    refine reg_split 5 l_.isNone (by kernel_rfl) (fun hb => ?_) (fun hb => ?_)
    · replace h := h.1 hb
      refine reg_run [] 4 [(5, [], Value.bool true), (6, [], undef)] (by kernel_rfl) (by kernel_rfl) ?_
      refine reg_run [.skip, .skip, .skip, .skip, .plain, .plain] 10 [(2, [], Value.bool true)] (by kernel_rfl) (by kernel_rfl) ?_
      refine reg_end [(2, Value.bool true)] (by kernel_rfl) (by kernel_rfl) ?_
      change WpE _ _ c_lane_Lane_gone_6 _ _ _
      refine wpE_ret (by kernel_rfl) ?_
      repeat (first | refine seqQ_ret ?_ | refine blockQ_ret ?_ | refine loopQ_ret ?_ | refine cutQ_ret ?_)
      exact retS (rs := [(Go.ResultVar.tmp 2)]) (v := Value.bool true) (by kernel_rfl) (⟨by kernel_rfl, trivial⟩) ⟨true, rfl, h⟩
    · replace h := h.2 hb
      refine reg_run [] 4 [(5, [], Value.bool false), (6, [], Value.pointer l_)] (by kernel_rfl) (by kernel_rfl) ?_
      refine reg_run [] 4 [(5, [], Value.bool false), (6, [], Value.pointer l_)] (by kernel_rfl) (by kernel_rfl) ?_
      obtain ⟨hp_0, h⟩ := h
      refine reg_conv [(5, [], Value.bool false), (6, [], Value.pointer (some ⟨(pblk l_), (poff l_), none⟩))] (congrArg (fun pp => ([(5, [], Value.bool false), (6, [], Value.pointer pp)] : GEnv)) hp_0) ?_
      refine reg_run [.sure] 5 [(5, [], Value.bool false), (6, [], Value.pointer (some ⟨(pblk l_), (poff l_), none⟩)), (7, [], Value.pointer (some ⟨(pblk l_), (poff l_), none⟩))] (by kernel_rfl) (by kernel_rfl) ?_
      refine reg_run [.sure] 6 [(5, [], Value.bool false), (8, [], Value.pointer (some ⟨(pblk l_), (poff l_) + 5, none⟩))] (by kernel_rfl) (by kernel_rfl) ?_
      obtain ⟨v9, hc, h⟩ := h
      refine reg_load1 (t := 45) (a := (Go.Operand.tmp 8)) (b := (pblk l_)) (o := ((poff l_) + 5)) (ty := 45) (dst := some 9) (by kernel_rfl) (by kernel_rfl) (by kernel_rfl) hc ?_
      refine reg_run [] 7 [(5, [], Value.bool false), (9, [], v9)] (by kernel_rfl) (by kernel_rfl) ?_
      obtain ⟨hi_, h⟩ := h
      refine reg_val (op := (Go.Op.binOp Go.BinOp.eql 45 (Go.Operand.tmp 9) (Go.Operand.const Go.Value.nilIface) 45)) (ty := 4) (dst := some 10) (Value.bool (isNilIf v9)) (by kernel_rfl) (fun ww => run_if_eql_R (p := v9) (by kernel_rfl) hi_ (by kernel_rfl) ww) ?_
      refine reg_run [.plain, .plain] 10 [(2, [], Value.bool (isNilIf v9))] (by kernel_rfl) (by kernel_rfl) ?_
      refine reg_end [(2, Value.bool (isNilIf v9))] (by kernel_rfl) (by kernel_rfl) ?_
      change WpE _ _ c_lane_Lane_gone_6 _ _ _
      refine wpE_ret (by kernel_rfl) ?_
      repeat (first | refine seqQ_ret ?_ | refine blockQ_ret ?_ | refine loopQ_ret ?_ | refine cutQ_ret ?_)
      exact retS (rs := [(Go.ResultVar.tmp 2)]) (v := Value.bool (isNilIf v9)) (by kernel_rfl) (⟨by kernel_rfl, trivial⟩) ⟨(isNilIf v9), rfl, h⟩
  · rintro e w' ⟨v, rfl, r0, rfl, h⟩; exact ⟨r0, rfl, h⟩

/-! ### (*towpath/lane.Lane).busy (function 60) -/
noncomputable def c_lane_Lane_busy_0 : Code := (Try.f60.body).getD Code.skip
noncomputable def c_lane_Lane_busy_1 : Code := Code.l c_lane_Lane_busy_0
noncomputable def r_lane_Lane_busy_1 : Array Oper := Code.ops c_lane_Lane_busy_1
noncomputable def c_lane_Lane_busy_3 : Code := Code.r c_lane_Lane_busy_0
noncomputable def c_lane_Lane_busy_4 : Code := Code.l c_lane_Lane_busy_3
noncomputable def c_lane_Lane_busy_5 : Code := Code.l c_lane_Lane_busy_4
noncomputable def r_lane_Lane_busy_5 : Array Oper := Code.ops c_lane_Lane_busy_5
noncomputable def c_lane_Lane_busy_7 : Code := Code.r c_lane_Lane_busy_4
noncomputable def c_lane_Lane_busy_8 : Code := Code.l c_lane_Lane_busy_7
noncomputable def c_lane_Lane_busy_9 : Code := Code.l c_lane_Lane_busy_8
noncomputable def r_lane_Lane_busy_9 : Array Oper := Code.ops c_lane_Lane_busy_9
noncomputable def c_lane_Lane_busy_11 : Code := Code.r c_lane_Lane_busy_8
noncomputable def c_lane_Lane_busy_12 : Code := Code.r c_lane_Lane_busy_7
noncomputable def c_lane_Lane_busy_13 : Code := Code.r c_lane_Lane_busy_3
noncomputable def c_lane_Lane_busy_14 : Code := Code.l c_lane_Lane_busy_13
noncomputable def r_lane_Lane_busy_14 : Array Oper := Code.ops c_lane_Lane_busy_14
noncomputable def c_lane_Lane_busy_16 : Code := Code.r c_lane_Lane_busy_13
noncomputable def c_lane_Lane_busy_17 : Code := Code.l c_lane_Lane_busy_16
noncomputable def r_lane_Lane_busy_17 : Array Oper := Code.ops c_lane_Lane_busy_17
noncomputable def c_lane_Lane_busy_19 : Code := Code.r c_lane_Lane_busy_16

set_option maxRecDepth 100000 in
set_option maxHeartbeats 4000000 in
theorem S_lane_Lane_busy {l_ : Option Addr} {w : World} {R : Option Addr → Bool → World → Prop} (h : F_lane_Lane_busy l_ R w) : C_lane_Lane_busy l_ w R := by
  unfold F_lane_Lane_busy at h
  unfold C_lane_Lane_busy
  refine Calls.mono (calls_of_wpE (args := [Value.pointer l_]) (R := fun v w' => ∃ (r0 : Option Addr) (r1 : Bool), v = Value.tuple #[Value.pointer r0, Value.bool r1] ∧ R r0 r1 w') Try.func60 (c := c_lane_Lane_busy_0) (by kernel_rfl) 18 (by kernel_rfl) (by kernel_rfl) [(0, Value.pointer l_)] (by kernel_rfl) ?_) ?_
  · refine wpE_seq (x := c_lane_Lane_busy_1) (y := c_lane_Lane_busy_3) (by kernel_rfl) ?_
    refine wpE_region (id := 0) (ops := r_lane_Lane_busy_1) (by kernel_rfl) ?_
    refine reg_run [.plain, .plain] 2 [(0, [], Value.pointer l_)] (by kernel_rfl) (by kernel_rfl) ?_
    refine reg_end [(0, Value.pointer l_)] (by kernel_rfl) (by kernel_rfl) ?_
    change WpE _ _ c_lane_Lane_busy_3 _ _ _
    refine wpE_seq (x := c_lane_Lane_busy_4) (y := c_lane_Lane_busy_13) (by kernel_rfl) ?_
    refine wpE_seq (x := c_lane_Lane_busy_5) (y := c_lane_Lane_busy_7) (by kernel_rfl) ?_
    refine wpE_region (id := 1) (ops := r_lane_Lane_busy_5) (by kernel_rfl) ?_
    refine reg_run [.plain] 1 [(0, [], Value.pointer l_), (6, [], Value.pointer l_)] (by kernel_rfl) (by kernel_rfl) ?_
    refine reg_enter (op := (Go.Op.call (Go.Call.mk (Go.Callee.value (Go.Operand.func 59)) #[(Go.Operand.tmp 6)] #[38]))) (ty := 4) (dst := some 7) 59 #[Value.pointer l_] (by kernel_rfl) (fun ww => by kernel_rfl) (Calls.mono h ?_)
    rintro _ w1 ⟨v7, rfl, h⟩
    refine ⟨_, rfl, ?_⟩
    refine reg_end [(0, Value.pointer l_), (7, Value.bool v7)] (by kernel_rfl) (by kernel_rfl) ?_
    change WpE _ _ c_lane_Lane_busy_7 _ _ _
    refine wpE_cond (o := (Operand.tmp 7)) (b := v7) (x := c_lane_Lane_busy_8) (y := c_lane_Lane_busy_12) (by kernel_rfl) (by kernel_rfl) (fun hb => ?_) (fun hb => ?_)
    · replace h := h.1 hb
      refine wpE_seq (x := c_lane_Lane_busy_9) (y := c_lane_Lane_busy_11) (by kernel_rfl) ?_
      refine wpE_region (id := 2) (ops := r_lane_Lane_busy_9) (by kernel_rfl) ?_
      refine reg_run [.plain, .plain] 2 [(2, [], Value.pointer none), (3, [], Value.bool false)] (by kernel_rfl) (by kernel_rfl) ?_
      refine reg_end [(2, Value.pointer none), (3, Value.bool false)] (by kernel_rfl) (by kernel_rfl) ?_
      change WpE _ _ c_lane_Lane_busy_11 _ _ _
      refine wpE_ret (by kernel_rfl) ?_
      repeat (first | refine seqQ_ret ?_ | refine blockQ_ret ?_ | refine loopQ_ret ?_ | refine cutQ_ret ?_)
      exact retT (rs := [(Go.ResultVar.tmp 2), (Go.ResultVar.tmp 3)]) (vs := [Value.pointer none, Value.bool false]) (by kernel_rfl) (⟨by kernel_rfl, ⟨by kernel_rfl, trivial⟩⟩) (by kernel_rfl) ⟨none, false, rfl, h⟩
    · replace h := h.2 hb
      refine wpE_skip (by kernel_rfl) ?_
      change WpE _ _ c_lane_Lane_busy_13 _ _ _
      refine wpE_seq_cut (x := c_lane_Lane_busy_14) (y := c_lane_Lane_busy_16) (by kernel_rfl) (fun l w => ∃ (b_ : Option Addr) (ok : Bool), l = [(4, Value.pointer b_), (5, Value.bool ok)] ∧ F_lane_Lane_busy_k0 R b_ ok w) ?_ ?_
      · refine wpE_region (id := 3) (ops := r_lane_Lane_busy_14) (by kernel_rfl) ?_
        refine reg_run [.plain] 1 [(9, [], Value.pointer l_)] (by kernel_rfl) (by kernel_rfl) ?_
        obtain ⟨hp_1, h⟩ := h
        refine reg_conv [(9, [], Value.pointer (some ⟨(pblk l_), (poff l_), none⟩))] (congrArg (fun pp => ([(9, [], Value.pointer pp)] : GEnv)) hp_1) ?_
        refine reg_run [.plain] 2 [(9, [], Value.pointer (some ⟨(pblk l_), (poff l_), none⟩)), (10, [], Value.pointer (some ⟨(pblk l_), (poff l_), none⟩))] (by kernel_rfl) (by kernel_rfl) ?_
        refine reg_run [.plain] 3 [(11, [], Value.pointer (some ⟨(pblk l_), (poff l_) + 5, none⟩))] (by kernel_rfl) (by kernel_rfl) ?_
        obtain ⟨v12, hc, h⟩ := h
        refine reg_load1 (t := 45) (a := (Go.Operand.tmp 11)) (b := (pblk l_)) (o := ((poff l_) + 5)) (ty := 45) (dst := some 12) (by kernel_rfl) (by kernel_rfl) (by kernel_rfl) hc ?_
        refine reg_run [] 4 [(12, [], v12)] (by kernel_rfl) (by kernel_rfl) ?_
        rcases h with ⟨b_1, hx_, h⟩ | ⟨hx_, h⟩
        · refine reg_conv [(12, [], Value.iface 102 (Value.pointer b_1))] (congrArg (fun pp => ([(12, [], pp)] : GEnv)) hx_) ?_
          refine reg_val (op := (Go.Op.typeAssert (Go.Operand.tmp 12) 45 102 true)) (ty := 103) (dst := some 13) (Value.tuple #[Value.pointer b_1, Value.bool true]) (by kernel_rfl) (fun ww => by kernel_rfl) ?_
          refine reg_run [.plain, .plain, .plain, .plain, .plain] 10 [(4, [], Value.pointer b_1), (5, [], Value.bool true)] (by kernel_rfl) (by kernel_rfl) ?_
          refine reg_end [(4, Value.pointer b_1), (5, Value.bool true)] (by kernel_rfl) (by kernel_rfl) ?_
          exact ⟨[(4, Value.pointer b_1), (5, Value.bool true)], Sub.mk (by kernel_rfl), b_1, true, rfl, h⟩
        · refine reg_val (op := (Go.Op.typeAssert (Go.Operand.tmp 12) 45 102 true)) (ty := 103) (dst := some 13) (Value.tuple #[Value.pointer none, Value.bool false]) (by kernel_rfl) (fun ww => run_assertNo (p := v12) (z := (Value.pointer none)) (by kernel_rfl) hx_ (by kernel_rfl) (fun w_ => by kernel_rfl) ww) ?_
          refine reg_run [.plain, .plain, .plain, .plain, .plain] 10 [(4, [], Value.pointer none), (5, [], Value.bool false)] (by kernel_rfl) (by kernel_rfl) ?_
          refine reg_end [(4, Value.pointer none), (5, Value.bool false)] (by kernel_rfl) (by kernel_rfl) ?_
          exact ⟨[(4, Value.pointer none), (5, Value.bool false)], Sub.mk (by kernel_rfl), none, false, rfl, h⟩
      · rintro _ w2 ⟨b_, ok, rfl, h⟩
        unfold F_lane_Lane_busy_k0 at h
        refine wpE_seq (x := c_lane_Lane_busy_17) (y := c_lane_Lane_busy_19) (by kernel_rfl) ?_
        refine wpE_region (id := 4) (ops := r_lane_Lane_busy_17) (by kernel_rfl) ?_
        refine reg_run [.plain, .plain, .plain, .plain] 4 [(2, [], Value.pointer b_), (3, [], Value.bool ok)] (by kernel_rfl) (by kernel_rfl) ?_
        refine reg_end [(2, Value.pointer b_), (3, Value.bool ok)] (by kernel_rfl) (by kernel_rfl) ?_
        change WpE _ _ c_lane_Lane_busy_19 _ _ _
        refine wpE_ret (by kernel_rfl) ?_
        repeat (first | refine seqQ_ret ?_ | refine blockQ_ret ?_ | refine loopQ_ret ?_ | refine cutQ_ret ?_)
        exact retT (rs := [(Go.ResultVar.tmp 2), (Go.ResultVar.tmp 3)]) (vs := [Value.pointer b_, Value.bool ok]) (by kernel_rfl) (⟨by kernel_rfl, ⟨by kernel_rfl, trivial⟩⟩) (by kernel_rfl) ⟨b_, ok, rfl, h⟩
  · rintro e w' ⟨v, rfl, r0, r1, rfl, h⟩; exact ⟨r0, r1, rfl, h⟩
end Go.Proofs.Ytfmkemmgakdddaa
