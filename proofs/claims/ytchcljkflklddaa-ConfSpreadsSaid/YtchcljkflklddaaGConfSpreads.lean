/- WRITTEN BY PROGRAM (dec.py): for each Go function the clean formula F, the call's contract C, and the proof S that F gives C. -/
import Derived.Test.YtchcljkflklddaaRows
import Derived.Test.YtchcljkflklddaaGF
namespace Go.Proofs.Ytchcljkflklddaa
open Go
set_option linter.unusedVariables false

/-! ### towpath/towpathlaw13.ConfSpreads (function 9) -/
noncomputable def c_towpathlaw13_ConfSpreads_0 : Code := (Try.f9.body).getD Code.skip
noncomputable def c_towpathlaw13_ConfSpreads_1 : Code := Code.l c_towpathlaw13_ConfSpreads_0
noncomputable def r_towpathlaw13_ConfSpreads_1 : Array Oper := Code.ops c_towpathlaw13_ConfSpreads_1
noncomputable def c_towpathlaw13_ConfSpreads_3 : Code := Code.r c_towpathlaw13_ConfSpreads_0
noncomputable def c_towpathlaw13_ConfSpreads_4 : Code := Code.l c_towpathlaw13_ConfSpreads_3
noncomputable def c_towpathlaw13_ConfSpreads_5 : Code := Code.l c_towpathlaw13_ConfSpreads_4
noncomputable def r_towpathlaw13_ConfSpreads_5 : Array Oper := Code.ops c_towpathlaw13_ConfSpreads_5
noncomputable def c_towpathlaw13_ConfSpreads_7 : Code := Code.r c_towpathlaw13_ConfSpreads_4
noncomputable def c_towpathlaw13_ConfSpreads_8 : Code := Code.l c_towpathlaw13_ConfSpreads_7
noncomputable def c_towpathlaw13_ConfSpreads_9 : Code := Code.l c_towpathlaw13_ConfSpreads_8
noncomputable def r_towpathlaw13_ConfSpreads_9 : Array Oper := Code.ops c_towpathlaw13_ConfSpreads_9
noncomputable def c_towpathlaw13_ConfSpreads_11 : Code := Code.r c_towpathlaw13_ConfSpreads_8
noncomputable def c_towpathlaw13_ConfSpreads_12 : Code := Code.r c_towpathlaw13_ConfSpreads_7
noncomputable def c_towpathlaw13_ConfSpreads_13 : Code := Code.r c_towpathlaw13_ConfSpreads_3
noncomputable def c_towpathlaw13_ConfSpreads_14 : Code := Code.l c_towpathlaw13_ConfSpreads_13
noncomputable def r_towpathlaw13_ConfSpreads_14 : Array Oper := Code.ops c_towpathlaw13_ConfSpreads_14
noncomputable def c_towpathlaw13_ConfSpreads_16 : Code := Code.r c_towpathlaw13_ConfSpreads_13
noncomputable def c_towpathlaw13_ConfSpreads_17 : Code := Code.l c_towpathlaw13_ConfSpreads_16
noncomputable def c_towpathlaw13_ConfSpreads_18 : Code := Code.l c_towpathlaw13_ConfSpreads_17
noncomputable def r_towpathlaw13_ConfSpreads_18 : Array Oper := Code.ops c_towpathlaw13_ConfSpreads_18
noncomputable def c_towpathlaw13_ConfSpreads_20 : Code := Code.r c_towpathlaw13_ConfSpreads_17
noncomputable def c_towpathlaw13_ConfSpreads_21 : Code := Code.l c_towpathlaw13_ConfSpreads_20
noncomputable def c_towpathlaw13_ConfSpreads_22 : Code := Code.l c_towpathlaw13_ConfSpreads_21
noncomputable def r_towpathlaw13_ConfSpreads_22 : Array Oper := Code.ops c_towpathlaw13_ConfSpreads_22
noncomputable def c_towpathlaw13_ConfSpreads_24 : Code := Code.r c_towpathlaw13_ConfSpreads_21
noncomputable def c_towpathlaw13_ConfSpreads_25 : Code := Code.r c_towpathlaw13_ConfSpreads_20
noncomputable def c_towpathlaw13_ConfSpreads_26 : Code := Code.r c_towpathlaw13_ConfSpreads_16
noncomputable def c_towpathlaw13_ConfSpreads_27 : Code := Code.l c_towpathlaw13_ConfSpreads_26
noncomputable def r_towpathlaw13_ConfSpreads_27 : Array Oper := Code.ops c_towpathlaw13_ConfSpreads_27
noncomputable def c_towpathlaw13_ConfSpreads_29 : Code := Code.r c_towpathlaw13_ConfSpreads_26
noncomputable def c_towpathlaw13_ConfSpreads_30 : Code := Code.l c_towpathlaw13_ConfSpreads_29
noncomputable def r_towpathlaw13_ConfSpreads_30 : Array Oper := Code.ops c_towpathlaw13_ConfSpreads_30
noncomputable def c_towpathlaw13_ConfSpreads_32 : Code := Code.r c_towpathlaw13_ConfSpreads_29
noncomputable def c_towpathlaw13_ConfSpreads_33 : Code := Code.l c_towpathlaw13_ConfSpreads_32
noncomputable def r_towpathlaw13_ConfSpreads_33 : Array Oper := Code.ops c_towpathlaw13_ConfSpreads_33
noncomputable def c_towpathlaw13_ConfSpreads_35 : Code := Code.r c_towpathlaw13_ConfSpreads_32
noncomputable def c_towpathlaw13_ConfSpreads_36 : Code := Code.l c_towpathlaw13_ConfSpreads_35
noncomputable def r_towpathlaw13_ConfSpreads_36 : Array Oper := Code.ops c_towpathlaw13_ConfSpreads_36
noncomputable def c_towpathlaw13_ConfSpreads_38 : Code := Code.r c_towpathlaw13_ConfSpreads_35
noncomputable def c_towpathlaw13_ConfSpreads_39 : Code := Code.l c_towpathlaw13_ConfSpreads_38
noncomputable def r_towpathlaw13_ConfSpreads_39 : Array Oper := Code.ops c_towpathlaw13_ConfSpreads_39
noncomputable def c_towpathlaw13_ConfSpreads_41 : Code := Code.r c_towpathlaw13_ConfSpreads_38

set_option maxRecDepth 100000 in
set_option maxHeartbeats 4000000 in
theorem S_towpathlaw13_ConfSpreads {c : T_api_Config} {d : T_api_Config} {key : ByteArray} {w : World} {R : Bool → World → Prop} (h : F_towpathlaw13_ConfSpreads c d key R w) : C_towpathlaw13_ConfSpreads c d key w R := by
  unfold F_towpathlaw13_ConfSpreads at h
  unfold C_towpathlaw13_ConfSpreads
  refine Calls.mono (calls_of_wpE (args := [Value.agg #[Value.int .i64 c.Lanes, Value.int .i64 c.Shards, Value.int .i64 c.Window, Value.int .i64 c.Queue], Value.agg #[Value.int .i64 d.Lanes, Value.int .i64 d.Shards, Value.int .i64 d.Window, Value.int .i64 d.Queue], Value.string key]) (R := fun v w' => ∃ (r0 : Bool), v = Value.bool r0 ∧ R r0 w') Try.func9 (c := c_towpathlaw13_ConfSpreads_0) (by kernel_rfl) 110 (by kernel_rfl) (by kernel_rfl) [(0, Value.agg #[Value.int .i64 c.Lanes, Value.int .i64 c.Shards, Value.int .i64 c.Window, Value.int .i64 c.Queue]), (1, Value.agg #[Value.int .i64 d.Lanes, Value.int .i64 d.Shards, Value.int .i64 d.Window, Value.int .i64 d.Queue]), (2, Value.string key)] (by kernel_rfl) ?_) ?_
  · refine wpE_seq (x := c_towpathlaw13_ConfSpreads_1) (y := c_towpathlaw13_ConfSpreads_3) (by kernel_rfl) ?_
    refine wpE_region (id := 0) (ops := r_towpathlaw13_ConfSpreads_1) (by kernel_rfl) ?_
    refine reg_run [] 0 [(0, [], Value.agg #[Value.int .i64 c.Lanes, Value.int .i64 c.Shards, Value.int .i64 c.Window, Value.int .i64 c.Queue]), (1, [], Value.agg #[Value.int .i64 d.Lanes, Value.int .i64 d.Shards, Value.int .i64 d.Window, Value.int .i64 d.Queue]), (2, [], Value.string key)] (by kernel_rfl) (by kernel_rfl) ?_
    refine reg_new (op := (Go.Op.box 23 (Go.Operand.tmp 0))) (ty := 0) (dst := some 3) (fun bb => Value.pointer (some ⟨bb, 0, none⟩)) (Obj.cells ([Value.int .i64 c.Lanes, Value.int .i64 c.Shards, Value.int .i64 c.Window, Value.int .i64 c.Queue]).toArray ty_api_Config (0, 0)) (by kernel_rfl) (by kernel_rfl) (fun b_ w1 hb hw => ?_)
    replace h := h b_ w1 hb hw
    clear hb hw
    refine reg_run [] 1 [(1, [], Value.agg #[Value.int .i64 d.Lanes, Value.int .i64 d.Shards, Value.int .i64 d.Window, Value.int .i64 d.Queue]), (2, [], Value.string key), (3, [], Value.pointer (some ⟨b_, 0, none⟩))] (by kernel_rfl) (by kernel_rfl) ?_
    refine reg_new (op := (Go.Op.box 23 (Go.Operand.tmp 1))) (ty := 0) (dst := some 4) (fun bb => Value.pointer (some ⟨bb, 0, none⟩)) (Obj.cells ([Value.int .i64 d.Lanes, Value.int .i64 d.Shards, Value.int .i64 d.Window, Value.int .i64 d.Queue]).toArray ty_api_Config (0, 0)) (by kernel_rfl) (by kernel_rfl) (fun b_1 w2 hb hw => ?_)
    replace h := h b_1 w2 hb hw
    clear hb hw
    refine reg_run [.plain] 3 [(2, [], Value.string key), (3, [], Value.pointer (some ⟨b_, 0, none⟩)), (4, [], Value.pointer (some ⟨b_1, 0, none⟩))] (by kernel_rfl) (by kernel_rfl) ?_
    refine reg_end [(2, Value.string key), (3, Value.pointer (some ⟨b_, 0, none⟩)), (4, Value.pointer (some ⟨b_1, 0, none⟩))] (by kernel_rfl) (by kernel_rfl) ?_
    change WpE _ _ c_towpathlaw13_ConfSpreads_3 _ _ _
    refine wpE_seq (x := c_towpathlaw13_ConfSpreads_4) (y := c_towpathlaw13_ConfSpreads_13) (by kernel_rfl) ?_
    refine wpE_seq_cut (x := c_towpathlaw13_ConfSpreads_5) (y := c_towpathlaw13_ConfSpreads_7) (by kernel_rfl) (fun l w => ∃ (t20 : Bool), l = [(2, Value.string key), (3, Value.pointer (some ⟨b_, 0, none⟩)), (4, Value.pointer (some ⟨b_1, 0, none⟩)), (20, Value.bool t20)] ∧ F_towpathlaw13_ConfSpreads_k0 key R b_ b_1 t20 w) ?_ ?_
    · refine wpE_region (id := 1) (ops := r_towpathlaw13_ConfSpreads_5) (by kernel_rfl) ?_
      refine reg_run [] 0 [(2, [], Value.string key), (3, [], Value.pointer (some ⟨b_, 0, none⟩)), (4, [], Value.pointer (some ⟨b_1, 0, none⟩))] (by kernel_rfl) (by kernel_rfl) ?_
      refine reg_enter (op := (Go.Op.call (Go.Call.mk (Go.Callee.value (Go.Operand.func 36)) #[] #[]))) (ty := 4) (dst := some 13) 36 #[] (by kernel_rfl) (fun ww => by kernel_rfl) (Calls.mono h ?_)
      rintro _ w14 ⟨v13, rfl, h⟩
      refine ⟨_, rfl, ?_⟩
      refine reg_run [.plain, .plain, .plain, .plain] 5 [(2, [], Value.string key), (3, [], Value.pointer (some ⟨b_, 0, none⟩)), (4, [], Value.pointer (some ⟨b_1, 0, none⟩)), (15, [], Value.bool (!v13)), (17, [(15, false)], Value.int .i64 ((key.size : Nat) : Int))] (by kernel_rfl) (by kernel_rfl) ?_
      refine reg_split 15 (!v13) (by kernel_rfl) (fun hb => ?_) (fun hb => ?_)
      · replace h := h.1 hb
        refine reg_run [] 5 [(2, [], Value.string key), (3, [], Value.pointer (some ⟨b_, 0, none⟩)), (4, [], Value.pointer (some ⟨b_1, 0, none⟩)), (15, [], Value.bool true), (17, [], undef)] (by kernel_rfl) (by kernel_rfl) ?_
        refine reg_run [.skip, .skip, .plain] 8 [(2, [], Value.string key), (3, [], Value.pointer (some ⟨b_, 0, none⟩)), (4, [], Value.pointer (some ⟨b_1, 0, none⟩)), (20, [], Value.bool true)] (by kernel_rfl) (by kernel_rfl) ?_
        refine reg_end [(2, Value.string key), (3, Value.pointer (some ⟨b_, 0, none⟩)), (4, Value.pointer (some ⟨b_1, 0, none⟩)), (20, Value.bool true)] (by kernel_rfl) (by kernel_rfl) ?_
        exact ⟨[(2, Value.string key), (3, Value.pointer (some ⟨b_, 0, none⟩)), (4, Value.pointer (some ⟨b_1, 0, none⟩)), (20, Value.bool true)], Sub.mk (by kernel_rfl), true, rfl, h⟩
      · replace h := h.2 hb
        refine reg_run [] 5 [(2, [], Value.string key), (3, [], Value.pointer (some ⟨b_, 0, none⟩)), (4, [], Value.pointer (some ⟨b_1, 0, none⟩)), (15, [], Value.bool false), (17, [], Value.int .i64 ((key.size : Nat) : Int))] (by kernel_rfl) (by kernel_rfl) ?_
        refine reg_run [] 5 [(2, [], Value.string key), (3, [], Value.pointer (some ⟨b_, 0, none⟩)), (4, [], Value.pointer (some ⟨b_1, 0, none⟩)), (15, [], Value.bool false), (17, [], Value.int .i64 ((key.size : Nat) : Int))] (by kernel_rfl) (by kernel_rfl) ?_
        refine reg_new (op := (Go.Op.buildSlice 49 1 #[(0, (Go.Operand.tmp 17))])) (ty := 49) (dst := some 18) (fun bb => Value.slice (some ⟨bb, 0, none⟩) 1 1) (Obj.cells ([Value.int .i64 ((key.size : Nat) : Int)]).toArray ty_int (0, 0)) (by kernel_rfl) (by kernel_rfl) (fun b_2 w15 hb hw => ?_)
        replace h := h b_2 w15 hb hw
        clear hb hw
        refine reg_run [] 6 [(2, [], Value.string key), (3, [], Value.pointer (some ⟨b_, 0, none⟩)), (4, [], Value.pointer (some ⟨b_1, 0, none⟩)), (15, [], Value.bool false), (18, [], Value.slice (some ⟨b_2, 0, none⟩) 1 1)] (by kernel_rfl) (by kernel_rfl) ?_
        refine reg_enter (op := (Go.Op.call (Go.Call.mk (Go.Callee.value (Go.Operand.func 12)) #[(Go.Operand.tmp 18)] #[49]))) (ty := 4) (dst := some 19) 12 #[Value.slice (some ⟨b_2, 0, none⟩) 1 1] (by kernel_rfl) (fun ww => by kernel_rfl) (Calls.mono h ?_)
        rintro _ w16 ⟨v19, rfl, h⟩
        refine ⟨_, rfl, ?_⟩
        refine reg_run [.plain] 8 [(2, [], Value.string key), (3, [], Value.pointer (some ⟨b_, 0, none⟩)), (4, [], Value.pointer (some ⟨b_1, 0, none⟩)), (20, [], Value.bool v19)] (by kernel_rfl) (by kernel_rfl) ?_
        refine reg_end [(2, Value.string key), (3, Value.pointer (some ⟨b_, 0, none⟩)), (4, Value.pointer (some ⟨b_1, 0, none⟩)), (20, Value.bool v19)] (by kernel_rfl) (by kernel_rfl) ?_
        exact ⟨[(2, Value.string key), (3, Value.pointer (some ⟨b_, 0, none⟩)), (4, Value.pointer (some ⟨b_1, 0, none⟩)), (20, Value.bool v19)], Sub.mk (by kernel_rfl), v19, rfl, h⟩
    · rintro _ w3 ⟨t20, rfl, h⟩
      unfold F_towpathlaw13_ConfSpreads_k0 at h
      refine wpE_cond (o := (Operand.tmp 20)) (b := t20) (x := c_towpathlaw13_ConfSpreads_8) (y := c_towpathlaw13_ConfSpreads_12) (by kernel_rfl) (by kernel_rfl) (fun hb => ?_) (fun hb => ?_)
      · replace h := h.1 hb
        refine wpE_seq (x := c_towpathlaw13_ConfSpreads_9) (y := c_towpathlaw13_ConfSpreads_11) (by kernel_rfl) ?_
        refine wpE_region (id := 2) (ops := r_towpathlaw13_ConfSpreads_9) (by kernel_rfl) ?_
        refine reg_run [] 0 [] (by kernel_rfl) (by kernel_rfl) ?_
        refine reg_enter (op := (Go.Op.call (Go.Call.mk (Go.Callee.value (Go.Operand.func 36)) #[] #[]))) (ty := 4) (dst := some 21) 36 #[] (by kernel_rfl) (fun ww => by kernel_rfl) (Calls.mono h ?_)
        rintro _ w4 ⟨v21, rfl, h⟩
        refine ⟨_, rfl, ?_⟩
        refine reg_run [.plain] 2 [(6, [], Value.bool v21)] (by kernel_rfl) (by kernel_rfl) ?_
        refine reg_end [(6, Value.bool v21)] (by kernel_rfl) (by kernel_rfl) ?_
        change WpE _ _ c_towpathlaw13_ConfSpreads_11 _ _ _
        refine wpE_ret (by kernel_rfl) ?_
        repeat (first | refine seqQ_ret ?_ | refine blockQ_ret ?_ | refine loopQ_ret ?_ | refine cutQ_ret ?_)
        exact retS (rs := [(Go.ResultVar.tmp 6)]) (v := Value.bool v21) (by kernel_rfl) (⟨by kernel_rfl, trivial⟩) ⟨v21, rfl, h⟩
      · replace h := h.2 hb
        refine wpE_skip (by kernel_rfl) ?_
        change WpE _ _ c_towpathlaw13_ConfSpreads_13 _ _ _
        refine wpE_seq (x := c_towpathlaw13_ConfSpreads_14) (y := c_towpathlaw13_ConfSpreads_16) (by kernel_rfl) ?_
        refine wpE_region (id := 3) (ops := r_towpathlaw13_ConfSpreads_14) (by kernel_rfl) ?_
        refine reg_run [] 0 [(2, [], Value.string key), (3, [], Value.pointer (some ⟨b_, 0, none⟩)), (4, [], Value.pointer (some ⟨b_1, 0, none⟩))] (by kernel_rfl) (by kernel_rfl) ?_
        obtain ⟨v23, hc, h⟩ := h
        refine reg_loadN (t := 23) (a := (Go.Operand.tmp 3)) (b := b_) (o := 0) (ty := 23) (dst := some 23) [Value.int .i64 v23.Lanes, Value.int .i64 v23.Shards, Value.int .i64 v23.Window, Value.int .i64 v23.Queue] (by kernel_rfl) (by kernel_rfl) (by kernel_rfl) (k := 4) (by kernel_rfl) (by kernel_rfl) hc ?_
        refine reg_run [.plain] 2 [(2, [], Value.string key), (3, [], Value.pointer (some ⟨b_, 0, none⟩)), (4, [], Value.pointer (some ⟨b_1, 0, none⟩)), (23, [], Value.agg #[Value.int .i64 v23.Lanes, Value.int .i64 v23.Shards, Value.int .i64 v23.Window, Value.int .i64 v23.Queue]), (24, [], Value.string key)] (by kernel_rfl) (by kernel_rfl) ?_
        refine reg_enter (op := (Go.Op.call (Go.Call.mk (Go.Callee.value (Go.Operand.func 13)) #[(Go.Operand.tmp 23), (Go.Operand.tmp 24)] #[23, 9]))) (ty := 26) (dst := some 25) 13 #[Value.agg #[Value.int .i64 v23.Lanes, Value.int .i64 v23.Shards, Value.int .i64 v23.Window, Value.int .i64 v23.Queue], Value.string key] (by kernel_rfl) (fun ww => by kernel_rfl) (Calls.mono h ?_)
        rintro _ w5 ⟨n_, e, rfl, h⟩
        refine ⟨_, rfl, ?_⟩
        refine reg_run [.plain, .plain, .plain, .plain, .plain] 8 [(2, [], Value.string key), (3, [], Value.pointer (some ⟨b_, 0, none⟩)), (4, [], Value.pointer (some ⟨b_1, 0, none⟩)), (7, [], Value.int .i64 n_), (8, [], Value.int .i64 e)] (by kernel_rfl) (by kernel_rfl) ?_
        refine reg_end [(2, Value.string key), (3, Value.pointer (some ⟨b_, 0, none⟩)), (4, Value.pointer (some ⟨b_1, 0, none⟩)), (7, Value.int .i64 n_), (8, Value.int .i64 e)] (by kernel_rfl) (by kernel_rfl) ?_
        change WpE _ _ c_towpathlaw13_ConfSpreads_16 _ _ _
        refine wpE_seq (x := c_towpathlaw13_ConfSpreads_17) (y := c_towpathlaw13_ConfSpreads_26) (by kernel_rfl) ?_
        refine wpE_seq (x := c_towpathlaw13_ConfSpreads_18) (y := c_towpathlaw13_ConfSpreads_20) (by kernel_rfl) ?_
        refine wpE_region (id := 4) (ops := r_towpathlaw13_ConfSpreads_18) (by kernel_rfl) ?_
        refine reg_run [.plain, .plain] 2 [(2, [], Value.string key), (3, [], Value.pointer (some ⟨b_, 0, none⟩)), (4, [], Value.pointer (some ⟨b_1, 0, none⟩)), (7, [], Value.int .i64 n_), (8, [], Value.int .i64 e), (29, [], Value.bool (e != 0))] (by kernel_rfl) (by kernel_rfl) ?_
        refine reg_end [(2, Value.string key), (3, Value.pointer (some ⟨b_, 0, none⟩)), (4, Value.pointer (some ⟨b_1, 0, none⟩)), (7, Value.int .i64 n_), (8, Value.int .i64 e), (29, Value.bool (e != 0))] (by kernel_rfl) (by kernel_rfl) ?_
        change WpE _ _ c_towpathlaw13_ConfSpreads_20 _ _ _
        refine wpE_cond (o := (Operand.tmp 29)) (b := (e != 0)) (x := c_towpathlaw13_ConfSpreads_21) (y := c_towpathlaw13_ConfSpreads_25) (by kernel_rfl) (by kernel_rfl) (fun hb => ?_) (fun hb => ?_)
        · replace h := h.1 hb
          refine wpE_seq (x := c_towpathlaw13_ConfSpreads_22) (y := c_towpathlaw13_ConfSpreads_24) (by kernel_rfl) ?_
          refine wpE_region (id := 5) (ops := r_towpathlaw13_ConfSpreads_22) (by kernel_rfl) ?_
          refine reg_run [.plain, .plain, .plain, .plain, .plain, .plain, .plain, .plain, .plain, .plain, .plain, .plain, .plain, .plain, .plain, .plain, .pick, .pick, .pick, .pick, .plain] 21 [(6, [], Value.bool ((n_ == 0) && ((e == 7) || ((e == 1) && ((((key.size : Nat) : Int) == 0) || (decide (((key.size : Nat) : Int) > 64)))))))] (by kernel_rfl) (by kernel_rfl) ?_
          refine reg_end [(6, Value.bool ((n_ == 0) && ((e == 7) || ((e == 1) && ((((key.size : Nat) : Int) == 0) || (decide (((key.size : Nat) : Int) > 64)))))))] (by kernel_rfl) (by kernel_rfl) ?_
          change WpE _ _ c_towpathlaw13_ConfSpreads_24 _ _ _
          refine wpE_ret (by kernel_rfl) ?_
          repeat (first | refine seqQ_ret ?_ | refine blockQ_ret ?_ | refine loopQ_ret ?_ | refine cutQ_ret ?_)
          exact retS (rs := [(Go.ResultVar.tmp 6)]) (v := Value.bool ((n_ == 0) && ((e == 7) || ((e == 1) && ((((key.size : Nat) : Int) == 0) || (decide (((key.size : Nat) : Int) > 64))))))) (by kernel_rfl) (⟨by kernel_rfl, trivial⟩) ⟨((n_ == 0) && ((e == 7) || ((e == 1) && ((((key.size : Nat) : Int) == 0) || (decide (((key.size : Nat) : Int) > 64)))))), rfl, h⟩
        · replace h := h.2 hb
          refine wpE_skip (by kernel_rfl) ?_
          change WpE _ _ c_towpathlaw13_ConfSpreads_26 _ _ _
          refine wpE_seq (x := c_towpathlaw13_ConfSpreads_27) (y := c_towpathlaw13_ConfSpreads_29) (by kernel_rfl) ?_
          refine wpE_region (id := 6) (ops := r_towpathlaw13_ConfSpreads_27) (by kernel_rfl) ?_
          refine reg_run [.plain] 1 [(2, [], Value.string key), (3, [], Value.pointer (some ⟨b_, 0, none⟩)), (4, [], Value.pointer (some ⟨b_1, 0, none⟩)), (7, [], Value.int .i64 n_), (50, [], Value.pointer (some ⟨b_, 1, none⟩))] (by kernel_rfl) (by kernel_rfl) ?_
          obtain ⟨v51, hc, h⟩ := h
          refine reg_load1 (t := 3) (a := (Go.Operand.tmp 50)) (b := b_) (o := 1) (ty := 3) (dst := some 51) (by kernel_rfl) (by kernel_rfl) (by kernel_rfl) hc ?_
          refine reg_run [.plain] 3 [(2, [], Value.string key), (3, [], Value.pointer (some ⟨b_, 0, none⟩)), (4, [], Value.pointer (some ⟨b_1, 0, none⟩)), (7, [], Value.int .i64 n_), (51, [], Value.int .i64 v51), (52, [], Value.pointer (some ⟨b_1, 1, none⟩))] (by kernel_rfl) (by kernel_rfl) ?_
          obtain ⟨hc, h⟩ := h
          refine reg_store (t := 3) (a := (Go.Operand.tmp 52)) (x := (Go.Operand.tmp 51)) (b := b_1) (o := 1) (ty := 0) (dst := none) [Value.int .i64 v51] (by kernel_rfl) (by kernel_rfl) (by kernel_rfl) (k := 1) (by kernel_rfl) (by kernel_rfl) (by kernel_rfl) hc (fun w6 hw => ?_)
          replace h := h w6 hw
          clear hw
          refine reg_end [(2, Value.string key), (3, Value.pointer (some ⟨b_, 0, none⟩)), (4, Value.pointer (some ⟨b_1, 0, none⟩)), (7, Value.int .i64 n_)] (by kernel_rfl) (by kernel_rfl) ?_
          change WpE _ _ c_towpathlaw13_ConfSpreads_29 _ _ _
          refine wpE_seq (x := c_towpathlaw13_ConfSpreads_30) (y := c_towpathlaw13_ConfSpreads_32) (by kernel_rfl) ?_
          refine wpE_region (id := 7) (ops := r_towpathlaw13_ConfSpreads_30) (by kernel_rfl) ?_
          refine reg_run [] 0 [(2, [], Value.string key), (3, [], Value.pointer (some ⟨b_, 0, none⟩)), (4, [], Value.pointer (some ⟨b_1, 0, none⟩)), (7, [], Value.int .i64 n_)] (by kernel_rfl) (by kernel_rfl) ?_
          obtain ⟨v54, hc, h⟩ := h
          refine reg_loadN (t := 23) (a := (Go.Operand.tmp 4)) (b := b_1) (o := 0) (ty := 23) (dst := some 54) [Value.int .i64 v54.Lanes, Value.int .i64 v54.Shards, Value.int .i64 v54.Window, Value.int .i64 v54.Queue] (by kernel_rfl) (by kernel_rfl) (by kernel_rfl) (k := 4) (by kernel_rfl) (by kernel_rfl) hc ?_
          refine reg_run [.plain] 2 [(2, [], Value.string key), (3, [], Value.pointer (some ⟨b_, 0, none⟩)), (4, [], Value.pointer (some ⟨b_1, 0, none⟩)), (7, [], Value.int .i64 n_), (54, [], Value.agg #[Value.int .i64 v54.Lanes, Value.int .i64 v54.Shards, Value.int .i64 v54.Window, Value.int .i64 v54.Queue]), (55, [], Value.string key)] (by kernel_rfl) (by kernel_rfl) ?_
          refine reg_enter (op := (Go.Op.call (Go.Call.mk (Go.Callee.value (Go.Operand.func 13)) #[(Go.Operand.tmp 54), (Go.Operand.tmp 55)] #[23, 9]))) (ty := 26) (dst := some 56) 13 #[Value.agg #[Value.int .i64 v54.Lanes, Value.int .i64 v54.Shards, Value.int .i64 v54.Window, Value.int .i64 v54.Queue], Value.string key] (by kernel_rfl) (fun ww => by kernel_rfl) (Calls.mono h ?_)
          rintro _ w7 ⟨m, f, rfl, h⟩
          refine ⟨_, rfl, ?_⟩
          refine reg_run [.plain, .plain, .plain, .plain, .plain] 8 [(2, [], Value.string key), (3, [], Value.pointer (some ⟨b_, 0, none⟩)), (4, [], Value.pointer (some ⟨b_1, 0, none⟩)), (7, [], Value.int .i64 n_), (9, [], Value.int .i64 m), (10, [], Value.int .i64 f)] (by kernel_rfl) (by kernel_rfl) ?_
          refine reg_end [(2, Value.string key), (3, Value.pointer (some ⟨b_, 0, none⟩)), (4, Value.pointer (some ⟨b_1, 0, none⟩)), (7, Value.int .i64 n_), (9, Value.int .i64 m), (10, Value.int .i64 f)] (by kernel_rfl) (by kernel_rfl) ?_
          change WpE _ _ c_towpathlaw13_ConfSpreads_32 _ _ _
          refine wpE_seq (x := c_towpathlaw13_ConfSpreads_33) (y := c_towpathlaw13_ConfSpreads_35) (by kernel_rfl) ?_
          refine wpE_region (id := 8) (ops := r_towpathlaw13_ConfSpreads_33) (by kernel_rfl) ?_
          refine reg_run [.plain] 1 [(2, [], Value.string key), (3, [], Value.pointer (some ⟨b_, 0, none⟩)), (4, [], Value.pointer (some ⟨b_1, 0, none⟩)), (7, [], Value.int .i64 n_), (9, [], Value.int .i64 m), (10, [], Value.int .i64 f), (59, [], Value.pointer (some ⟨b_1, 1, none⟩))] (by kernel_rfl) (by kernel_rfl) ?_
          obtain ⟨hc, h⟩ := h
          refine reg_store (t := 3) (a := (Go.Operand.tmp 59)) (x := (Go.Operand.const (Go.Value.int Go.IntKind.i64 1))) (b := b_1) (o := 1) (ty := 0) (dst := none) [Value.int .i64 1] (by kernel_rfl) (by kernel_rfl) (by kernel_rfl) (k := 1) (by kernel_rfl) (by kernel_rfl) (by kernel_rfl) hc (fun w8 hw => ?_)
          replace h := h w8 hw
          clear hw
          refine reg_end [(2, Value.string key), (3, Value.pointer (some ⟨b_, 0, none⟩)), (4, Value.pointer (some ⟨b_1, 0, none⟩)), (7, Value.int .i64 n_), (9, Value.int .i64 m), (10, Value.int .i64 f)] (by kernel_rfl) (by kernel_rfl) ?_
          change WpE _ _ c_towpathlaw13_ConfSpreads_35 _ _ _
          refine wpE_seq (x := c_towpathlaw13_ConfSpreads_36) (y := c_towpathlaw13_ConfSpreads_38) (by kernel_rfl) ?_
          refine wpE_region (id := 9) (ops := r_towpathlaw13_ConfSpreads_36) (by kernel_rfl) ?_
          refine reg_run [] 0 [(2, [], Value.string key), (3, [], Value.pointer (some ⟨b_, 0, none⟩)), (4, [], Value.pointer (some ⟨b_1, 0, none⟩)), (7, [], Value.int .i64 n_), (9, [], Value.int .i64 m), (10, [], Value.int .i64 f)] (by kernel_rfl) (by kernel_rfl) ?_
          obtain ⟨v61, hc, h⟩ := h
          refine reg_loadN (t := 23) (a := (Go.Operand.tmp 4)) (b := b_1) (o := 0) (ty := 23) (dst := some 61) [Value.int .i64 v61.Lanes, Value.int .i64 v61.Shards, Value.int .i64 v61.Window, Value.int .i64 v61.Queue] (by kernel_rfl) (by kernel_rfl) (by kernel_rfl) (k := 4) (by kernel_rfl) (by kernel_rfl) hc ?_
          refine reg_run [.plain] 2 [(2, [], Value.string key), (3, [], Value.pointer (some ⟨b_, 0, none⟩)), (7, [], Value.int .i64 n_), (9, [], Value.int .i64 m), (10, [], Value.int .i64 f), (61, [], Value.agg #[Value.int .i64 v61.Lanes, Value.int .i64 v61.Shards, Value.int .i64 v61.Window, Value.int .i64 v61.Queue]), (62, [], Value.string key)] (by kernel_rfl) (by kernel_rfl) ?_
          refine reg_enter (op := (Go.Op.call (Go.Call.mk (Go.Callee.value (Go.Operand.func 13)) #[(Go.Operand.tmp 61), (Go.Operand.tmp 62)] #[23, 9]))) (ty := 26) (dst := some 63) 13 #[Value.agg #[Value.int .i64 v61.Lanes, Value.int .i64 v61.Shards, Value.int .i64 v61.Window, Value.int .i64 v61.Queue], Value.string key] (by kernel_rfl) (fun ww => by kernel_rfl) (Calls.mono h ?_)
          rintro _ w9 ⟨o_, g, rfl, h⟩
          refine ⟨_, rfl, ?_⟩
          refine reg_run [.plain, .plain, .plain, .plain, .plain] 8 [(2, [], Value.string key), (3, [], Value.pointer (some ⟨b_, 0, none⟩)), (7, [], Value.int .i64 n_), (9, [], Value.int .i64 m), (10, [], Value.int .i64 f), (11, [], Value.int .i64 o_), (12, [], Value.int .i64 g)] (by kernel_rfl) (by kernel_rfl) ?_
          refine reg_end [(2, Value.string key), (3, Value.pointer (some ⟨b_, 0, none⟩)), (7, Value.int .i64 n_), (9, Value.int .i64 m), (10, Value.int .i64 f), (11, Value.int .i64 o_), (12, Value.int .i64 g)] (by kernel_rfl) (by kernel_rfl) ?_
          change WpE _ _ c_towpathlaw13_ConfSpreads_38 _ _ _
          refine wpE_seq (x := c_towpathlaw13_ConfSpreads_39) (y := c_towpathlaw13_ConfSpreads_41) (by kernel_rfl) ?_
          refine wpE_drawregion (id := 10) (ops := r_towpathlaw13_ConfSpreads_39) (by kernel_rfl) (by kernel_rfl) (by kernel_rfl) ?_
          refine qreg_run [.plain, .plain, .plain, .plain, .plain] 5 [(2, [], Value.string key), (3, [], Value.pointer (some ⟨b_, 0, none⟩)), (7, [], Value.int .i64 n_), (9, [], Value.int .i64 m), (10, [], Value.int .i64 f), (11, [], Value.int .i64 o_), (12, [], Value.int .i64 g), (68, [], Value.bool (decide (n_ ≥ 0))), (69, [(68, true)], Value.int .i64 n_), (70, [(68, true)], Value.pointer (some ⟨b_, 1, none⟩))] (by kernel_rfl) (by kernel_rfl) ?_
          refine qreg_split 68 (decide (n_ ≥ 0)) (by kernel_rfl) (fun hb => ?_) (fun hb => ?_)
          · replace h := h.1 hb
            refine qreg_run [] 5 [(2, [], Value.string key), (3, [], Value.pointer (some ⟨b_, 0, none⟩)), (7, [], Value.int .i64 n_), (9, [], Value.int .i64 m), (10, [], Value.int .i64 f), (11, [], Value.int .i64 o_), (12, [], Value.int .i64 g), (68, [], Value.bool true), (69, [], Value.int .i64 n_), (70, [], Value.pointer (some ⟨b_, 1, none⟩))] (by kernel_rfl) (by kernel_rfl) ?_
            refine qreg_run [] 5 [(2, [], Value.string key), (3, [], Value.pointer (some ⟨b_, 0, none⟩)), (7, [], Value.int .i64 n_), (9, [], Value.int .i64 m), (10, [], Value.int .i64 f), (11, [], Value.int .i64 o_), (12, [], Value.int .i64 g), (68, [], Value.bool true), (69, [], Value.int .i64 n_), (70, [], Value.pointer (some ⟨b_, 1, none⟩))] (by kernel_rfl) (by kernel_rfl) ?_
            obtain ⟨v71, hc, h⟩ := h
            refine qreg_load1 (t := 3) (a := (Go.Operand.tmp 70)) (b := b_) (o := 1) (ty := 3) (dst := some 71) (by kernel_rfl) (by kernel_rfl) (by kernel_rfl) hc ?_
            refine qreg_run [.sure, .plain, .plain, .plain, .plain] 11 [(3, [], Value.pointer (some ⟨b_, 0, none⟩)), (7, [], Value.int .i64 n_), (9, [], Value.int .i64 m), (10, [], Value.int .i64 f), (11, [], Value.int .i64 o_), (12, [], Value.int .i64 g), (74, [], Value.bool (decide (n_ < v71))), (75, [(74, true)], Value.int .i64 n_), (76, [(74, true)], Value.string key)] (by kernel_rfl) (by kernel_rfl) ?_
            refine qreg_split 74 (decide (n_ < v71)) (by kernel_rfl) (fun hb => ?_) (fun hb => ?_)
            · replace h := h.1 hb
              refine qreg_run [] 11 [(3, [], Value.pointer (some ⟨b_, 0, none⟩)), (7, [], Value.int .i64 n_), (9, [], Value.int .i64 m), (10, [], Value.int .i64 f), (11, [], Value.int .i64 o_), (12, [], Value.int .i64 g), (74, [], Value.bool true), (75, [], Value.int .i64 n_), (76, [], Value.string key)] (by kernel_rfl) (by kernel_rfl) ?_
              refine qreg_run [] 11 [(3, [], Value.pointer (some ⟨b_, 0, none⟩)), (7, [], Value.int .i64 n_), (9, [], Value.int .i64 m), (10, [], Value.int .i64 f), (11, [], Value.int .i64 o_), (12, [], Value.int .i64 g), (74, [], Value.bool true), (75, [], Value.int .i64 n_), (76, [], Value.string key)] (by kernel_rfl) (by kernel_rfl) ?_
              obtain ⟨v77, hq, h⟩ := h
              refine qreg_enter (op := (Go.Op.call (Go.Call.mk (Go.Callee.value (Go.Operand.func 37)) #[(Go.Operand.tmp 76)] #[9]))) (ty := 56) (dst := some 77) 37 #[Value.string key] (Value.int .u32 v77) (by kernel_rfl) (fun ww => by kernel_rfl) (fun w' he => Calls.mono (hq w' he) (by rintro _ w'' ⟨_, rfl, rfl, hE⟩; exact ⟨rfl, hE⟩)) ?_
              clear hq
              refine qreg_run [.sure] 13 [(7, [], Value.int .i64 n_), (9, [], Value.int .i64 m), (10, [], Value.int .i64 f), (11, [], Value.int .i64 o_), (12, [], Value.int .i64 g), (74, [], Value.bool true), (75, [], Value.int .i64 n_), (77, [], Value.int .u32 v77), (78, [], Value.pointer (some ⟨b_, 1, none⟩))] (by kernel_rfl) (by kernel_rfl) ?_
              obtain ⟨v79, hc, h⟩ := h
              refine qreg_load1 (t := 3) (a := (Go.Operand.tmp 78)) (b := b_) (o := 1) (ty := 3) (dst := some 79) (by kernel_rfl) (by kernel_rfl) (by kernel_rfl) hc ?_
              refine qreg_run [.sure] 15 [(7, [], Value.int .i64 n_), (9, [], Value.int .i64 m), (10, [], Value.int .i64 f), (11, [], Value.int .i64 o_), (12, [], Value.int .i64 g), (74, [], Value.bool true), (75, [], Value.int .i64 n_), (77, [], Value.int .u32 v77), (80, [], Value.int .u32 (IntKind.u32.wrap v79))] (by kernel_rfl) (by kernel_rfl) ?_
              obtain ⟨h0, h⟩ := h
              refine qreg_val (op := (Go.Op.binOp Go.BinOp.rem 56 (Go.Operand.tmp 77) (Go.Operand.tmp 80) 56)) (ty := 56) (dst := some 81) (Value.int .u32 (Int.tmod v77 (IntKind.u32.wrap v79))) (by kernel_rfl) (fun ww => run_rem (by kernel_rfl) (by kernel_rfl) h0 ww) ?_
              refine qreg_run [.sure, .sure, .plain, .plain, .plain, .plain, .plain, .plain, .plain, .plain, .plain, .plain, .plain, .pick, .pick, .pick, .plain, .plain, .plain, .plain, .plain, .plain, .plain, .plain, .plain, .pick, .pick, .pick, .plain] 45 [(6, [], Value.bool (((n_ == (IntKind.i64.wrap (Int.tmod v77 (IntKind.u32.wrap v79)))) && ((f == 7) || ((f == 0) && (m == n_)))) && ((g == 7) || ((g == 0) && (o_ == 0)))))] (by kernel_rfl) (by kernel_rfl) ?_
              refine qreg_end [(6, Value.bool (((n_ == (IntKind.i64.wrap (Int.tmod v77 (IntKind.u32.wrap v79)))) && ((f == 7) || ((f == 0) && (m == n_)))) && ((g == 7) || ((g == 0) && (o_ == 0)))))] (by kernel_rfl) (by kernel_rfl) (fun w11 hw => ?_)
              replace h := h w11 hw
              clear hw
              change WpE _ _ c_towpathlaw13_ConfSpreads_41 _ _ _
              refine wpE_ret (by kernel_rfl) ?_
              repeat (first | refine seqQ_ret ?_ | refine blockQ_ret ?_ | refine loopQ_ret ?_ | refine cutQ_ret ?_)
              exact retS (rs := [(Go.ResultVar.tmp 6)]) (v := Value.bool (((n_ == (IntKind.i64.wrap (Int.tmod v77 (IntKind.u32.wrap v79)))) && ((f == 7) || ((f == 0) && (m == n_)))) && ((g == 7) || ((g == 0) && (o_ == 0))))) (by kernel_rfl) (⟨by kernel_rfl, trivial⟩) ⟨(((n_ == (IntKind.i64.wrap (Int.tmod v77 (IntKind.u32.wrap v79)))) && ((f == 7) || ((f == 0) && (m == n_)))) && ((g == 7) || ((g == 0) && (o_ == 0)))), rfl, h⟩
            · replace h := h.2 hb
              refine qreg_run [] 11 [(3, [], Value.pointer (some ⟨b_, 0, none⟩)), (7, [], Value.int .i64 n_), (9, [], Value.int .i64 m), (10, [], Value.int .i64 f), (11, [], Value.int .i64 o_), (12, [], Value.int .i64 g), (74, [], Value.bool false), (75, [], undef), (76, [], undef)] (by kernel_rfl) (by kernel_rfl) ?_
              refine qreg_run [.skip, .skip, .skip, .skip, .skip, .skip, .skip, .plain, .plain, .skip, .skip, .skip, .skip, .skip, .skip, .skip, .skip, .skip, .skip, .skip, .plain, .plain, .skip, .skip, .skip, .skip, .skip, .skip, .skip, .skip, .skip, .skip, .plain, .plain] 45 [(6, [], Value.bool false)] (by kernel_rfl) (by kernel_rfl) ?_
              refine qreg_end [(6, Value.bool false)] (by kernel_rfl) (by kernel_rfl) (fun w12 hw => ?_)
              replace h := h w12 hw
              clear hw
              change WpE _ _ c_towpathlaw13_ConfSpreads_41 _ _ _
              refine wpE_ret (by kernel_rfl) ?_
              repeat (first | refine seqQ_ret ?_ | refine blockQ_ret ?_ | refine loopQ_ret ?_ | refine cutQ_ret ?_)
              exact retS (rs := [(Go.ResultVar.tmp 6)]) (v := Value.bool false) (by kernel_rfl) (⟨by kernel_rfl, trivial⟩) ⟨false, rfl, h⟩
          · replace h := h.2 hb
            refine qreg_run [] 5 [(2, [], Value.string key), (3, [], Value.pointer (some ⟨b_, 0, none⟩)), (7, [], Value.int .i64 n_), (9, [], Value.int .i64 m), (10, [], Value.int .i64 f), (11, [], Value.int .i64 o_), (12, [], Value.int .i64 g), (68, [], Value.bool false), (69, [], undef), (70, [], undef)] (by kernel_rfl) (by kernel_rfl) ?_
            refine qreg_run [.skip, .skip, .plain, .plain, .skip, .skip, .skip, .skip, .skip, .skip, .skip, .skip, .skip, .plain, .plain, .skip, .skip, .skip, .skip, .skip, .skip, .skip, .skip, .skip, .skip, .skip, .plain, .plain, .skip, .skip, .skip, .skip, .skip, .skip, .skip, .skip, .skip, .skip, .plain, .plain] 45 [(6, [], Value.bool false)] (by kernel_rfl) (by kernel_rfl) ?_
            refine qreg_end [(6, Value.bool false)] (by kernel_rfl) (by kernel_rfl) (fun w13 hw => ?_)
            replace h := h w13 hw
            clear hw
            change WpE _ _ c_towpathlaw13_ConfSpreads_41 _ _ _
            refine wpE_ret (by kernel_rfl) ?_
            repeat (first | refine seqQ_ret ?_ | refine blockQ_ret ?_ | refine loopQ_ret ?_ | refine cutQ_ret ?_)
            exact retS (rs := [(Go.ResultVar.tmp 6)]) (v := Value.bool false) (by kernel_rfl) (⟨by kernel_rfl, trivial⟩) ⟨false, rfl, h⟩
  · rintro e w' ⟨v, rfl, r0, rfl, h⟩; exact ⟨r0, rfl, h⟩
end Go.Proofs.Ytchcljkflklddaa
