/- WRITTEN BY PROGRAM (dec.py): for each Go function the clean formula F, the call's contract C, and the proof S that F gives C. -/
import Derived.Test.YtfmkemmgakdddaaRows
import Derived.Test.YtfmkemmgakdddaaGF
namespace Go.Proofs.Ytfmkemmgakdddaa
open Go
set_option linter.unusedVariables false

/-! ### towpath/towpathref14.New (function 18) -/
noncomputable def c_towpathref14_New_0 : Code := (Try.f18.body).getD Code.skip
noncomputable def c_towpathref14_New_1 : Code := Code.l c_towpathref14_New_0
noncomputable def r_towpathref14_New_1 : Array Oper := Code.ops c_towpathref14_New_1
noncomputable def c_towpathref14_New_3 : Code := Code.r c_towpathref14_New_0
noncomputable def c_towpathref14_New_4 : Code := Code.l c_towpathref14_New_3
noncomputable def c_towpathref14_New_5 : Code := Code.l c_towpathref14_New_4
noncomputable def r_towpathref14_New_5 : Array Oper := Code.ops c_towpathref14_New_5
noncomputable def c_towpathref14_New_7 : Code := Code.r c_towpathref14_New_4
noncomputable def c_towpathref14_New_8 : Code := Code.l c_towpathref14_New_7
noncomputable def c_towpathref14_New_9 : Code := Code.l c_towpathref14_New_8
noncomputable def r_towpathref14_New_9 : Array Oper := Code.ops c_towpathref14_New_9
noncomputable def c_towpathref14_New_11 : Code := Code.r c_towpathref14_New_8
noncomputable def c_towpathref14_New_12 : Code := Code.r c_towpathref14_New_7
noncomputable def c_towpathref14_New_13 : Code := Code.r c_towpathref14_New_3
noncomputable def c_towpathref14_New_14 : Code := Code.l c_towpathref14_New_13
noncomputable def c_towpathref14_New_15 : Code := Code.l c_towpathref14_New_14
noncomputable def r_towpathref14_New_15 : Array Oper := Code.ops c_towpathref14_New_15
noncomputable def c_towpathref14_New_17 : Code := Code.r c_towpathref14_New_14
noncomputable def c_towpathref14_New_18 : Code := Code.l c_towpathref14_New_17
noncomputable def c_towpathref14_New_19 : Code := Code.l c_towpathref14_New_18
noncomputable def r_towpathref14_New_19 : Array Oper := Code.ops c_towpathref14_New_19
noncomputable def c_towpathref14_New_21 : Code := Code.r c_towpathref14_New_18
noncomputable def c_towpathref14_New_22 : Code := Code.r c_towpathref14_New_17
noncomputable def c_towpathref14_New_23 : Code := Code.r c_towpathref14_New_13
noncomputable def c_towpathref14_New_24 : Code := Code.l c_towpathref14_New_23
noncomputable def r_towpathref14_New_24 : Array Oper := Code.ops c_towpathref14_New_24
noncomputable def c_towpathref14_New_26 : Code := Code.r c_towpathref14_New_23

set_option maxRecDepth 100000 in
set_option maxHeartbeats 4000000 in
theorem S_towpathref14_New {number : Int} {c : T_api_Config} {w : World} {R : Option Addr → Int → World → Prop} (h : F_towpathref14_New number c R w) : C_towpathref14_New number c w R := by
  unfold F_towpathref14_New at h
  unfold C_towpathref14_New
  refine Calls.mono (calls_of_wpE (args := [Value.int .i64 number, Value.agg #[Value.int .i64 c.Lanes, Value.int .i64 c.Shards, Value.int .i64 c.Window, Value.int .i64 c.Queue]]) (R := fun v w' => ∃ (r0 : Option Addr) (r1 : Int), v = Value.tuple #[Value.pointer r0, Value.int .i64 r1] ∧ R r0 r1 w') Try.func18 (c := c_towpathref14_New_0) (by kernel_rfl) 21 (by kernel_rfl) (by kernel_rfl) [(0, Value.int .i64 number), (1, Value.agg #[Value.int .i64 c.Lanes, Value.int .i64 c.Shards, Value.int .i64 c.Window, Value.int .i64 c.Queue])] (by kernel_rfl) ?_) ?_
  · refine wpE_seq (x := c_towpathref14_New_1) (y := c_towpathref14_New_3) (by kernel_rfl) ?_
    refine wpE_region (id := 0) (ops := r_towpathref14_New_1) (by kernel_rfl) ?_
    refine reg_run [] 0 [(0, [], Value.int .i64 number), (1, [], Value.agg #[Value.int .i64 c.Lanes, Value.int .i64 c.Shards, Value.int .i64 c.Window, Value.int .i64 c.Queue])] (by kernel_rfl) (by kernel_rfl) ?_
    refine reg_new (op := (Go.Op.box 35 (Go.Operand.tmp 1))) (ty := 0) (dst := some 3) (fun bb => Value.pointer (some ⟨bb, 0, none⟩)) (Obj.cells ([Value.int .i64 c.Lanes, Value.int .i64 c.Shards, Value.int .i64 c.Window, Value.int .i64 c.Queue]).toArray ty_api_Config (0, 0)) (by kernel_rfl) (by kernel_rfl) (fun b_ w1 hb hw => ?_)
    replace h := h b_ w1 hb hw
    clear hb hw
    refine reg_run [.plain, .plain] 3 [(0, [], Value.int .i64 number), (3, [], Value.pointer (some ⟨b_, 0, none⟩))] (by kernel_rfl) (by kernel_rfl) ?_
    refine reg_end [(0, Value.int .i64 number), (3, Value.pointer (some ⟨b_, 0, none⟩))] (by kernel_rfl) (by kernel_rfl) ?_
    change WpE _ _ c_towpathref14_New_3 _ _ _
    refine wpE_seq (x := c_towpathref14_New_4) (y := c_towpathref14_New_13) (by kernel_rfl) ?_
    refine wpE_seq (x := c_towpathref14_New_5) (y := c_towpathref14_New_7) (by kernel_rfl) ?_
    refine wpE_region (id := 1) (ops := r_towpathref14_New_5) (by kernel_rfl) ?_
    refine reg_run [] 0 [(0, [], Value.int .i64 number), (3, [], Value.pointer (some ⟨b_, 0, none⟩))] (by kernel_rfl) (by kernel_rfl) ?_
    obtain ⟨v6, hc, h⟩ := h
    refine reg_loadN (t := 35) (a := (Go.Operand.tmp 3)) (b := b_) (o := 0) (ty := 35) (dst := some 6) [Value.int .i64 v6.Lanes, Value.int .i64 v6.Shards, Value.int .i64 v6.Window, Value.int .i64 v6.Queue] (by kernel_rfl) (by kernel_rfl) (by kernel_rfl) (k := 4) (by kernel_rfl) (by kernel_rfl) hc ?_
    refine reg_run [] 1 [(0, [], Value.int .i64 number), (3, [], Value.pointer (some ⟨b_, 0, none⟩)), (6, [], Value.agg #[Value.int .i64 v6.Lanes, Value.int .i64 v6.Shards, Value.int .i64 v6.Window, Value.int .i64 v6.Queue])] (by kernel_rfl) (by kernel_rfl) ?_
    refine reg_enter (op := (Go.Op.call (Go.Call.mk (Go.Callee.value (Go.Operand.func 49)) #[(Go.Operand.tmp 6)] #[35]))) (ty := 28) (dst := some 7) 49 #[Value.agg #[Value.int .i64 v6.Lanes, Value.int .i64 v6.Shards, Value.int .i64 v6.Window, Value.int .i64 v6.Queue]] (by kernel_rfl) (fun ww => by kernel_rfl) (Calls.mono h ?_)
    rintro _ w2 ⟨v7, rfl, h⟩
    refine ⟨_, rfl, ?_⟩
    refine reg_run [.plain] 3 [(0, [], Value.int .i64 number), (3, [], Value.pointer (some ⟨b_, 0, none⟩)), (8, [], Value.bool (v7 != 0))] (by kernel_rfl) (by kernel_rfl) ?_
    refine reg_end [(0, Value.int .i64 number), (3, Value.pointer (some ⟨b_, 0, none⟩)), (8, Value.bool (v7 != 0))] (by kernel_rfl) (by kernel_rfl) ?_
    change WpE _ _ c_towpathref14_New_7 _ _ _
    refine wpE_cond (o := (Operand.tmp 8)) (b := (v7 != 0)) (x := c_towpathref14_New_8) (y := c_towpathref14_New_12) (by kernel_rfl) (by kernel_rfl) (fun hb => ?_) (fun hb => ?_)
    · replace h := h.1 hb
      refine wpE_seq (x := c_towpathref14_New_9) (y := c_towpathref14_New_11) (by kernel_rfl) ?_
      refine wpE_region (id := 2) (ops := r_towpathref14_New_9) (by kernel_rfl) ?_
      refine reg_run [.plain, .plain] 2 [(4, [], Value.pointer none), (5, [], Value.int .i64 7)] (by kernel_rfl) (by kernel_rfl) ?_
      refine reg_end [(4, Value.pointer none), (5, Value.int .i64 7)] (by kernel_rfl) (by kernel_rfl) ?_
      change WpE _ _ c_towpathref14_New_11 _ _ _
      refine wpE_ret (by kernel_rfl) ?_
      repeat (first | refine seqQ_ret ?_ | refine blockQ_ret ?_ | refine loopQ_ret ?_ | refine cutQ_ret ?_)
      exact retT (rs := [(Go.ResultVar.tmp 4), (Go.ResultVar.tmp 5)]) (vs := [Value.pointer none, Value.int .i64 7]) (by kernel_rfl) (⟨by kernel_rfl, ⟨by kernel_rfl, trivial⟩⟩) (by kernel_rfl) ⟨none, 7, rfl, h⟩
    · replace h := h.2 hb
      refine wpE_skip (by kernel_rfl) ?_
      change WpE _ _ c_towpathref14_New_13 _ _ _
      refine wpE_seq (x := c_towpathref14_New_14) (y := c_towpathref14_New_23) (by kernel_rfl) ?_
      refine wpE_seq_cut (x := c_towpathref14_New_15) (y := c_towpathref14_New_17) (by kernel_rfl) (fun l w => ∃ (t16 : Bool), l = [(0, Value.int .i64 number), (3, Value.pointer (some ⟨b_, 0, none⟩)), (16, Value.bool t16)] ∧ F_towpathref14_New_k0 number R b_ t16 w) ?_ ?_
      · refine wpE_region (id := 3) (ops := r_towpathref14_New_15) (by kernel_rfl) ?_
        refine reg_run [.plain, .plain, .plain, .plain, .plain] 5 [(0, [], Value.int .i64 number), (3, [], Value.pointer (some ⟨b_, 0, none⟩)), (11, [], Value.bool (decide (number < 1))), (12, [(11, false)], Value.int .i64 number), (13, [(11, false)], Value.pointer (some ⟨b_, 0, none⟩))] (by kernel_rfl) (by kernel_rfl) ?_
        refine reg_split 11 (decide (number < 1)) (by kernel_rfl) (fun hb => ?_) (fun hb => ?_)
        · replace h := h.1 hb
          refine reg_run [] 5 [(0, [], Value.int .i64 number), (3, [], Value.pointer (some ⟨b_, 0, none⟩)), (11, [], Value.bool true), (12, [], undef), (13, [], undef)] (by kernel_rfl) (by kernel_rfl) ?_
          refine reg_run [.skip, .skip, .plain] 8 [(0, [], Value.int .i64 number), (3, [], Value.pointer (some ⟨b_, 0, none⟩)), (16, [], Value.bool true)] (by kernel_rfl) (by kernel_rfl) ?_
          refine reg_end [(0, Value.int .i64 number), (3, Value.pointer (some ⟨b_, 0, none⟩)), (16, Value.bool true)] (by kernel_rfl) (by kernel_rfl) ?_
          exact ⟨[(0, Value.int .i64 number), (3, Value.pointer (some ⟨b_, 0, none⟩)), (16, Value.bool true)], Sub.mk (by kernel_rfl), true, rfl, h⟩
        · replace h := h.2 hb
          refine reg_run [] 5 [(0, [], Value.int .i64 number), (3, [], Value.pointer (some ⟨b_, 0, none⟩)), (11, [], Value.bool false), (12, [], Value.int .i64 number), (13, [], Value.pointer (some ⟨b_, 0, none⟩))] (by kernel_rfl) (by kernel_rfl) ?_
          refine reg_run [] 5 [(0, [], Value.int .i64 number), (3, [], Value.pointer (some ⟨b_, 0, none⟩)), (11, [], Value.bool false), (12, [], Value.int .i64 number), (13, [], Value.pointer (some ⟨b_, 0, none⟩))] (by kernel_rfl) (by kernel_rfl) ?_
          obtain ⟨v14, hc, h⟩ := h
          refine reg_load1 (t := 3) (a := (Go.Operand.tmp 13)) (b := b_) (o := 0) (ty := 3) (dst := some 14) (by kernel_rfl) (by kernel_rfl) (by kernel_rfl) hc ?_
          refine reg_run [.sure, .plain] 8 [(0, [], Value.int .i64 number), (3, [], Value.pointer (some ⟨b_, 0, none⟩)), (16, [], Value.bool (decide (number > v14)))] (by kernel_rfl) (by kernel_rfl) ?_
          refine reg_end [(0, Value.int .i64 number), (3, Value.pointer (some ⟨b_, 0, none⟩)), (16, Value.bool (decide (number > v14)))] (by kernel_rfl) (by kernel_rfl) ?_
          exact ⟨[(0, Value.int .i64 number), (3, Value.pointer (some ⟨b_, 0, none⟩)), (16, Value.bool (decide (number > v14)))], Sub.mk (by kernel_rfl), (decide (number > v14)), rfl, h⟩
      · rintro _ w3 ⟨t16, rfl, h⟩
        unfold F_towpathref14_New_k0 at h
        refine wpE_cond (o := (Operand.tmp 16)) (b := t16) (x := c_towpathref14_New_18) (y := c_towpathref14_New_22) (by kernel_rfl) (by kernel_rfl) (fun hb => ?_) (fun hb => ?_)
        · replace h := h.1 hb
          refine wpE_seq (x := c_towpathref14_New_19) (y := c_towpathref14_New_21) (by kernel_rfl) ?_
          refine wpE_region (id := 4) (ops := r_towpathref14_New_19) (by kernel_rfl) ?_
          refine reg_run [.plain, .plain] 2 [(4, [], Value.pointer none), (5, [], Value.int .i64 1)] (by kernel_rfl) (by kernel_rfl) ?_
          refine reg_end [(4, Value.pointer none), (5, Value.int .i64 1)] (by kernel_rfl) (by kernel_rfl) ?_
          change WpE _ _ c_towpathref14_New_21 _ _ _
          refine wpE_ret (by kernel_rfl) ?_
          repeat (first | refine seqQ_ret ?_ | refine blockQ_ret ?_ | refine loopQ_ret ?_ | refine cutQ_ret ?_)
          exact retT (rs := [(Go.ResultVar.tmp 4), (Go.ResultVar.tmp 5)]) (vs := [Value.pointer none, Value.int .i64 1]) (by kernel_rfl) (⟨by kernel_rfl, ⟨by kernel_rfl, trivial⟩⟩) (by kernel_rfl) ⟨none, 1, rfl, h⟩
        · replace h := h.2 hb
          refine wpE_skip (by kernel_rfl) ?_
          change WpE _ _ c_towpathref14_New_23 _ _ _
          refine wpE_seq (x := c_towpathref14_New_24) (y := c_towpathref14_New_26) (by kernel_rfl) ?_
          refine wpE_region (id := 5) (ops := r_towpathref14_New_24) (by kernel_rfl) ?_
          refine reg_run [.plain] 1 [(3, [], Value.pointer (some ⟨b_, 0, none⟩)), (17, [], Value.int .i64 number)] (by kernel_rfl) (by kernel_rfl) ?_
          obtain ⟨v18, hc, h⟩ := h
          refine reg_loadN (t := 35) (a := (Go.Operand.tmp 3)) (b := b_) (o := 0) (ty := 35) (dst := some 18) [Value.int .i64 v18.Lanes, Value.int .i64 v18.Shards, Value.int .i64 v18.Window, Value.int .i64 v18.Queue] (by kernel_rfl) (by kernel_rfl) (by kernel_rfl) (k := 4) (by kernel_rfl) (by kernel_rfl) hc ?_
          refine reg_run [.plain] 3 [(19, [], Value.agg #[Value.int .i64 number, Value.int .i64 v18.Lanes, Value.int .i64 v18.Shards, Value.int .i64 v18.Window, Value.int .i64 v18.Queue, Value.int .i64 0, Value.slice none 0 0, Value.int .i64 0, Value.int .i64 0])] (by kernel_rfl) (by kernel_rfl) ?_
          refine reg_new (op := (Go.Op.box 98 (Go.Operand.tmp 19))) (ty := 41) (dst := some 20) (fun bb => Value.pointer (some ⟨bb, 0, none⟩)) (Obj.cells ([Value.int .i64 number, Value.int .i64 v18.Lanes, Value.int .i64 v18.Shards, Value.int .i64 v18.Window, Value.int .i64 v18.Queue, Value.int .i64 0, Value.slice none 0 0, Value.int .i64 0, Value.int .i64 0]).toArray ty_towpathref14_Lane (0, 0)) (by kernel_rfl) (by kernel_rfl) (fun b_1 w4 hb hw => ?_)
          replace h := h b_1 w4 hb hw
          clear hb hw
          refine reg_run [.plain, .plain] 6 [(4, [], Value.pointer (some ⟨b_1, 0, none⟩)), (5, [], Value.int .i64 0)] (by kernel_rfl) (by kernel_rfl) ?_
          refine reg_end [(4, Value.pointer (some ⟨b_1, 0, none⟩)), (5, Value.int .i64 0)] (by kernel_rfl) (by kernel_rfl) ?_
          change WpE _ _ c_towpathref14_New_26 _ _ _
          refine wpE_ret (by kernel_rfl) ?_
          repeat (first | refine seqQ_ret ?_ | refine blockQ_ret ?_ | refine loopQ_ret ?_ | refine cutQ_ret ?_)
          exact retT (rs := [(Go.ResultVar.tmp 4), (Go.ResultVar.tmp 5)]) (vs := [Value.pointer (some ⟨b_1, 0, none⟩), Value.int .i64 0]) (by kernel_rfl) (⟨by kernel_rfl, ⟨by kernel_rfl, trivial⟩⟩) (by kernel_rfl) ⟨(some ⟨b_1, 0, none⟩), 0, rfl, h⟩
  · rintro e w' ⟨v, rfl, r0, r1, rfl, h⟩; exact ⟨r0, r1, rfl, h⟩

/-! ### (*towpath/towpathref14.Lane).Take (function 51) -/
noncomputable def c_towpathref14_Lane_Take_0 : Code := (Try.f51.body).getD Code.skip
noncomputable def c_towpathref14_Lane_Take_1 : Code := Code.l c_towpathref14_Lane_Take_0
noncomputable def r_towpathref14_Lane_Take_1 : Array Oper := Code.ops c_towpathref14_Lane_Take_1
noncomputable def c_towpathref14_Lane_Take_3 : Code := Code.r c_towpathref14_Lane_Take_0
noncomputable def c_towpathref14_Lane_Take_4 : Code := Code.l c_towpathref14_Lane_Take_3
noncomputable def c_towpathref14_Lane_Take_5 : Code := Code.l c_towpathref14_Lane_Take_4
noncomputable def r_towpathref14_Lane_Take_5 : Array Oper := Code.ops c_towpathref14_Lane_Take_5
noncomputable def c_towpathref14_Lane_Take_7 : Code := Code.r c_towpathref14_Lane_Take_4
noncomputable def c_towpathref14_Lane_Take_8 : Code := Code.l c_towpathref14_Lane_Take_7
noncomputable def c_towpathref14_Lane_Take_9 : Code := Code.l c_towpathref14_Lane_Take_8
noncomputable def r_towpathref14_Lane_Take_9 : Array Oper := Code.ops c_towpathref14_Lane_Take_9
noncomputable def c_towpathref14_Lane_Take_11 : Code := Code.r c_towpathref14_Lane_Take_8
noncomputable def c_towpathref14_Lane_Take_12 : Code := Code.r c_towpathref14_Lane_Take_7
noncomputable def c_towpathref14_Lane_Take_13 : Code := Code.r c_towpathref14_Lane_Take_3
noncomputable def c_towpathref14_Lane_Take_14 : Code := Code.l c_towpathref14_Lane_Take_13
noncomputable def c_towpathref14_Lane_Take_15 : Code := Code.l c_towpathref14_Lane_Take_14
noncomputable def r_towpathref14_Lane_Take_15 : Array Oper := Code.ops c_towpathref14_Lane_Take_15
noncomputable def c_towpathref14_Lane_Take_17 : Code := Code.r c_towpathref14_Lane_Take_14
noncomputable def c_towpathref14_Lane_Take_18 : Code := Code.l c_towpathref14_Lane_Take_17
noncomputable def c_towpathref14_Lane_Take_19 : Code := Code.l c_towpathref14_Lane_Take_18
noncomputable def r_towpathref14_Lane_Take_19 : Array Oper := Code.ops c_towpathref14_Lane_Take_19
noncomputable def c_towpathref14_Lane_Take_21 : Code := Code.r c_towpathref14_Lane_Take_18
noncomputable def c_towpathref14_Lane_Take_22 : Code := Code.r c_towpathref14_Lane_Take_17
noncomputable def c_towpathref14_Lane_Take_23 : Code := Code.r c_towpathref14_Lane_Take_13
noncomputable def c_towpathref14_Lane_Take_24 : Code := Code.l c_towpathref14_Lane_Take_23
noncomputable def c_towpathref14_Lane_Take_25 : Code := Code.l c_towpathref14_Lane_Take_24
noncomputable def r_towpathref14_Lane_Take_25 : Array Oper := Code.ops c_towpathref14_Lane_Take_25
noncomputable def c_towpathref14_Lane_Take_27 : Code := Code.r c_towpathref14_Lane_Take_24
noncomputable def c_towpathref14_Lane_Take_28 : Code := Code.l c_towpathref14_Lane_Take_27
noncomputable def c_towpathref14_Lane_Take_29 : Code := Code.l c_towpathref14_Lane_Take_28
noncomputable def r_towpathref14_Lane_Take_29 : Array Oper := Code.ops c_towpathref14_Lane_Take_29
noncomputable def c_towpathref14_Lane_Take_31 : Code := Code.r c_towpathref14_Lane_Take_28
noncomputable def c_towpathref14_Lane_Take_32 : Code := Code.r c_towpathref14_Lane_Take_27
noncomputable def c_towpathref14_Lane_Take_33 : Code := Code.r c_towpathref14_Lane_Take_23
noncomputable def c_towpathref14_Lane_Take_34 : Code := Code.l c_towpathref14_Lane_Take_33
noncomputable def r_towpathref14_Lane_Take_34 : Array Oper := Code.ops c_towpathref14_Lane_Take_34
noncomputable def c_towpathref14_Lane_Take_36 : Code := Code.r c_towpathref14_Lane_Take_33
noncomputable def c_towpathref14_Lane_Take_37 : Code := Code.l c_towpathref14_Lane_Take_36
noncomputable def r_towpathref14_Lane_Take_37 : Array Oper := Code.ops c_towpathref14_Lane_Take_37
noncomputable def c_towpathref14_Lane_Take_39 : Code := Code.r c_towpathref14_Lane_Take_36
noncomputable def c_towpathref14_Lane_Take_40 : Code := Code.l c_towpathref14_Lane_Take_39
noncomputable def r_towpathref14_Lane_Take_40 : Array Oper := Code.ops c_towpathref14_Lane_Take_40
noncomputable def c_towpathref14_Lane_Take_42 : Code := Code.r c_towpathref14_Lane_Take_39
noncomputable def c_towpathref14_Lane_Take_43 : Code := Code.l c_towpathref14_Lane_Take_42
noncomputable def r_towpathref14_Lane_Take_43 : Array Oper := Code.ops c_towpathref14_Lane_Take_43
noncomputable def c_towpathref14_Lane_Take_45 : Code := Code.r c_towpathref14_Lane_Take_42
noncomputable def c_towpathref14_Lane_Take_46 : Code := Code.l c_towpathref14_Lane_Take_45
noncomputable def r_towpathref14_Lane_Take_46 : Array Oper := Code.ops c_towpathref14_Lane_Take_46
noncomputable def c_towpathref14_Lane_Take_48 : Code := Code.r c_towpathref14_Lane_Take_45

set_option maxRecDepth 100000 in
set_option maxHeartbeats 4000000 in
theorem S_towpathref14_Lane_Take {l_ : Option Addr} {t_ : T_api_Txn} {w : World} {R : Int → World → Prop} (h : F_towpathref14_Lane_Take l_ t_ R w) : C_towpathref14_Lane_Take l_ t_ w R := by
  unfold F_towpathref14_Lane_Take at h
  unfold C_towpathref14_Lane_Take
  refine Calls.mono (calls_of_wpE (args := [Value.pointer l_, Value.agg #[Value.int .i64 t_.Number, Value.slice t_.Writes.ptr t_.Writes.len t_.Writes.cap]]) (R := fun v w' => ∃ (r0 : Int), v = Value.int .i64 r0 ∧ R r0 w') Try.func51 (c := c_towpathref14_Lane_Take_0) (by kernel_rfl) 31 (by kernel_rfl) (by kernel_rfl) [(0, Value.pointer l_), (1, Value.agg #[Value.int .i64 t_.Number, Value.slice t_.Writes.ptr t_.Writes.len t_.Writes.cap])] (by kernel_rfl) ?_) ?_
  · refine wpE_seq (x := c_towpathref14_Lane_Take_1) (y := c_towpathref14_Lane_Take_3) (by kernel_rfl) ?_
    refine wpE_region (id := 0) (ops := r_towpathref14_Lane_Take_1) (by kernel_rfl) ?_
    refine reg_run [] 0 [(0, [], Value.pointer l_), (1, [], Value.agg #[Value.int .i64 t_.Number, Value.slice t_.Writes.ptr t_.Writes.len t_.Writes.cap])] (by kernel_rfl) (by kernel_rfl) ?_
    refine reg_new (op := (Go.Op.box 27 (Go.Operand.tmp 1))) (ty := 0) (dst := some 3) (fun bb => Value.pointer (some ⟨bb, 0, none⟩)) (Obj.cells ([Value.int .i64 t_.Number, Value.slice t_.Writes.ptr t_.Writes.len t_.Writes.cap]).toArray ty_api_Txn (0, 0)) (by kernel_rfl) (by kernel_rfl) (fun b_ w1 hb hw => ?_)
    replace h := h b_ w1 hb hw
    clear hb hw
    refine reg_run [.plain] 2 [(0, [], Value.pointer l_), (3, [], Value.pointer (some ⟨b_, 0, none⟩))] (by kernel_rfl) (by kernel_rfl) ?_
    refine reg_end [(0, Value.pointer l_), (3, Value.pointer (some ⟨b_, 0, none⟩))] (by kernel_rfl) (by kernel_rfl) ?_
    change WpE _ _ c_towpathref14_Lane_Take_3 _ _ _
    refine wpE_seq (x := c_towpathref14_Lane_Take_4) (y := c_towpathref14_Lane_Take_13) (by kernel_rfl) ?_
    refine wpE_seq (x := c_towpathref14_Lane_Take_5) (y := c_towpathref14_Lane_Take_7) (by kernel_rfl) ?_
    refine wpE_region (id := 1) (ops := r_towpathref14_Lane_Take_5) (by kernel_rfl) ?_
    refine reg_run [.plain] 1 [(0, [], Value.pointer l_), (3, [], Value.pointer (some ⟨b_, 0, none⟩)), (5, [], Value.pointer l_)] (by kernel_rfl) (by kernel_rfl) ?_
    refine reg_val (op := (Go.Op.binOp Go.BinOp.eql 41 (Go.Operand.tmp 5) (Go.Operand.const (Go.Value.pointer none)) 41)) (ty := 4) (dst := some 6) (Value.bool l_.isNone) (by kernel_rfl) (fun ww => run_ptr_eql_R (p := l_) (by kernel_rfl) (by kernel_rfl) (by kernel_rfl) ww) ?_
    refine reg_end [(0, Value.pointer l_), (3, Value.pointer (some ⟨b_, 0, none⟩)), (6, Value.bool l_.isNone)] (by kernel_rfl) (by kernel_rfl) ?_
    change WpE _ _ c_towpathref14_Lane_Take_7 _ _ _
    refine wpE_cond (o := (Operand.tmp 6)) (b := l_.isNone) (x := c_towpathref14_Lane_Take_8) (y := c_towpathref14_Lane_Take_12) (by kernel_rfl) (by kernel_rfl) (fun hb => ?_) (fun hb => ?_)
    · replace h := h.1 hb
      refine wpE_seq (x := c_towpathref14_Lane_Take_9) (y := c_towpathref14_Lane_Take_11) (by kernel_rfl) ?_
      refine wpE_region (id := 2) (ops := r_towpathref14_Lane_Take_9) (by kernel_rfl) ?_
      refine reg_run [.plain] 1 [(4, [], Value.int .i64 2)] (by kernel_rfl) (by kernel_rfl) ?_
      refine reg_end [(4, Value.int .i64 2)] (by kernel_rfl) (by kernel_rfl) ?_
      change WpE _ _ c_towpathref14_Lane_Take_11 _ _ _
      refine wpE_ret (by kernel_rfl) ?_
      repeat (first | refine seqQ_ret ?_ | refine blockQ_ret ?_ | refine loopQ_ret ?_ | refine cutQ_ret ?_)
      exact retS (rs := [(Go.ResultVar.tmp 4)]) (v := Value.int .i64 2) (by kernel_rfl) (⟨by kernel_rfl, trivial⟩) ⟨2, rfl, h⟩
    · replace h := h.2 hb
      refine wpE_skip (by kernel_rfl) ?_
      change WpE _ _ c_towpathref14_Lane_Take_13 _ _ _
      refine wpE_seq (x := c_towpathref14_Lane_Take_14) (y := c_towpathref14_Lane_Take_23) (by kernel_rfl) ?_
      refine wpE_seq (x := c_towpathref14_Lane_Take_15) (y := c_towpathref14_Lane_Take_17) (by kernel_rfl) ?_
      refine wpE_region (id := 3) (ops := r_towpathref14_Lane_Take_15) (by kernel_rfl) ?_
      refine reg_run [.plain] 1 [(0, [], Value.pointer l_), (3, [], Value.pointer (some ⟨b_, 0, none⟩)), (7, [], Value.pointer l_)] (by kernel_rfl) (by kernel_rfl) ?_
      obtain ⟨hp_3, h⟩ := h
      refine reg_conv [(0, [], Value.pointer l_), (3, [], Value.pointer (some ⟨b_, 0, none⟩)), (7, [], Value.pointer (some ⟨(pblk l_), (poff l_), none⟩))] (congrArg (fun pp => ([(0, [], Value.pointer l_), (3, [], Value.pointer (some ⟨b_, 0, none⟩)), (7, [], Value.pointer pp)] : GEnv)) hp_3) ?_
      refine reg_run [.plain] 2 [(0, [], Value.pointer l_), (3, [], Value.pointer (some ⟨b_, 0, none⟩)), (7, [], Value.pointer (some ⟨(pblk l_), (poff l_), none⟩)), (8, [], Value.pointer (some ⟨(pblk l_), (poff l_), none⟩))] (by kernel_rfl) (by kernel_rfl) ?_
      refine reg_run [.plain] 3 [(0, [], Value.pointer l_), (3, [], Value.pointer (some ⟨b_, 0, none⟩)), (9, [], Value.pointer (some ⟨(pblk l_), (poff l_) + 5, none⟩))] (by kernel_rfl) (by kernel_rfl) ?_
      obtain ⟨v10, hc, h⟩ := h
      refine reg_load1 (t := 3) (a := (Go.Operand.tmp 9)) (b := (pblk l_)) (o := ((poff l_) + 5)) (ty := 3) (dst := some 10) (by kernel_rfl) (by kernel_rfl) (by kernel_rfl) hc ?_
      refine reg_run [.plain] 5 [(0, [], Value.pointer l_), (3, [], Value.pointer (some ⟨b_, 0, none⟩)), (11, [], Value.bool (v10 != 0))] (by kernel_rfl) (by kernel_rfl) ?_
      refine reg_end [(0, Value.pointer l_), (3, Value.pointer (some ⟨b_, 0, none⟩)), (11, Value.bool (v10 != 0))] (by kernel_rfl) (by kernel_rfl) ?_
      change WpE _ _ c_towpathref14_Lane_Take_17 _ _ _
      refine wpE_cond (o := (Operand.tmp 11)) (b := (v10 != 0)) (x := c_towpathref14_Lane_Take_18) (y := c_towpathref14_Lane_Take_22) (by kernel_rfl) (by kernel_rfl) (fun hb => ?_) (fun hb => ?_)
      · replace h := h.1 hb
        refine wpE_seq (x := c_towpathref14_Lane_Take_19) (y := c_towpathref14_Lane_Take_21) (by kernel_rfl) ?_
        refine wpE_region (id := 4) (ops := r_towpathref14_Lane_Take_19) (by kernel_rfl) ?_
        refine reg_run [.plain] 1 [(4, [], Value.int .i64 10)] (by kernel_rfl) (by kernel_rfl) ?_
        refine reg_end [(4, Value.int .i64 10)] (by kernel_rfl) (by kernel_rfl) ?_
        change WpE _ _ c_towpathref14_Lane_Take_21 _ _ _
        refine wpE_ret (by kernel_rfl) ?_
        repeat (first | refine seqQ_ret ?_ | refine blockQ_ret ?_ | refine loopQ_ret ?_ | refine cutQ_ret ?_)
        exact retS (rs := [(Go.ResultVar.tmp 4)]) (v := Value.int .i64 10) (by kernel_rfl) (⟨by kernel_rfl, trivial⟩) ⟨10, rfl, h⟩
      · replace h := h.2 hb
        refine wpE_skip (by kernel_rfl) ?_
        change WpE _ _ c_towpathref14_Lane_Take_23 _ _ _
        refine wpE_seq (x := c_towpathref14_Lane_Take_24) (y := c_towpathref14_Lane_Take_33) (by kernel_rfl) ?_
        refine wpE_seq (x := c_towpathref14_Lane_Take_25) (y := c_towpathref14_Lane_Take_27) (by kernel_rfl) ?_
        refine wpE_region (id := 5) (ops := r_towpathref14_Lane_Take_25) (by kernel_rfl) ?_
        refine reg_run [] 0 [(0, [], Value.pointer l_), (3, [], Value.pointer (some ⟨b_, 0, none⟩))] (by kernel_rfl) (by kernel_rfl) ?_
        obtain ⟨v12, hc, h⟩ := h
        refine reg_loadN (t := 27) (a := (Go.Operand.tmp 3)) (b := b_) (o := 0) (ty := 27) (dst := some 12) [Value.int .i64 v12.Number, Value.slice v12.Writes.ptr v12.Writes.len v12.Writes.cap] (by kernel_rfl) (by kernel_rfl) (by kernel_rfl) (k := 2) (by kernel_rfl) (by kernel_rfl) hc ?_
        refine reg_run [] 1 [(0, [], Value.pointer l_), (3, [], Value.pointer (some ⟨b_, 0, none⟩)), (12, [], Value.agg #[Value.int .i64 v12.Number, Value.slice v12.Writes.ptr v12.Writes.len v12.Writes.cap])] (by kernel_rfl) (by kernel_rfl) ?_
        refine reg_enter (op := (Go.Op.call (Go.Call.mk (Go.Callee.value (Go.Operand.func 84)) #[(Go.Operand.tmp 12)] #[27]))) (ty := 28) (dst := some 13) 84 #[Value.agg #[Value.int .i64 v12.Number, Value.slice v12.Writes.ptr v12.Writes.len v12.Writes.cap]] (by kernel_rfl) (fun ww => by kernel_rfl) (Calls.mono h ?_)
        rintro _ w2 ⟨v13, rfl, h⟩
        refine ⟨_, rfl, ?_⟩
        refine reg_run [.plain] 3 [(0, [], Value.pointer l_), (3, [], Value.pointer (some ⟨b_, 0, none⟩)), (14, [], Value.bool (v13 != 0))] (by kernel_rfl) (by kernel_rfl) ?_
        refine reg_end [(0, Value.pointer l_), (3, Value.pointer (some ⟨b_, 0, none⟩)), (14, Value.bool (v13 != 0))] (by kernel_rfl) (by kernel_rfl) ?_
        change WpE _ _ c_towpathref14_Lane_Take_27 _ _ _
        refine wpE_cond (o := (Operand.tmp 14)) (b := (v13 != 0)) (x := c_towpathref14_Lane_Take_28) (y := c_towpathref14_Lane_Take_32) (by kernel_rfl) (by kernel_rfl) (fun hb => ?_) (fun hb => ?_)
        · replace h := h.1 hb
          refine wpE_seq (x := c_towpathref14_Lane_Take_29) (y := c_towpathref14_Lane_Take_31) (by kernel_rfl) ?_
          refine wpE_region (id := 6) (ops := r_towpathref14_Lane_Take_29) (by kernel_rfl) ?_
          refine reg_run [.plain] 1 [(4, [], Value.int .i64 1)] (by kernel_rfl) (by kernel_rfl) ?_
          refine reg_end [(4, Value.int .i64 1)] (by kernel_rfl) (by kernel_rfl) ?_
          change WpE _ _ c_towpathref14_Lane_Take_31 _ _ _
          refine wpE_ret (by kernel_rfl) ?_
          repeat (first | refine seqQ_ret ?_ | refine blockQ_ret ?_ | refine loopQ_ret ?_ | refine cutQ_ret ?_)
          exact retS (rs := [(Go.ResultVar.tmp 4)]) (v := Value.int .i64 1) (by kernel_rfl) (⟨by kernel_rfl, trivial⟩) ⟨1, rfl, h⟩
        · replace h := h.2 hb
          refine wpE_skip (by kernel_rfl) ?_
          change WpE _ _ c_towpathref14_Lane_Take_33 _ _ _
          refine wpE_seq (x := c_towpathref14_Lane_Take_34) (y := c_towpathref14_Lane_Take_36) (by kernel_rfl) ?_
          refine wpE_region (id := 7) (ops := r_towpathref14_Lane_Take_34) (by kernel_rfl) ?_
          refine reg_run [.plain, .plain] 2 [(0, [], Value.pointer l_), (3, [], Value.pointer (some ⟨b_, 0, none⟩)), (15, [], Value.pointer l_), (16, [], Value.pointer (some ⟨b_, 0, none⟩))] (by kernel_rfl) (by kernel_rfl) ?_
          obtain ⟨v17, hc, h⟩ := h
          refine reg_load1 (t := 3) (a := (Go.Operand.tmp 16)) (b := b_) (o := 0) (ty := 3) (dst := some 17) (by kernel_rfl) (by kernel_rfl) (by kernel_rfl) hc ?_
          refine reg_run [] 3 [(0, [], Value.pointer l_), (3, [], Value.pointer (some ⟨b_, 0, none⟩)), (15, [], Value.pointer l_), (17, [], Value.int .i64 v17)] (by kernel_rfl) (by kernel_rfl) ?_
          obtain ⟨hp_5, h⟩ := h
          refine reg_conv [(0, [], Value.pointer l_), (3, [], Value.pointer (some ⟨b_, 0, none⟩)), (15, [], Value.pointer (some ⟨(pblk l_), (poff l_), none⟩)), (17, [], Value.int .i64 v17)] (congrArg (fun pp => ([(0, [], Value.pointer l_), (3, [], Value.pointer (some ⟨b_, 0, none⟩)), (15, [], Value.pointer pp), (17, [], Value.int .i64 v17)] : GEnv)) hp_5) ?_
          refine reg_run [.plain] 4 [(0, [], Value.pointer l_), (3, [], Value.pointer (some ⟨b_, 0, none⟩)), (15, [], Value.pointer (some ⟨(pblk l_), (poff l_), none⟩)), (17, [], Value.int .i64 v17), (18, [], Value.pointer (some ⟨(pblk l_), (poff l_), none⟩))] (by kernel_rfl) (by kernel_rfl) ?_
          refine reg_run [.plain] 5 [(0, [], Value.pointer l_), (3, [], Value.pointer (some ⟨b_, 0, none⟩)), (17, [], Value.int .i64 v17), (19, [], Value.pointer (some ⟨(pblk l_), (poff l_) + 5, none⟩))] (by kernel_rfl) (by kernel_rfl) ?_
          obtain ⟨hc, h⟩ := h
          refine reg_store (t := 3) (a := (Go.Operand.tmp 19)) (x := (Go.Operand.tmp 17)) (b := (pblk l_)) (o := ((poff l_) + 5)) (ty := 0) (dst := none) [Value.int .i64 v17] (by kernel_rfl) (by kernel_rfl) (by kernel_rfl) (k := 1) (by kernel_rfl) (by kernel_rfl) (by kernel_rfl) hc (fun w3 hw => ?_)
          replace h := h w3 hw
          clear hw
          refine reg_end [(0, Value.pointer l_), (3, Value.pointer (some ⟨b_, 0, none⟩))] (by kernel_rfl) (by kernel_rfl) ?_
          change WpE _ _ c_towpathref14_Lane_Take_36 _ _ _
          refine wpE_seq (x := c_towpathref14_Lane_Take_37) (y := c_towpathref14_Lane_Take_39) (by kernel_rfl) ?_
          refine wpE_region (id := 8) (ops := r_towpathref14_Lane_Take_37) (by kernel_rfl) ?_
          refine reg_run [.plain] 1 [(0, [], Value.pointer l_), (3, [], Value.pointer (some ⟨b_, 0, none⟩)), (20, [], Value.pointer l_)] (by kernel_rfl) (by kernel_rfl) ?_
          obtain ⟨v21, hc, h⟩ := h
          refine reg_loadN (t := 27) (a := (Go.Operand.tmp 3)) (b := b_) (o := 0) (ty := 27) (dst := some 21) [Value.int .i64 v21.Number, Value.slice v21.Writes.ptr v21.Writes.len v21.Writes.cap] (by kernel_rfl) (by kernel_rfl) (by kernel_rfl) (k := 2) (by kernel_rfl) (by kernel_rfl) hc ?_
          refine reg_run [] 2 [(0, [], Value.pointer l_), (20, [], Value.pointer l_), (21, [], Value.agg #[Value.int .i64 v21.Number, Value.slice v21.Writes.ptr v21.Writes.len v21.Writes.cap])] (by kernel_rfl) (by kernel_rfl) ?_
          refine reg_enter (op := (Go.Op.call (Go.Call.mk (Go.Callee.value (Go.Operand.func 85)) #[(Go.Operand.tmp 21)] #[27]))) (ty := 25) (dst := some 22) 85 #[Value.agg #[Value.int .i64 v21.Number, Value.slice v21.Writes.ptr v21.Writes.len v21.Writes.cap]] (by kernel_rfl) (fun ww => by kernel_rfl) (Calls.mono h ?_)
          rintro _ w4 ⟨v22, rfl, h⟩
          refine ⟨_, rfl, ?_⟩
          refine reg_run [] 3 [(0, [], Value.pointer l_), (20, [], Value.pointer l_), (22, [], Value.slice v22.ptr v22.len v22.cap)] (by kernel_rfl) (by kernel_rfl) ?_
          obtain ⟨hp_7, h⟩ := h
          refine reg_conv [(0, [], Value.pointer l_), (20, [], Value.pointer (some ⟨(pblk l_), (poff l_), none⟩)), (22, [], Value.slice v22.ptr v22.len v22.cap)] (congrArg (fun pp => ([(0, [], Value.pointer l_), (20, [], Value.pointer pp), (22, [], Value.slice v22.ptr v22.len v22.cap)] : GEnv)) hp_7) ?_
          refine reg_run [.plain] 4 [(0, [], Value.pointer l_), (20, [], Value.pointer (some ⟨(pblk l_), (poff l_), none⟩)), (22, [], Value.slice v22.ptr v22.len v22.cap), (23, [], Value.pointer (some ⟨(pblk l_), (poff l_), none⟩))] (by kernel_rfl) (by kernel_rfl) ?_
          refine reg_run [.plain] 5 [(0, [], Value.pointer l_), (22, [], Value.slice v22.ptr v22.len v22.cap), (24, [], Value.pointer (some ⟨(pblk l_), (poff l_) + 6, none⟩))] (by kernel_rfl) (by kernel_rfl) ?_
          obtain ⟨hc, h⟩ := h
          refine reg_store (t := 25) (a := (Go.Operand.tmp 24)) (x := (Go.Operand.tmp 22)) (b := (pblk l_)) (o := ((poff l_) + 6)) (ty := 0) (dst := none) [Value.slice v22.ptr v22.len v22.cap] (by kernel_rfl) (by kernel_rfl) (by kernel_rfl) (k := 1) (by kernel_rfl) (by kernel_rfl) (by kernel_rfl) hc (fun w5 hw => ?_)
          replace h := h w5 hw
          clear hw
          refine reg_end [(0, Value.pointer l_)] (by kernel_rfl) (by kernel_rfl) ?_
          change WpE _ _ c_towpathref14_Lane_Take_39 _ _ _
          refine wpE_seq (x := c_towpathref14_Lane_Take_40) (y := c_towpathref14_Lane_Take_42) (by kernel_rfl) ?_
          refine wpE_region (id := 9) (ops := r_towpathref14_Lane_Take_40) (by kernel_rfl) ?_
          refine reg_run [.plain] 1 [(0, [], Value.pointer l_), (25, [], Value.pointer l_)] (by kernel_rfl) (by kernel_rfl) ?_
          obtain ⟨hp_9, h⟩ := h
          refine reg_conv [(0, [], Value.pointer l_), (25, [], Value.pointer (some ⟨(pblk l_), (poff l_), none⟩))] (congrArg (fun pp => ([(0, [], Value.pointer l_), (25, [], Value.pointer pp)] : GEnv)) hp_9) ?_
          refine reg_run [.plain] 2 [(0, [], Value.pointer l_), (25, [], Value.pointer (some ⟨(pblk l_), (poff l_), none⟩)), (26, [], Value.pointer (some ⟨(pblk l_), (poff l_), none⟩))] (by kernel_rfl) (by kernel_rfl) ?_
          refine reg_run [.plain] 3 [(0, [], Value.pointer l_), (27, [], Value.pointer (some ⟨(pblk l_), (poff l_) + 7, none⟩))] (by kernel_rfl) (by kernel_rfl) ?_
          obtain ⟨hc, h⟩ := h
          refine reg_store (t := 3) (a := (Go.Operand.tmp 27)) (x := (Go.Operand.const (Go.Value.int Go.IntKind.i64 0))) (b := (pblk l_)) (o := ((poff l_) + 7)) (ty := 0) (dst := none) [Value.int .i64 0] (by kernel_rfl) (by kernel_rfl) (by kernel_rfl) (k := 1) (by kernel_rfl) (by kernel_rfl) (by kernel_rfl) hc (fun w6 hw => ?_)
          replace h := h w6 hw
          clear hw
          refine reg_end [(0, Value.pointer l_)] (by kernel_rfl) (by kernel_rfl) ?_
          change WpE _ _ c_towpathref14_Lane_Take_42 _ _ _
          refine wpE_seq (x := c_towpathref14_Lane_Take_43) (y := c_towpathref14_Lane_Take_45) (by kernel_rfl) ?_
          refine wpE_region (id := 10) (ops := r_towpathref14_Lane_Take_43) (by kernel_rfl) ?_
          refine reg_run [.plain] 1 [(28, [], Value.pointer l_)] (by kernel_rfl) (by kernel_rfl) ?_
          obtain ⟨hp_11, h⟩ := h
          refine reg_conv [(28, [], Value.pointer (some ⟨(pblk l_), (poff l_), none⟩))] (congrArg (fun pp => ([(28, [], Value.pointer pp)] : GEnv)) hp_11) ?_
          refine reg_run [.plain] 2 [(28, [], Value.pointer (some ⟨(pblk l_), (poff l_), none⟩)), (29, [], Value.pointer (some ⟨(pblk l_), (poff l_), none⟩))] (by kernel_rfl) (by kernel_rfl) ?_
          refine reg_run [.plain] 3 [(30, [], Value.pointer (some ⟨(pblk l_), (poff l_) + 8, none⟩))] (by kernel_rfl) (by kernel_rfl) ?_
          obtain ⟨hc, h⟩ := h
          refine reg_store (t := 3) (a := (Go.Operand.tmp 30)) (x := (Go.Operand.const (Go.Value.int Go.IntKind.i64 0))) (b := (pblk l_)) (o := ((poff l_) + 8)) (ty := 0) (dst := none) [Value.int .i64 0] (by kernel_rfl) (by kernel_rfl) (by kernel_rfl) (k := 1) (by kernel_rfl) (by kernel_rfl) (by kernel_rfl) hc (fun w7 hw => ?_)
          replace h := h w7 hw
          clear hw
          refine reg_end [] (by kernel_rfl) (by kernel_rfl) ?_
          change WpE _ _ c_towpathref14_Lane_Take_45 _ _ _
          refine wpE_seq (x := c_towpathref14_Lane_Take_46) (y := c_towpathref14_Lane_Take_48) (by kernel_rfl) ?_
          refine wpE_region (id := 11) (ops := r_towpathref14_Lane_Take_46) (by kernel_rfl) ?_
          refine reg_run [.plain] 1 [(4, [], Value.int .i64 0)] (by kernel_rfl) (by kernel_rfl) ?_
          refine reg_end [(4, Value.int .i64 0)] (by kernel_rfl) (by kernel_rfl) ?_
          change WpE _ _ c_towpathref14_Lane_Take_48 _ _ _
          refine wpE_ret (by kernel_rfl) ?_
          repeat (first | refine seqQ_ret ?_ | refine blockQ_ret ?_ | refine loopQ_ret ?_ | refine cutQ_ret ?_)
          exact retS (rs := [(Go.ResultVar.tmp 4)]) (v := Value.int .i64 0) (by kernel_rfl) (⟨by kernel_rfl, trivial⟩) ⟨0, rfl, h⟩
  · rintro e w' ⟨v, rfl, r0, rfl, h⟩; exact ⟨r0, rfl, h⟩

/-! ### (*towpath/towpathref14.Lane).Sent (function 53) -/
noncomputable def c_towpathref14_Lane_Sent_0 : Code := (Try.f53.body).getD Code.skip
noncomputable def c_towpathref14_Lane_Sent_1 : Code := Code.l c_towpathref14_Lane_Sent_0
noncomputable def r_towpathref14_Lane_Sent_1 : Array Oper := Code.ops c_towpathref14_Lane_Sent_1
noncomputable def c_towpathref14_Lane_Sent_3 : Code := Code.r c_towpathref14_Lane_Sent_0
noncomputable def c_towpathref14_Lane_Sent_4 : Code := Code.l c_towpathref14_Lane_Sent_3
noncomputable def c_towpathref14_Lane_Sent_5 : Code := Code.l c_towpathref14_Lane_Sent_4
noncomputable def r_towpathref14_Lane_Sent_5 : Array Oper := Code.ops c_towpathref14_Lane_Sent_5
noncomputable def c_towpathref14_Lane_Sent_7 : Code := Code.r c_towpathref14_Lane_Sent_4
noncomputable def c_towpathref14_Lane_Sent_8 : Code := Code.l c_towpathref14_Lane_Sent_7
noncomputable def c_towpathref14_Lane_Sent_9 : Code := Code.l c_towpathref14_Lane_Sent_8
noncomputable def r_towpathref14_Lane_Sent_9 : Array Oper := Code.ops c_towpathref14_Lane_Sent_9
noncomputable def c_towpathref14_Lane_Sent_11 : Code := Code.r c_towpathref14_Lane_Sent_8
noncomputable def c_towpathref14_Lane_Sent_12 : Code := Code.r c_towpathref14_Lane_Sent_7
noncomputable def c_towpathref14_Lane_Sent_13 : Code := Code.r c_towpathref14_Lane_Sent_3
noncomputable def c_towpathref14_Lane_Sent_14 : Code := Code.l c_towpathref14_Lane_Sent_13
noncomputable def r_towpathref14_Lane_Sent_14 : Array Oper := Code.ops c_towpathref14_Lane_Sent_14
noncomputable def c_towpathref14_Lane_Sent_16 : Code := Code.r c_towpathref14_Lane_Sent_13
noncomputable def c_towpathref14_Lane_Sent_17 : Code := Code.l c_towpathref14_Lane_Sent_16
noncomputable def c_towpathref14_Lane_Sent_18 : Code := Code.l c_towpathref14_Lane_Sent_17
noncomputable def r_towpathref14_Lane_Sent_18 : Array Oper := Code.ops c_towpathref14_Lane_Sent_18
noncomputable def c_towpathref14_Lane_Sent_20 : Code := Code.r c_towpathref14_Lane_Sent_17
noncomputable def c_towpathref14_Lane_Sent_21 : Code := Code.l c_towpathref14_Lane_Sent_20
noncomputable def c_towpathref14_Lane_Sent_22 : Code := Code.l c_towpathref14_Lane_Sent_21
noncomputable def r_towpathref14_Lane_Sent_22 : Array Oper := Code.ops c_towpathref14_Lane_Sent_22
noncomputable def c_towpathref14_Lane_Sent_24 : Code := Code.r c_towpathref14_Lane_Sent_21
noncomputable def c_towpathref14_Lane_Sent_25 : Code := Code.r c_towpathref14_Lane_Sent_20
noncomputable def c_towpathref14_Lane_Sent_26 : Code := Code.r c_towpathref14_Lane_Sent_16
noncomputable def c_towpathref14_Lane_Sent_27 : Code := Code.l c_towpathref14_Lane_Sent_26
noncomputable def r_towpathref14_Lane_Sent_27 : Array Oper := Code.ops c_towpathref14_Lane_Sent_27
noncomputable def c_towpathref14_Lane_Sent_29 : Code := Code.r c_towpathref14_Lane_Sent_26
noncomputable def c_towpathref14_Lane_Sent_30 : Code := Code.l c_towpathref14_Lane_Sent_29
noncomputable def r_towpathref14_Lane_Sent_30 : Array Oper := Code.ops c_towpathref14_Lane_Sent_30
noncomputable def c_towpathref14_Lane_Sent_32 : Code := Code.r c_towpathref14_Lane_Sent_29

set_option maxRecDepth 100000 in
set_option maxHeartbeats 4000000 in
theorem S_towpathref14_Lane_Sent {l_ : Option Addr} {w : World} {R : Int → World → Prop} (h : F_towpathref14_Lane_Sent l_ R w) : C_towpathref14_Lane_Sent l_ w R := by
  unfold F_towpathref14_Lane_Sent at h
  unfold C_towpathref14_Lane_Sent
  refine Calls.mono (calls_of_wpE (args := [Value.pointer l_]) (R := fun v w' => ∃ (r0 : Int), v = Value.int .i64 r0 ∧ R r0 w') Try.func53 (c := c_towpathref14_Lane_Sent_0) (by kernel_rfl) 24 (by kernel_rfl) (by kernel_rfl) [(0, Value.pointer l_)] (by kernel_rfl) ?_) ?_
  · refine wpE_seq (x := c_towpathref14_Lane_Sent_1) (y := c_towpathref14_Lane_Sent_3) (by kernel_rfl) ?_
    refine wpE_region (id := 0) (ops := r_towpathref14_Lane_Sent_1) (by kernel_rfl) ?_
    refine reg_run [.plain] 1 [(0, [], Value.pointer l_)] (by kernel_rfl) (by kernel_rfl) ?_
    refine reg_end [(0, Value.pointer l_)] (by kernel_rfl) (by kernel_rfl) ?_
    change WpE _ _ c_towpathref14_Lane_Sent_3 _ _ _
    refine wpE_seq (x := c_towpathref14_Lane_Sent_4) (y := c_towpathref14_Lane_Sent_13) (by kernel_rfl) ?_
    refine wpE_seq (x := c_towpathref14_Lane_Sent_5) (y := c_towpathref14_Lane_Sent_7) (by kernel_rfl) ?_
    refine wpE_region (id := 1) (ops := r_towpathref14_Lane_Sent_5) (by kernel_rfl) ?_
    refine reg_run [.plain] 1 [(0, [], Value.pointer l_), (6, [], Value.pointer l_)] (by kernel_rfl) (by kernel_rfl) ?_
    refine reg_val (op := (Go.Op.binOp Go.BinOp.eql 41 (Go.Operand.tmp 6) (Go.Operand.const (Go.Value.pointer none)) 41)) (ty := 4) (dst := some 7) (Value.bool l_.isNone) (by kernel_rfl) (fun ww => run_ptr_eql_R (p := l_) (by kernel_rfl) (by kernel_rfl) (by kernel_rfl) ww) ?_
    refine reg_end [(0, Value.pointer l_), (7, Value.bool l_.isNone)] (by kernel_rfl) (by kernel_rfl) ?_
    change WpE _ _ c_towpathref14_Lane_Sent_7 _ _ _
    refine wpE_cond (o := (Operand.tmp 7)) (b := l_.isNone) (x := c_towpathref14_Lane_Sent_8) (y := c_towpathref14_Lane_Sent_12) (by kernel_rfl) (by kernel_rfl) (fun hb => ?_) (fun hb => ?_)
    · replace h := h.1 hb
      refine wpE_seq (x := c_towpathref14_Lane_Sent_9) (y := c_towpathref14_Lane_Sent_11) (by kernel_rfl) ?_
      refine wpE_region (id := 2) (ops := r_towpathref14_Lane_Sent_9) (by kernel_rfl) ?_
      refine reg_run [.plain] 1 [(2, [], Value.int .i64 2)] (by kernel_rfl) (by kernel_rfl) ?_
      refine reg_end [(2, Value.int .i64 2)] (by kernel_rfl) (by kernel_rfl) ?_
      change WpE _ _ c_towpathref14_Lane_Sent_11 _ _ _
      refine wpE_ret (by kernel_rfl) ?_
      repeat (first | refine seqQ_ret ?_ | refine blockQ_ret ?_ | refine loopQ_ret ?_ | refine cutQ_ret ?_)
      exact retS (rs := [(Go.ResultVar.tmp 2)]) (v := Value.int .i64 2) (by kernel_rfl) (⟨by kernel_rfl, trivial⟩) ⟨2, rfl, h⟩
    · replace h := h.2 hb
      refine wpE_skip (by kernel_rfl) ?_
      change WpE _ _ c_towpathref14_Lane_Sent_13 _ _ _
      refine wpE_seq (x := c_towpathref14_Lane_Sent_14) (y := c_towpathref14_Lane_Sent_16) (by kernel_rfl) ?_
      refine wpE_region (id := 3) (ops := r_towpathref14_Lane_Sent_14) (by kernel_rfl) ?_
      refine reg_run [.plain] 1 [(0, [], Value.pointer l_), (9, [], Value.pointer l_)] (by kernel_rfl) (by kernel_rfl) ?_
      refine reg_enter (op := (Go.Op.call (Go.Call.mk (Go.Callee.value (Go.Operand.func 56)) #[(Go.Operand.tmp 9)] #[41]))) (ty := 66) (dst := some 10) 56 #[Value.pointer l_] (by kernel_rfl) (fun ww => by kernel_rfl) (Calls.mono h ?_)
      rintro _ w1 ⟨v10, v10_1, ok, rfl, h⟩
      refine ⟨_, rfl, ?_⟩
      refine reg_run [.plain, .plain, .plain, .plain] 6 [(0, [], Value.pointer l_), (11, [], Value.int .i64 v10), (12, [], Value.agg #[Value.int .u8 v10_1.Kind, Value.int .i64 v10_1.From, Value.int .i64 v10_1.Number, Value.string v10_1.Write.Key, Value.string v10_1.Write.Val, Value.bool v10_1.Write.Drop, Value.string v10_1.Key, Value.string v10_1.End, Value.slice v10_1.Beyond.ptr v10_1.Beyond.len v10_1.Beyond.cap]), (13, [], Value.bool ok)] (by kernel_rfl) (by kernel_rfl) ?_
      refine reg_new (op := (Go.Op.alloc 65)) (ty := 0) (dst := some 4) (fun bb => Value.pointer (some ⟨bb, 0, none⟩)) (Obj.cells ([Value.int .u8 0, Value.int .i64 0, Value.int .i64 0, Value.string ByteArray.empty, Value.string ByteArray.empty, Value.bool false, Value.string ByteArray.empty, Value.string ByteArray.empty, Value.slice none 0 0]).toArray ty_api_Req (0, 0)) (by kernel_rfl) (by kernel_rfl) (fun b_ w2 hb hw => ?_)
      replace h := h b_ w2 hb hw
      clear hb hw
      refine reg_run [.plain] 8 [(0, [], Value.pointer l_), (4, [], Value.pointer (some ⟨b_, 0, none⟩)), (12, [], Value.agg #[Value.int .u8 v10_1.Kind, Value.int .i64 v10_1.From, Value.int .i64 v10_1.Number, Value.string v10_1.Write.Key, Value.string v10_1.Write.Val, Value.bool v10_1.Write.Drop, Value.string v10_1.Key, Value.string v10_1.End, Value.slice v10_1.Beyond.ptr v10_1.Beyond.len v10_1.Beyond.cap]), (13, [], Value.bool ok)] (by kernel_rfl) (by kernel_rfl) ?_
      obtain ⟨hc, h⟩ := h
      refine reg_store (t := 65) (a := (Go.Operand.tmp 4)) (x := (Go.Operand.tmp 12)) (b := b_) (o := 0) (ty := 0) (dst := none) [Value.int .u8 v10_1.Kind, Value.int .i64 v10_1.From, Value.int .i64 v10_1.Number, Value.string v10_1.Write.Key, Value.string v10_1.Write.Val, Value.bool v10_1.Write.Drop, Value.string v10_1.Key, Value.string v10_1.End, Value.slice v10_1.Beyond.ptr v10_1.Beyond.len v10_1.Beyond.cap] (by kernel_rfl) (by kernel_rfl) (by kernel_rfl) (k := 9) (by kernel_rfl) (by kernel_rfl) (by kernel_rfl) hc (fun w3 hw => ?_)
      replace h := h w3 hw
      clear hw
      refine reg_run [.plain] 10 [(0, [], Value.pointer l_), (5, [], Value.bool ok)] (by kernel_rfl) (by kernel_rfl) ?_
      refine reg_end [(0, Value.pointer l_), (5, Value.bool ok)] (by kernel_rfl) (by kernel_rfl) ?_
      change WpE _ _ c_towpathref14_Lane_Sent_16 _ _ _
      refine wpE_seq (x := c_towpathref14_Lane_Sent_17) (y := c_towpathref14_Lane_Sent_26) (by kernel_rfl) ?_
      refine wpE_seq (x := c_towpathref14_Lane_Sent_18) (y := c_towpathref14_Lane_Sent_20) (by kernel_rfl) ?_
      refine wpE_region (id := 4) (ops := r_towpathref14_Lane_Sent_18) (by kernel_rfl) ?_
      refine reg_run [.plain, .plain] 2 [(0, [], Value.pointer l_), (15, [], Value.bool (!ok))] (by kernel_rfl) (by kernel_rfl) ?_
      refine reg_end [(0, Value.pointer l_), (15, Value.bool (!ok))] (by kernel_rfl) (by kernel_rfl) ?_
      change WpE _ _ c_towpathref14_Lane_Sent_20 _ _ _
      refine wpE_cond (o := (Operand.tmp 15)) (b := (!ok)) (x := c_towpathref14_Lane_Sent_21) (y := c_towpathref14_Lane_Sent_25) (by kernel_rfl) (by kernel_rfl) (fun hb => ?_) (fun hb => ?_)
      · replace h := h.1 hb
        refine wpE_seq (x := c_towpathref14_Lane_Sent_22) (y := c_towpathref14_Lane_Sent_24) (by kernel_rfl) ?_
        refine wpE_region (id := 5) (ops := r_towpathref14_Lane_Sent_22) (by kernel_rfl) ?_
        refine reg_run [.plain] 1 [(2, [], Value.int .i64 9)] (by kernel_rfl) (by kernel_rfl) ?_
        refine reg_end [(2, Value.int .i64 9)] (by kernel_rfl) (by kernel_rfl) ?_
        change WpE _ _ c_towpathref14_Lane_Sent_24 _ _ _
        refine wpE_ret (by kernel_rfl) ?_
        repeat (first | refine seqQ_ret ?_ | refine blockQ_ret ?_ | refine loopQ_ret ?_ | refine cutQ_ret ?_)
        exact retS (rs := [(Go.ResultVar.tmp 2)]) (v := Value.int .i64 9) (by kernel_rfl) (⟨by kernel_rfl, trivial⟩) ⟨9, rfl, h⟩
      · replace h := h.2 hb
        refine wpE_skip (by kernel_rfl) ?_
        change WpE _ _ c_towpathref14_Lane_Sent_26 _ _ _
        refine wpE_seq (x := c_towpathref14_Lane_Sent_27) (y := c_towpathref14_Lane_Sent_29) (by kernel_rfl) ?_
        refine wpE_region (id := 6) (ops := r_towpathref14_Lane_Sent_27) (by kernel_rfl) ?_
        refine reg_run [.plain, .plain] 2 [(16, [], Value.pointer l_), (17, [], Value.pointer l_)] (by kernel_rfl) (by kernel_rfl) ?_
        obtain ⟨hp_2, h⟩ := h
        refine reg_conv [(16, [], Value.pointer l_), (17, [], Value.pointer (some ⟨(pblk l_), (poff l_), none⟩))] (congrArg (fun pp => ([(16, [], Value.pointer l_), (17, [], Value.pointer pp)] : GEnv)) hp_2) ?_
        refine reg_run [.plain] 3 [(16, [], Value.pointer l_), (17, [], Value.pointer (some ⟨(pblk l_), (poff l_), none⟩)), (18, [], Value.pointer (some ⟨(pblk l_), (poff l_), none⟩))] (by kernel_rfl) (by kernel_rfl) ?_
        refine reg_run [.plain] 4 [(16, [], Value.pointer l_), (19, [], Value.pointer (some ⟨(pblk l_), (poff l_) + 7, none⟩))] (by kernel_rfl) (by kernel_rfl) ?_
        obtain ⟨v20, hc, h⟩ := h
        refine reg_load1 (t := 3) (a := (Go.Operand.tmp 19)) (b := (pblk l_)) (o := ((poff l_) + 7)) (ty := 3) (dst := some 20) (by kernel_rfl) (by kernel_rfl) (by kernel_rfl) hc ?_
        refine reg_run [.plain] 6 [(16, [], Value.pointer l_), (21, [], Value.int .i64 (IntKind.i64.wrap (v20 + 1)))] (by kernel_rfl) (by kernel_rfl) ?_
        obtain ⟨hp_3, h⟩ := h
        refine reg_conv [(16, [], Value.pointer (some ⟨(pblk l_), (poff l_), none⟩)), (21, [], Value.int .i64 (IntKind.i64.wrap (v20 + 1)))] (congrArg (fun pp => ([(16, [], Value.pointer pp), (21, [], Value.int .i64 (IntKind.i64.wrap (v20 + 1)))] : GEnv)) hp_3) ?_
        refine reg_run [.plain] 7 [(16, [], Value.pointer (some ⟨(pblk l_), (poff l_), none⟩)), (21, [], Value.int .i64 (IntKind.i64.wrap (v20 + 1))), (22, [], Value.pointer (some ⟨(pblk l_), (poff l_), none⟩))] (by kernel_rfl) (by kernel_rfl) ?_
        refine reg_run [.plain] 8 [(21, [], Value.int .i64 (IntKind.i64.wrap (v20 + 1))), (23, [], Value.pointer (some ⟨(pblk l_), (poff l_) + 7, none⟩))] (by kernel_rfl) (by kernel_rfl) ?_
        obtain ⟨hc, h⟩ := h
        refine reg_store (t := 3) (a := (Go.Operand.tmp 23)) (x := (Go.Operand.tmp 21)) (b := (pblk l_)) (o := ((poff l_) + 7)) (ty := 0) (dst := none) [Value.int .i64 (IntKind.i64.wrap (v20 + 1))] (by kernel_rfl) (by kernel_rfl) (by kernel_rfl) (k := 1) (by kernel_rfl) (by kernel_rfl) (by kernel_rfl) hc (fun w4 hw => ?_)
        replace h := h w4 hw
        clear hw
        refine reg_end [] (by kernel_rfl) (by kernel_rfl) ?_
        change WpE _ _ c_towpathref14_Lane_Sent_29 _ _ _
        refine wpE_seq (x := c_towpathref14_Lane_Sent_30) (y := c_towpathref14_Lane_Sent_32) (by kernel_rfl) ?_
        refine wpE_region (id := 7) (ops := r_towpathref14_Lane_Sent_30) (by kernel_rfl) ?_
        refine reg_run [.plain] 1 [(2, [], Value.int .i64 0)] (by kernel_rfl) (by kernel_rfl) ?_
        refine reg_end [(2, Value.int .i64 0)] (by kernel_rfl) (by kernel_rfl) ?_
        change WpE _ _ c_towpathref14_Lane_Sent_32 _ _ _
        refine wpE_ret (by kernel_rfl) ?_
        repeat (first | refine seqQ_ret ?_ | refine blockQ_ret ?_ | refine loopQ_ret ?_ | refine cutQ_ret ?_)
        exact retS (rs := [(Go.ResultVar.tmp 2)]) (v := Value.int .i64 0) (by kernel_rfl) (⟨by kernel_rfl, trivial⟩) ⟨0, rfl, h⟩
  · rintro e w' ⟨v, rfl, r0, rfl, h⟩; exact ⟨r0, rfl, h⟩

/-! ### (*towpath/towpathref14.Lane).Acked (function 54) -/
noncomputable def c_towpathref14_Lane_Acked_0 : Code := (Try.f54.body).getD Code.skip
noncomputable def c_towpathref14_Lane_Acked_1 : Code := Code.l c_towpathref14_Lane_Acked_0
noncomputable def r_towpathref14_Lane_Acked_1 : Array Oper := Code.ops c_towpathref14_Lane_Acked_1
noncomputable def c_towpathref14_Lane_Acked_3 : Code := Code.r c_towpathref14_Lane_Acked_0
noncomputable def c_towpathref14_Lane_Acked_4 : Code := Code.l c_towpathref14_Lane_Acked_3
noncomputable def c_towpathref14_Lane_Acked_5 : Code := Code.l c_towpathref14_Lane_Acked_4
noncomputable def r_towpathref14_Lane_Acked_5 : Array Oper := Code.ops c_towpathref14_Lane_Acked_5
noncomputable def c_towpathref14_Lane_Acked_7 : Code := Code.r c_towpathref14_Lane_Acked_4
noncomputable def c_towpathref14_Lane_Acked_8 : Code := Code.l c_towpathref14_Lane_Acked_7
noncomputable def c_towpathref14_Lane_Acked_9 : Code := Code.l c_towpathref14_Lane_Acked_8
noncomputable def r_towpathref14_Lane_Acked_9 : Array Oper := Code.ops c_towpathref14_Lane_Acked_9
noncomputable def c_towpathref14_Lane_Acked_11 : Code := Code.r c_towpathref14_Lane_Acked_8
noncomputable def c_towpathref14_Lane_Acked_12 : Code := Code.r c_towpathref14_Lane_Acked_7
noncomputable def c_towpathref14_Lane_Acked_13 : Code := Code.r c_towpathref14_Lane_Acked_3
noncomputable def c_towpathref14_Lane_Acked_14 : Code := Code.l c_towpathref14_Lane_Acked_13
noncomputable def c_towpathref14_Lane_Acked_15 : Code := Code.l c_towpathref14_Lane_Acked_14
noncomputable def r_towpathref14_Lane_Acked_15 : Array Oper := Code.ops c_towpathref14_Lane_Acked_15
noncomputable def c_towpathref14_Lane_Acked_17 : Code := Code.r c_towpathref14_Lane_Acked_14
noncomputable def c_towpathref14_Lane_Acked_18 : Code := Code.l c_towpathref14_Lane_Acked_17
noncomputable def c_towpathref14_Lane_Acked_19 : Code := Code.l c_towpathref14_Lane_Acked_18
noncomputable def r_towpathref14_Lane_Acked_19 : Array Oper := Code.ops c_towpathref14_Lane_Acked_19
noncomputable def c_towpathref14_Lane_Acked_21 : Code := Code.r c_towpathref14_Lane_Acked_18
noncomputable def c_towpathref14_Lane_Acked_22 : Code := Code.r c_towpathref14_Lane_Acked_17
noncomputable def c_towpathref14_Lane_Acked_23 : Code := Code.r c_towpathref14_Lane_Acked_13
noncomputable def c_towpathref14_Lane_Acked_24 : Code := Code.l c_towpathref14_Lane_Acked_23
noncomputable def r_towpathref14_Lane_Acked_24 : Array Oper := Code.ops c_towpathref14_Lane_Acked_24
noncomputable def c_towpathref14_Lane_Acked_26 : Code := Code.r c_towpathref14_Lane_Acked_23
noncomputable def c_towpathref14_Lane_Acked_27 : Code := Code.l c_towpathref14_Lane_Acked_26
noncomputable def r_towpathref14_Lane_Acked_27 : Array Oper := Code.ops c_towpathref14_Lane_Acked_27
noncomputable def c_towpathref14_Lane_Acked_29 : Code := Code.r c_towpathref14_Lane_Acked_26

set_option maxRecDepth 100000 in
set_option maxHeartbeats 4000000 in
theorem S_towpathref14_Lane_Acked {l_ : Option Addr} {w : World} {R : Int → World → Prop} (h : F_towpathref14_Lane_Acked l_ R w) : C_towpathref14_Lane_Acked l_ w R := by
  unfold F_towpathref14_Lane_Acked at h
  unfold C_towpathref14_Lane_Acked
  refine Calls.mono (calls_of_wpE (args := [Value.pointer l_]) (R := fun v w' => ∃ (r0 : Int), v = Value.int .i64 r0 ∧ R r0 w') Try.func54 (c := c_towpathref14_Lane_Acked_0) (by kernel_rfl) 29 (by kernel_rfl) (by kernel_rfl) [(0, Value.pointer l_)] (by kernel_rfl) ?_) ?_
  · refine wpE_seq (x := c_towpathref14_Lane_Acked_1) (y := c_towpathref14_Lane_Acked_3) (by kernel_rfl) ?_
    refine wpE_region (id := 0) (ops := r_towpathref14_Lane_Acked_1) (by kernel_rfl) ?_
    refine reg_run [.plain] 1 [(0, [], Value.pointer l_)] (by kernel_rfl) (by kernel_rfl) ?_
    refine reg_end [(0, Value.pointer l_)] (by kernel_rfl) (by kernel_rfl) ?_
    change WpE _ _ c_towpathref14_Lane_Acked_3 _ _ _
    refine wpE_seq (x := c_towpathref14_Lane_Acked_4) (y := c_towpathref14_Lane_Acked_13) (by kernel_rfl) ?_
    refine wpE_seq (x := c_towpathref14_Lane_Acked_5) (y := c_towpathref14_Lane_Acked_7) (by kernel_rfl) ?_
    refine wpE_region (id := 1) (ops := r_towpathref14_Lane_Acked_5) (by kernel_rfl) ?_
    refine reg_run [.plain] 1 [(0, [], Value.pointer l_), (3, [], Value.pointer l_)] (by kernel_rfl) (by kernel_rfl) ?_
    refine reg_val (op := (Go.Op.binOp Go.BinOp.eql 41 (Go.Operand.tmp 3) (Go.Operand.const (Go.Value.pointer none)) 41)) (ty := 4) (dst := some 4) (Value.bool l_.isNone) (by kernel_rfl) (fun ww => run_ptr_eql_R (p := l_) (by kernel_rfl) (by kernel_rfl) (by kernel_rfl) ww) ?_
    refine reg_end [(0, Value.pointer l_), (4, Value.bool l_.isNone)] (by kernel_rfl) (by kernel_rfl) ?_
    change WpE _ _ c_towpathref14_Lane_Acked_7 _ _ _
    refine wpE_cond (o := (Operand.tmp 4)) (b := l_.isNone) (x := c_towpathref14_Lane_Acked_8) (y := c_towpathref14_Lane_Acked_12) (by kernel_rfl) (by kernel_rfl) (fun hb => ?_) (fun hb => ?_)
    · replace h := h.1 hb
      refine wpE_seq (x := c_towpathref14_Lane_Acked_9) (y := c_towpathref14_Lane_Acked_11) (by kernel_rfl) ?_
      refine wpE_region (id := 2) (ops := r_towpathref14_Lane_Acked_9) (by kernel_rfl) ?_
      refine reg_run [.plain] 1 [(2, [], Value.int .i64 2)] (by kernel_rfl) (by kernel_rfl) ?_
      refine reg_end [(2, Value.int .i64 2)] (by kernel_rfl) (by kernel_rfl) ?_
      change WpE _ _ c_towpathref14_Lane_Acked_11 _ _ _
      refine wpE_ret (by kernel_rfl) ?_
      repeat (first | refine seqQ_ret ?_ | refine blockQ_ret ?_ | refine loopQ_ret ?_ | refine cutQ_ret ?_)
      exact retS (rs := [(Go.ResultVar.tmp 2)]) (v := Value.int .i64 2) (by kernel_rfl) (⟨by kernel_rfl, trivial⟩) ⟨2, rfl, h⟩
    · replace h := h.2 hb
      refine wpE_skip (by kernel_rfl) ?_
      change WpE _ _ c_towpathref14_Lane_Acked_13 _ _ _
      refine wpE_seq (x := c_towpathref14_Lane_Acked_14) (y := c_towpathref14_Lane_Acked_23) (by kernel_rfl) ?_
      refine wpE_seq_cut (x := c_towpathref14_Lane_Acked_15) (y := c_towpathref14_Lane_Acked_17) (by kernel_rfl) (fun l w => ∃ (t20 : Bool), l = [(0, Value.pointer l_), (20, Value.bool t20)] ∧ F_towpathref14_Lane_Acked_k0 l_ R t20 w) ?_ ?_
      · refine wpE_drawregion (id := 3) (ops := r_towpathref14_Lane_Acked_15) (by kernel_rfl) (by kernel_rfl) (by kernel_rfl) ?_
        refine qreg_run [.plain] 1 [(0, [], Value.pointer l_), (5, [], Value.pointer l_)] (by kernel_rfl) (by kernel_rfl) ?_
        obtain ⟨hp_13, h⟩ := h
        refine qreg_conv [(0, [], Value.pointer l_), (5, [], Value.pointer (some ⟨(pblk l_), (poff l_), none⟩))] (congrArg (fun pp => ([(0, [], Value.pointer l_), (5, [], Value.pointer pp)] : GEnv)) hp_13) ?_
        refine qreg_run [.plain] 2 [(0, [], Value.pointer l_), (5, [], Value.pointer (some ⟨(pblk l_), (poff l_), none⟩)), (6, [], Value.pointer (some ⟨(pblk l_), (poff l_), none⟩))] (by kernel_rfl) (by kernel_rfl) ?_
        refine qreg_run [.plain] 3 [(0, [], Value.pointer l_), (7, [], Value.pointer (some ⟨(pblk l_), (poff l_) + 5, none⟩))] (by kernel_rfl) (by kernel_rfl) ?_
        obtain ⟨v8, hc, h⟩ := h
        refine qreg_load1 (t := 3) (a := (Go.Operand.tmp 7)) (b := (pblk l_)) (o := ((poff l_) + 5)) (ty := 3) (dst := some 8) (by kernel_rfl) (by kernel_rfl) (by kernel_rfl) hc ?_
        refine qreg_run [.plain, .plain, .plain] 7 [(0, [], Value.pointer l_), (10, [], Value.bool (v8 == 0)), (11, [(10, false)], Value.pointer l_)] (by kernel_rfl) (by kernel_rfl) ?_
        refine qreg_split 10 (v8 == 0) (by kernel_rfl) (fun hb => ?_) (fun hb => ?_)
        · replace h := h.1 hb
          refine qreg_run [] 7 [(0, [], Value.pointer l_), (10, [], Value.bool true), (11, [], undef)] (by kernel_rfl) (by kernel_rfl) ?_
          refine qreg_run [.skip, .skip, .skip, .skip, .skip, .skip, .skip, .skip, .plain] 16 [(0, [], Value.pointer l_), (20, [], Value.bool true)] (by kernel_rfl) (by kernel_rfl) ?_
          refine qreg_end [(0, Value.pointer l_), (20, Value.bool true)] (by kernel_rfl) (by kernel_rfl) (fun w3 hw => ?_)
          replace h := h w3 hw
          clear hw
          exact ⟨[(0, Value.pointer l_), (20, Value.bool true)], Sub.mk (by kernel_rfl), true, rfl, h⟩
        · replace h := h.2 hb
          refine qreg_run [] 7 [(0, [], Value.pointer l_), (10, [], Value.bool false), (11, [], Value.pointer l_)] (by kernel_rfl) (by kernel_rfl) ?_
          refine qreg_run [] 7 [(0, [], Value.pointer l_), (10, [], Value.bool false), (11, [], Value.pointer l_)] (by kernel_rfl) (by kernel_rfl) ?_
          obtain ⟨hp_14, h⟩ := h
          refine qreg_conv [(0, [], Value.pointer l_), (10, [], Value.bool false), (11, [], Value.pointer (some ⟨(pblk l_), (poff l_), none⟩))] (congrArg (fun pp => ([(0, [], Value.pointer l_), (10, [], Value.bool false), (11, [], Value.pointer pp)] : GEnv)) hp_14) ?_
          refine qreg_run [.sure] 8 [(0, [], Value.pointer l_), (10, [], Value.bool false), (11, [], Value.pointer (some ⟨(pblk l_), (poff l_), none⟩)), (12, [], Value.pointer (some ⟨(pblk l_), (poff l_), none⟩))] (by kernel_rfl) (by kernel_rfl) ?_
          refine qreg_run [.sure] 9 [(0, [], Value.pointer l_), (10, [], Value.bool false), (13, [], Value.pointer (some ⟨(pblk l_), (poff l_) + 8, none⟩))] (by kernel_rfl) (by kernel_rfl) ?_
          obtain ⟨v14, hc, h⟩ := h
          refine qreg_load1 (t := 3) (a := (Go.Operand.tmp 13)) (b := (pblk l_)) (o := ((poff l_) + 8)) (ty := 3) (dst := some 14) (by kernel_rfl) (by kernel_rfl) (by kernel_rfl) hc ?_
          refine qreg_run [.sure] 11 [(0, [], Value.pointer l_), (10, [], Value.bool false), (14, [], Value.int .i64 v14), (15, [], Value.pointer l_)] (by kernel_rfl) (by kernel_rfl) ?_
          obtain ⟨hp_15, h⟩ := h
          refine qreg_conv [(0, [], Value.pointer l_), (10, [], Value.bool false), (14, [], Value.int .i64 v14), (15, [], Value.pointer (some ⟨(pblk l_), (poff l_), none⟩))] (congrArg (fun pp => ([(0, [], Value.pointer l_), (10, [], Value.bool false), (14, [], Value.int .i64 v14), (15, [], Value.pointer pp)] : GEnv)) hp_15) ?_
          refine qreg_run [.sure] 12 [(0, [], Value.pointer l_), (10, [], Value.bool false), (14, [], Value.int .i64 v14), (15, [], Value.pointer (some ⟨(pblk l_), (poff l_), none⟩)), (16, [], Value.pointer (some ⟨(pblk l_), (poff l_), none⟩))] (by kernel_rfl) (by kernel_rfl) ?_
          refine qreg_run [.sure] 13 [(0, [], Value.pointer l_), (10, [], Value.bool false), (14, [], Value.int .i64 v14), (17, [], Value.pointer (some ⟨(pblk l_), (poff l_) + 7, none⟩))] (by kernel_rfl) (by kernel_rfl) ?_
          obtain ⟨v18, hc, h⟩ := h
          refine qreg_load1 (t := 3) (a := (Go.Operand.tmp 17)) (b := (pblk l_)) (o := ((poff l_) + 7)) (ty := 3) (dst := some 18) (by kernel_rfl) (by kernel_rfl) (by kernel_rfl) hc ?_
          refine qreg_run [.sure, .plain] 16 [(0, [], Value.pointer l_), (20, [], Value.bool (v14 == v18))] (by kernel_rfl) (by kernel_rfl) ?_
          refine qreg_end [(0, Value.pointer l_), (20, Value.bool (v14 == v18))] (by kernel_rfl) (by kernel_rfl) (fun w4 hw => ?_)
          replace h := h w4 hw
          clear hw
          exact ⟨[(0, Value.pointer l_), (20, Value.bool (v14 == v18))], Sub.mk (by kernel_rfl), (v14 == v18), rfl, h⟩
      · rintro _ w1 ⟨t20, rfl, h⟩
        unfold F_towpathref14_Lane_Acked_k0 at h
        refine wpE_cond (o := (Operand.tmp 20)) (b := t20) (x := c_towpathref14_Lane_Acked_18) (y := c_towpathref14_Lane_Acked_22) (by kernel_rfl) (by kernel_rfl) (fun hb => ?_) (fun hb => ?_)
        · replace h := h.1 hb
          refine wpE_seq (x := c_towpathref14_Lane_Acked_19) (y := c_towpathref14_Lane_Acked_21) (by kernel_rfl) ?_
          refine wpE_region (id := 4) (ops := r_towpathref14_Lane_Acked_19) (by kernel_rfl) ?_
          refine reg_run [.plain] 1 [(2, [], Value.int .i64 9)] (by kernel_rfl) (by kernel_rfl) ?_
          refine reg_end [(2, Value.int .i64 9)] (by kernel_rfl) (by kernel_rfl) ?_
          change WpE _ _ c_towpathref14_Lane_Acked_21 _ _ _
          refine wpE_ret (by kernel_rfl) ?_
          repeat (first | refine seqQ_ret ?_ | refine blockQ_ret ?_ | refine loopQ_ret ?_ | refine cutQ_ret ?_)
          exact retS (rs := [(Go.ResultVar.tmp 2)]) (v := Value.int .i64 9) (by kernel_rfl) (⟨by kernel_rfl, trivial⟩) ⟨9, rfl, h⟩
        · replace h := h.2 hb
          refine wpE_skip (by kernel_rfl) ?_
          change WpE _ _ c_towpathref14_Lane_Acked_23 _ _ _
          refine wpE_seq (x := c_towpathref14_Lane_Acked_24) (y := c_towpathref14_Lane_Acked_26) (by kernel_rfl) ?_
          refine wpE_region (id := 5) (ops := r_towpathref14_Lane_Acked_24) (by kernel_rfl) ?_
          refine reg_run [.plain, .plain] 2 [(21, [], Value.pointer l_), (22, [], Value.pointer l_)] (by kernel_rfl) (by kernel_rfl) ?_
          obtain ⟨hp_11, h⟩ := h
          refine reg_conv [(21, [], Value.pointer l_), (22, [], Value.pointer (some ⟨(pblk l_), (poff l_), none⟩))] (congrArg (fun pp => ([(21, [], Value.pointer l_), (22, [], Value.pointer pp)] : GEnv)) hp_11) ?_
          refine reg_run [.plain] 3 [(21, [], Value.pointer l_), (22, [], Value.pointer (some ⟨(pblk l_), (poff l_), none⟩)), (23, [], Value.pointer (some ⟨(pblk l_), (poff l_), none⟩))] (by kernel_rfl) (by kernel_rfl) ?_
          refine reg_run [.plain] 4 [(21, [], Value.pointer l_), (24, [], Value.pointer (some ⟨(pblk l_), (poff l_) + 8, none⟩))] (by kernel_rfl) (by kernel_rfl) ?_
          obtain ⟨v25, hc, h⟩ := h
          refine reg_load1 (t := 3) (a := (Go.Operand.tmp 24)) (b := (pblk l_)) (o := ((poff l_) + 8)) (ty := 3) (dst := some 25) (by kernel_rfl) (by kernel_rfl) (by kernel_rfl) hc ?_
          refine reg_run [.plain] 6 [(21, [], Value.pointer l_), (26, [], Value.int .i64 (IntKind.i64.wrap (v25 + 1)))] (by kernel_rfl) (by kernel_rfl) ?_
          obtain ⟨hp_12, h⟩ := h
          refine reg_conv [(21, [], Value.pointer (some ⟨(pblk l_), (poff l_), none⟩)), (26, [], Value.int .i64 (IntKind.i64.wrap (v25 + 1)))] (congrArg (fun pp => ([(21, [], Value.pointer pp), (26, [], Value.int .i64 (IntKind.i64.wrap (v25 + 1)))] : GEnv)) hp_12) ?_
          refine reg_run [.plain] 7 [(21, [], Value.pointer (some ⟨(pblk l_), (poff l_), none⟩)), (26, [], Value.int .i64 (IntKind.i64.wrap (v25 + 1))), (27, [], Value.pointer (some ⟨(pblk l_), (poff l_), none⟩))] (by kernel_rfl) (by kernel_rfl) ?_
          refine reg_run [.plain] 8 [(26, [], Value.int .i64 (IntKind.i64.wrap (v25 + 1))), (28, [], Value.pointer (some ⟨(pblk l_), (poff l_) + 8, none⟩))] (by kernel_rfl) (by kernel_rfl) ?_
          obtain ⟨hc, h⟩ := h
          refine reg_store (t := 3) (a := (Go.Operand.tmp 28)) (x := (Go.Operand.tmp 26)) (b := (pblk l_)) (o := ((poff l_) + 8)) (ty := 0) (dst := none) [Value.int .i64 (IntKind.i64.wrap (v25 + 1))] (by kernel_rfl) (by kernel_rfl) (by kernel_rfl) (k := 1) (by kernel_rfl) (by kernel_rfl) (by kernel_rfl) hc (fun w2 hw => ?_)
          replace h := h w2 hw
          clear hw
          refine reg_end [] (by kernel_rfl) (by kernel_rfl) ?_
          change WpE _ _ c_towpathref14_Lane_Acked_26 _ _ _
          refine wpE_seq (x := c_towpathref14_Lane_Acked_27) (y := c_towpathref14_Lane_Acked_29) (by kernel_rfl) ?_
          refine wpE_region (id := 6) (ops := r_towpathref14_Lane_Acked_27) (by kernel_rfl) ?_
          refine reg_run [.plain] 1 [(2, [], Value.int .i64 0)] (by kernel_rfl) (by kernel_rfl) ?_
          refine reg_end [(2, Value.int .i64 0)] (by kernel_rfl) (by kernel_rfl) ?_
          change WpE _ _ c_towpathref14_Lane_Acked_29 _ _ _
          refine wpE_ret (by kernel_rfl) ?_
          repeat (first | refine seqQ_ret ?_ | refine blockQ_ret ?_ | refine loopQ_ret ?_ | refine cutQ_ret ?_)
          exact retS (rs := [(Go.ResultVar.tmp 2)]) (v := Value.int .i64 0) (by kernel_rfl) (⟨by kernel_rfl, trivial⟩) ⟨0, rfl, h⟩
  · rintro e w' ⟨v, rfl, r0, rfl, h⟩; exact ⟨r0, rfl, h⟩

/-! ### (*towpath/towpathref14.Lane).Done (function 55) -/
noncomputable def c_towpathref14_Lane_Done_0 : Code := (Try.f55.body).getD Code.skip
noncomputable def c_towpathref14_Lane_Done_1 : Code := Code.l c_towpathref14_Lane_Done_0
noncomputable def r_towpathref14_Lane_Done_1 : Array Oper := Code.ops c_towpathref14_Lane_Done_1
noncomputable def c_towpathref14_Lane_Done_3 : Code := Code.r c_towpathref14_Lane_Done_0
noncomputable def c_towpathref14_Lane_Done_4 : Code := Code.l c_towpathref14_Lane_Done_3
noncomputable def c_towpathref14_Lane_Done_5 : Code := Code.l c_towpathref14_Lane_Done_4
noncomputable def r_towpathref14_Lane_Done_5 : Array Oper := Code.ops c_towpathref14_Lane_Done_5
noncomputable def c_towpathref14_Lane_Done_7 : Code := Code.r c_towpathref14_Lane_Done_4
noncomputable def c_towpathref14_Lane_Done_8 : Code := Code.l c_towpathref14_Lane_Done_7
noncomputable def c_towpathref14_Lane_Done_9 : Code := Code.l c_towpathref14_Lane_Done_8
noncomputable def r_towpathref14_Lane_Done_9 : Array Oper := Code.ops c_towpathref14_Lane_Done_9
noncomputable def c_towpathref14_Lane_Done_11 : Code := Code.r c_towpathref14_Lane_Done_8
noncomputable def c_towpathref14_Lane_Done_12 : Code := Code.r c_towpathref14_Lane_Done_7
noncomputable def c_towpathref14_Lane_Done_13 : Code := Code.r c_towpathref14_Lane_Done_3
noncomputable def c_towpathref14_Lane_Done_14 : Code := Code.l c_towpathref14_Lane_Done_13
noncomputable def c_towpathref14_Lane_Done_15 : Code := Code.l c_towpathref14_Lane_Done_14
noncomputable def r_towpathref14_Lane_Done_15 : Array Oper := Code.ops c_towpathref14_Lane_Done_15
noncomputable def c_towpathref14_Lane_Done_17 : Code := Code.r c_towpathref14_Lane_Done_14
noncomputable def c_towpathref14_Lane_Done_18 : Code := Code.l c_towpathref14_Lane_Done_17
noncomputable def c_towpathref14_Lane_Done_19 : Code := Code.l c_towpathref14_Lane_Done_18
noncomputable def r_towpathref14_Lane_Done_19 : Array Oper := Code.ops c_towpathref14_Lane_Done_19
noncomputable def c_towpathref14_Lane_Done_21 : Code := Code.r c_towpathref14_Lane_Done_18
noncomputable def c_towpathref14_Lane_Done_22 : Code := Code.r c_towpathref14_Lane_Done_17
noncomputable def c_towpathref14_Lane_Done_23 : Code := Code.r c_towpathref14_Lane_Done_13
noncomputable def c_towpathref14_Lane_Done_24 : Code := Code.l c_towpathref14_Lane_Done_23
noncomputable def c_towpathref14_Lane_Done_25 : Code := Code.l c_towpathref14_Lane_Done_24
noncomputable def r_towpathref14_Lane_Done_25 : Array Oper := Code.ops c_towpathref14_Lane_Done_25
noncomputable def c_towpathref14_Lane_Done_27 : Code := Code.r c_towpathref14_Lane_Done_24
noncomputable def c_towpathref14_Lane_Done_28 : Code := Code.l c_towpathref14_Lane_Done_27
noncomputable def c_towpathref14_Lane_Done_29 : Code := Code.l c_towpathref14_Lane_Done_28
noncomputable def r_towpathref14_Lane_Done_29 : Array Oper := Code.ops c_towpathref14_Lane_Done_29
noncomputable def c_towpathref14_Lane_Done_31 : Code := Code.r c_towpathref14_Lane_Done_28
noncomputable def c_towpathref14_Lane_Done_32 : Code := Code.r c_towpathref14_Lane_Done_27
noncomputable def c_towpathref14_Lane_Done_33 : Code := Code.r c_towpathref14_Lane_Done_23
noncomputable def c_towpathref14_Lane_Done_34 : Code := Code.l c_towpathref14_Lane_Done_33
noncomputable def r_towpathref14_Lane_Done_34 : Array Oper := Code.ops c_towpathref14_Lane_Done_34
noncomputable def c_towpathref14_Lane_Done_36 : Code := Code.r c_towpathref14_Lane_Done_33
noncomputable def c_towpathref14_Lane_Done_37 : Code := Code.l c_towpathref14_Lane_Done_36
noncomputable def r_towpathref14_Lane_Done_37 : Array Oper := Code.ops c_towpathref14_Lane_Done_37
noncomputable def c_towpathref14_Lane_Done_39 : Code := Code.r c_towpathref14_Lane_Done_36
noncomputable def c_towpathref14_Lane_Done_40 : Code := Code.l c_towpathref14_Lane_Done_39
noncomputable def r_towpathref14_Lane_Done_40 : Array Oper := Code.ops c_towpathref14_Lane_Done_40
noncomputable def c_towpathref14_Lane_Done_42 : Code := Code.r c_towpathref14_Lane_Done_39

set_option maxRecDepth 100000 in
set_option maxHeartbeats 4000000 in
theorem S_towpathref14_Lane_Done {l_ : Option Addr} {w : World} {R : Int → Int → World → Prop} (h : F_towpathref14_Lane_Done l_ R w) : C_towpathref14_Lane_Done l_ w R := by
  unfold F_towpathref14_Lane_Done at h
  unfold C_towpathref14_Lane_Done
  refine Calls.mono (calls_of_wpE (args := [Value.pointer l_]) (R := fun v w' => ∃ (r0 : Int) (r1 : Int), v = Value.tuple #[Value.int .i64 r0, Value.int .i64 r1] ∧ R r0 r1 w') Try.func55 (c := c_towpathref14_Lane_Done_0) (by kernel_rfl) 23 (by kernel_rfl) (by kernel_rfl) [(0, Value.pointer l_)] (by kernel_rfl) ?_) ?_
  · refine wpE_seq (x := c_towpathref14_Lane_Done_1) (y := c_towpathref14_Lane_Done_3) (by kernel_rfl) ?_
    refine wpE_region (id := 0) (ops := r_towpathref14_Lane_Done_1) (by kernel_rfl) ?_
    refine reg_run [.plain, .plain] 2 [(0, [], Value.pointer l_)] (by kernel_rfl) (by kernel_rfl) ?_
    refine reg_end [(0, Value.pointer l_)] (by kernel_rfl) (by kernel_rfl) ?_
    change WpE _ _ c_towpathref14_Lane_Done_3 _ _ _
    refine wpE_seq (x := c_towpathref14_Lane_Done_4) (y := c_towpathref14_Lane_Done_13) (by kernel_rfl) ?_
    refine wpE_seq (x := c_towpathref14_Lane_Done_5) (y := c_towpathref14_Lane_Done_7) (by kernel_rfl) ?_
    refine wpE_region (id := 1) (ops := r_towpathref14_Lane_Done_5) (by kernel_rfl) ?_
    refine reg_run [.plain] 1 [(0, [], Value.pointer l_), (5, [], Value.pointer l_)] (by kernel_rfl) (by kernel_rfl) ?_
    refine reg_val (op := (Go.Op.binOp Go.BinOp.eql 41 (Go.Operand.tmp 5) (Go.Operand.const (Go.Value.pointer none)) 41)) (ty := 4) (dst := some 6) (Value.bool l_.isNone) (by kernel_rfl) (fun ww => run_ptr_eql_R (p := l_) (by kernel_rfl) (by kernel_rfl) (by kernel_rfl) ww) ?_
    refine reg_end [(0, Value.pointer l_), (6, Value.bool l_.isNone)] (by kernel_rfl) (by kernel_rfl) ?_
    change WpE _ _ c_towpathref14_Lane_Done_7 _ _ _
    refine wpE_cond (o := (Operand.tmp 6)) (b := l_.isNone) (x := c_towpathref14_Lane_Done_8) (y := c_towpathref14_Lane_Done_12) (by kernel_rfl) (by kernel_rfl) (fun hb => ?_) (fun hb => ?_)
    · replace h := h.1 hb
      refine wpE_seq (x := c_towpathref14_Lane_Done_9) (y := c_towpathref14_Lane_Done_11) (by kernel_rfl) ?_
      refine wpE_region (id := 2) (ops := r_towpathref14_Lane_Done_9) (by kernel_rfl) ?_
      refine reg_run [.plain, .plain] 2 [(2, [], Value.int .i64 0), (3, [], Value.int .i64 2)] (by kernel_rfl) (by kernel_rfl) ?_
      refine reg_end [(2, Value.int .i64 0), (3, Value.int .i64 2)] (by kernel_rfl) (by kernel_rfl) ?_
      change WpE _ _ c_towpathref14_Lane_Done_11 _ _ _
      refine wpE_ret (by kernel_rfl) ?_
      repeat (first | refine seqQ_ret ?_ | refine blockQ_ret ?_ | refine loopQ_ret ?_ | refine cutQ_ret ?_)
      exact retT (rs := [(Go.ResultVar.tmp 2), (Go.ResultVar.tmp 3)]) (vs := [Value.int .i64 0, Value.int .i64 2]) (by kernel_rfl) (⟨by kernel_rfl, ⟨by kernel_rfl, trivial⟩⟩) (by kernel_rfl) ⟨0, 2, rfl, h⟩
    · replace h := h.2 hb
      refine wpE_skip (by kernel_rfl) ?_
      change WpE _ _ c_towpathref14_Lane_Done_13 _ _ _
      refine wpE_seq (x := c_towpathref14_Lane_Done_14) (y := c_towpathref14_Lane_Done_23) (by kernel_rfl) ?_
      refine wpE_seq (x := c_towpathref14_Lane_Done_15) (y := c_towpathref14_Lane_Done_17) (by kernel_rfl) ?_
      refine wpE_region (id := 3) (ops := r_towpathref14_Lane_Done_15) (by kernel_rfl) ?_
      refine reg_run [.plain] 1 [(0, [], Value.pointer l_), (7, [], Value.pointer l_)] (by kernel_rfl) (by kernel_rfl) ?_
      obtain ⟨hp_3, h⟩ := h
      refine reg_conv [(0, [], Value.pointer l_), (7, [], Value.pointer (some ⟨(pblk l_), (poff l_), none⟩))] (congrArg (fun pp => ([(0, [], Value.pointer l_), (7, [], Value.pointer pp)] : GEnv)) hp_3) ?_
      refine reg_run [.plain] 2 [(0, [], Value.pointer l_), (7, [], Value.pointer (some ⟨(pblk l_), (poff l_), none⟩)), (8, [], Value.pointer (some ⟨(pblk l_), (poff l_), none⟩))] (by kernel_rfl) (by kernel_rfl) ?_
      refine reg_run [.plain] 3 [(0, [], Value.pointer l_), (9, [], Value.pointer (some ⟨(pblk l_), (poff l_) + 5, none⟩))] (by kernel_rfl) (by kernel_rfl) ?_
      obtain ⟨v10, hc, h⟩ := h
      refine reg_load1 (t := 3) (a := (Go.Operand.tmp 9)) (b := (pblk l_)) (o := ((poff l_) + 5)) (ty := 3) (dst := some 10) (by kernel_rfl) (by kernel_rfl) (by kernel_rfl) hc ?_
      refine reg_run [.plain] 5 [(0, [], Value.pointer l_), (11, [], Value.bool (v10 == 0))] (by kernel_rfl) (by kernel_rfl) ?_
      refine reg_end [(0, Value.pointer l_), (11, Value.bool (v10 == 0))] (by kernel_rfl) (by kernel_rfl) ?_
      change WpE _ _ c_towpathref14_Lane_Done_17 _ _ _
      refine wpE_cond (o := (Operand.tmp 11)) (b := (v10 == 0)) (x := c_towpathref14_Lane_Done_18) (y := c_towpathref14_Lane_Done_22) (by kernel_rfl) (by kernel_rfl) (fun hb => ?_) (fun hb => ?_)
      · replace h := h.1 hb
        refine wpE_seq (x := c_towpathref14_Lane_Done_19) (y := c_towpathref14_Lane_Done_21) (by kernel_rfl) ?_
        refine wpE_region (id := 4) (ops := r_towpathref14_Lane_Done_19) (by kernel_rfl) ?_
        refine reg_run [.plain, .plain] 2 [(2, [], Value.int .i64 0), (3, [], Value.int .i64 9)] (by kernel_rfl) (by kernel_rfl) ?_
        refine reg_end [(2, Value.int .i64 0), (3, Value.int .i64 9)] (by kernel_rfl) (by kernel_rfl) ?_
        change WpE _ _ c_towpathref14_Lane_Done_21 _ _ _
        refine wpE_ret (by kernel_rfl) ?_
        repeat (first | refine seqQ_ret ?_ | refine blockQ_ret ?_ | refine loopQ_ret ?_ | refine cutQ_ret ?_)
        exact retT (rs := [(Go.ResultVar.tmp 2), (Go.ResultVar.tmp 3)]) (vs := [Value.int .i64 0, Value.int .i64 9]) (by kernel_rfl) (⟨by kernel_rfl, ⟨by kernel_rfl, trivial⟩⟩) (by kernel_rfl) ⟨0, 9, rfl, h⟩
      · replace h := h.2 hb
        refine wpE_skip (by kernel_rfl) ?_
        change WpE _ _ c_towpathref14_Lane_Done_23 _ _ _
        refine wpE_seq (x := c_towpathref14_Lane_Done_24) (y := c_towpathref14_Lane_Done_33) (by kernel_rfl) ?_
        refine wpE_seq (x := c_towpathref14_Lane_Done_25) (y := c_towpathref14_Lane_Done_27) (by kernel_rfl) ?_
        refine wpE_region (id := 5) (ops := r_towpathref14_Lane_Done_25) (by kernel_rfl) ?_
        refine reg_run [.plain] 1 [(0, [], Value.pointer l_), (12, [], Value.pointer l_)] (by kernel_rfl) (by kernel_rfl) ?_
        refine reg_enter (op := (Go.Op.call (Go.Call.mk (Go.Callee.value (Go.Operand.func 58)) #[(Go.Operand.tmp 12)] #[41]))) (ty := 4) (dst := some 13) 58 #[Value.pointer l_] (by kernel_rfl) (fun ww => by kernel_rfl) (Calls.mono h ?_)
        rintro _ w1 ⟨v13, rfl, h⟩
        refine ⟨_, rfl, ?_⟩
        refine reg_run [.plain] 3 [(0, [], Value.pointer l_), (14, [], Value.bool (!v13))] (by kernel_rfl) (by kernel_rfl) ?_
        refine reg_end [(0, Value.pointer l_), (14, Value.bool (!v13))] (by kernel_rfl) (by kernel_rfl) ?_
        change WpE _ _ c_towpathref14_Lane_Done_27 _ _ _
        refine wpE_cond (o := (Operand.tmp 14)) (b := (!v13)) (x := c_towpathref14_Lane_Done_28) (y := c_towpathref14_Lane_Done_32) (by kernel_rfl) (by kernel_rfl) (fun hb => ?_) (fun hb => ?_)
        · replace h := h.1 hb
          refine wpE_seq (x := c_towpathref14_Lane_Done_29) (y := c_towpathref14_Lane_Done_31) (by kernel_rfl) ?_
          refine wpE_region (id := 6) (ops := r_towpathref14_Lane_Done_29) (by kernel_rfl) ?_
          refine reg_run [.plain, .plain] 2 [(2, [], Value.int .i64 0), (3, [], Value.int .i64 10)] (by kernel_rfl) (by kernel_rfl) ?_
          refine reg_end [(2, Value.int .i64 0), (3, Value.int .i64 10)] (by kernel_rfl) (by kernel_rfl) ?_
          change WpE _ _ c_towpathref14_Lane_Done_31 _ _ _
          refine wpE_ret (by kernel_rfl) ?_
          repeat (first | refine seqQ_ret ?_ | refine blockQ_ret ?_ | refine loopQ_ret ?_ | refine cutQ_ret ?_)
          exact retT (rs := [(Go.ResultVar.tmp 2), (Go.ResultVar.tmp 3)]) (vs := [Value.int .i64 0, Value.int .i64 10]) (by kernel_rfl) (⟨by kernel_rfl, ⟨by kernel_rfl, trivial⟩⟩) (by kernel_rfl) ⟨0, 10, rfl, h⟩
        · replace h := h.2 hb
          refine wpE_skip (by kernel_rfl) ?_
          change WpE _ _ c_towpathref14_Lane_Done_33 _ _ _
          refine wpE_seq (x := c_towpathref14_Lane_Done_34) (y := c_towpathref14_Lane_Done_36) (by kernel_rfl) ?_
          refine wpE_region (id := 7) (ops := r_towpathref14_Lane_Done_34) (by kernel_rfl) ?_
          refine reg_run [.plain] 1 [(0, [], Value.pointer l_), (15, [], Value.pointer l_)] (by kernel_rfl) (by kernel_rfl) ?_
          obtain ⟨hp_5, h⟩ := h
          refine reg_conv [(0, [], Value.pointer l_), (15, [], Value.pointer (some ⟨(pblk l_), (poff l_), none⟩))] (congrArg (fun pp => ([(0, [], Value.pointer l_), (15, [], Value.pointer pp)] : GEnv)) hp_5) ?_
          refine reg_run [.plain] 2 [(0, [], Value.pointer l_), (15, [], Value.pointer (some ⟨(pblk l_), (poff l_), none⟩)), (16, [], Value.pointer (some ⟨(pblk l_), (poff l_), none⟩))] (by kernel_rfl) (by kernel_rfl) ?_
          refine reg_run [.plain] 3 [(0, [], Value.pointer l_), (17, [], Value.pointer (some ⟨(pblk l_), (poff l_) + 5, none⟩))] (by kernel_rfl) (by kernel_rfl) ?_
          obtain ⟨n_, hc, h⟩ := h
          refine reg_load1 (t := 3) (a := (Go.Operand.tmp 17)) (b := (pblk l_)) (o := ((poff l_) + 5)) (ty := 3) (dst := some 18) (by kernel_rfl) (by kernel_rfl) (by kernel_rfl) hc ?_
          refine reg_run [.plain] 5 [(0, [], Value.pointer l_), (4, [], Value.int .i64 n_)] (by kernel_rfl) (by kernel_rfl) ?_
          refine reg_end [(0, Value.pointer l_), (4, Value.int .i64 n_)] (by kernel_rfl) (by kernel_rfl) ?_
          change WpE _ _ c_towpathref14_Lane_Done_36 _ _ _
          refine wpE_seq (x := c_towpathref14_Lane_Done_37) (y := c_towpathref14_Lane_Done_39) (by kernel_rfl) ?_
          refine wpE_region (id := 8) (ops := r_towpathref14_Lane_Done_37) (by kernel_rfl) ?_
          refine reg_run [.plain] 1 [(4, [], Value.int .i64 n_), (19, [], Value.pointer l_)] (by kernel_rfl) (by kernel_rfl) ?_
          obtain ⟨hp_7, h⟩ := h
          refine reg_conv [(4, [], Value.int .i64 n_), (19, [], Value.pointer (some ⟨(pblk l_), (poff l_), none⟩))] (congrArg (fun pp => ([(4, [], Value.int .i64 n_), (19, [], Value.pointer pp)] : GEnv)) hp_7) ?_
          refine reg_run [.plain] 2 [(4, [], Value.int .i64 n_), (19, [], Value.pointer (some ⟨(pblk l_), (poff l_), none⟩)), (20, [], Value.pointer (some ⟨(pblk l_), (poff l_), none⟩))] (by kernel_rfl) (by kernel_rfl) ?_
          refine reg_run [.plain] 3 [(4, [], Value.int .i64 n_), (21, [], Value.pointer (some ⟨(pblk l_), (poff l_) + 5, none⟩))] (by kernel_rfl) (by kernel_rfl) ?_
          obtain ⟨hc, h⟩ := h
          refine reg_store (t := 3) (a := (Go.Operand.tmp 21)) (x := (Go.Operand.const (Go.Value.int Go.IntKind.i64 0))) (b := (pblk l_)) (o := ((poff l_) + 5)) (ty := 0) (dst := none) [Value.int .i64 0] (by kernel_rfl) (by kernel_rfl) (by kernel_rfl) (k := 1) (by kernel_rfl) (by kernel_rfl) (by kernel_rfl) hc (fun w2 hw => ?_)
          replace h := h w2 hw
          clear hw
          refine reg_end [(4, Value.int .i64 n_)] (by kernel_rfl) (by kernel_rfl) ?_
          change WpE _ _ c_towpathref14_Lane_Done_39 _ _ _
          refine wpE_seq (x := c_towpathref14_Lane_Done_40) (y := c_towpathref14_Lane_Done_42) (by kernel_rfl) ?_
          refine wpE_region (id := 9) (ops := r_towpathref14_Lane_Done_40) (by kernel_rfl) ?_
          refine reg_run [.plain, .plain, .plain] 3 [(2, [], Value.int .i64 n_), (3, [], Value.int .i64 0)] (by kernel_rfl) (by kernel_rfl) ?_
          refine reg_end [(2, Value.int .i64 n_), (3, Value.int .i64 0)] (by kernel_rfl) (by kernel_rfl) ?_
          change WpE _ _ c_towpathref14_Lane_Done_42 _ _ _
          refine wpE_ret (by kernel_rfl) ?_
          repeat (first | refine seqQ_ret ?_ | refine blockQ_ret ?_ | refine loopQ_ret ?_ | refine cutQ_ret ?_)
          exact retT (rs := [(Go.ResultVar.tmp 2), (Go.ResultVar.tmp 3)]) (vs := [Value.int .i64 n_, Value.int .i64 0]) (by kernel_rfl) (⟨by kernel_rfl, ⟨by kernel_rfl, trivial⟩⟩) (by kernel_rfl) ⟨n_, 0, rfl, h⟩
  · rintro e w' ⟨v, rfl, r0, r1, rfl, h⟩; exact ⟨r0, r1, rfl, h⟩

/-! ### (*towpath/towpathref14.Lane).Next (function 56) -/
noncomputable def c_towpathref14_Lane_Next_0 : Code := (Try.f56.body).getD Code.skip
noncomputable def c_towpathref14_Lane_Next_1 : Code := Code.l c_towpathref14_Lane_Next_0
noncomputable def r_towpathref14_Lane_Next_1 : Array Oper := Code.ops c_towpathref14_Lane_Next_1
noncomputable def c_towpathref14_Lane_Next_3 : Code := Code.r c_towpathref14_Lane_Next_0
noncomputable def c_towpathref14_Lane_Next_4 : Code := Code.l c_towpathref14_Lane_Next_3
noncomputable def c_towpathref14_Lane_Next_5 : Code := Code.l c_towpathref14_Lane_Next_4
noncomputable def r_towpathref14_Lane_Next_5 : Array Oper := Code.ops c_towpathref14_Lane_Next_5
noncomputable def c_towpathref14_Lane_Next_7 : Code := Code.r c_towpathref14_Lane_Next_4
noncomputable def c_towpathref14_Lane_Next_8 : Code := Code.l c_towpathref14_Lane_Next_7
noncomputable def c_towpathref14_Lane_Next_9 : Code := Code.l c_towpathref14_Lane_Next_8
noncomputable def r_towpathref14_Lane_Next_9 : Array Oper := Code.ops c_towpathref14_Lane_Next_9
noncomputable def c_towpathref14_Lane_Next_11 : Code := Code.r c_towpathref14_Lane_Next_8
noncomputable def c_towpathref14_Lane_Next_12 : Code := Code.r c_towpathref14_Lane_Next_7
noncomputable def c_towpathref14_Lane_Next_13 : Code := Code.r c_towpathref14_Lane_Next_3
noncomputable def c_towpathref14_Lane_Next_14 : Code := Code.l c_towpathref14_Lane_Next_13
noncomputable def r_towpathref14_Lane_Next_14 : Array Oper := Code.ops c_towpathref14_Lane_Next_14
noncomputable def c_towpathref14_Lane_Next_16 : Code := Code.r c_towpathref14_Lane_Next_13
noncomputable def c_towpathref14_Lane_Next_17 : Code := Code.l c_towpathref14_Lane_Next_16
noncomputable def r_towpathref14_Lane_Next_17 : Array Oper := Code.ops c_towpathref14_Lane_Next_17
noncomputable def c_towpathref14_Lane_Next_19 : Code := Code.r c_towpathref14_Lane_Next_16
noncomputable def c_towpathref14_Lane_Next_20 : Code := Code.l c_towpathref14_Lane_Next_19
noncomputable def r_towpathref14_Lane_Next_20 : Array Oper := Code.ops c_towpathref14_Lane_Next_20
noncomputable def c_towpathref14_Lane_Next_22 : Code := Code.r c_towpathref14_Lane_Next_19
def o_towpathref14_Lane_Next_14 : List Nat := [0, 1, 2, 3, 4, 5, 6, 7, 8, 9, 10, 11]
def o_towpathref14_Lane_Next_17 : List Nat := [0, 1, 2, 3, 4, 5, 6, 7, 8, 9, 10, 11]

set_option maxRecDepth 100000 in
set_option maxHeartbeats 4000000 in
theorem S_towpathref14_Lane_Next {l_ : Option Addr} {w : World} {R : Int → T_api_Req → Bool → World → Prop} (h : F_towpathref14_Lane_Next l_ R w) : C_towpathref14_Lane_Next l_ w R := by
  unfold F_towpathref14_Lane_Next at h
  unfold C_towpathref14_Lane_Next
  refine Calls.mono (calls_of_wpE (args := [Value.pointer l_]) (R := fun v w' => ∃ (r0 : Int) (r1 : T_api_Req) (r2 : Bool), v = Value.tuple #[Value.int .i64 r0, Value.agg #[Value.int .u8 r1.Kind, Value.int .i64 r1.From, Value.int .i64 r1.Number, Value.string r1.Write.Key, Value.string r1.Write.Val, Value.bool r1.Write.Drop, Value.string r1.Key, Value.string r1.End, Value.slice r1.Beyond.ptr r1.Beyond.len r1.Beyond.cap], Value.bool r2] ∧ R r0 r1 r2 w') Try.func56 (c := c_towpathref14_Lane_Next_0) (by kernel_rfl) 61 (by kernel_rfl) (by kernel_rfl) [(0, Value.pointer l_)] (by kernel_rfl) ?_) ?_
  · refine wpE_seq (x := c_towpathref14_Lane_Next_1) (y := c_towpathref14_Lane_Next_3) (by kernel_rfl) ?_
    refine wpE_region (id := 0) (ops := r_towpathref14_Lane_Next_1) (by kernel_rfl) ?_
    refine reg_run [.plain] 1 [(0, [], Value.pointer l_)] (by kernel_rfl) (by kernel_rfl) ?_
    refine reg_new (op := (Go.Op.alloc 65)) (ty := 0) (dst := some 3) (fun bb => Value.pointer (some ⟨bb, 0, none⟩)) (Obj.cells ([Value.int .u8 0, Value.int .i64 0, Value.int .i64 0, Value.string ByteArray.empty, Value.string ByteArray.empty, Value.bool false, Value.string ByteArray.empty, Value.string ByteArray.empty, Value.slice none 0 0]).toArray ty_api_Req (0, 0)) (by kernel_rfl) (by kernel_rfl) (fun b_ w1 hb hw => ?_)
    replace h := h b_ w1 hb hw
    clear hb hw
    refine reg_run [.plain] 3 [(0, [], Value.pointer l_), (3, [], Value.pointer (some ⟨b_, 0, none⟩))] (by kernel_rfl) (by kernel_rfl) ?_
    refine reg_end [(0, Value.pointer l_), (3, Value.pointer (some ⟨b_, 0, none⟩))] (by kernel_rfl) (by kernel_rfl) ?_
    change WpE _ _ c_towpathref14_Lane_Next_3 _ _ _
    refine wpE_seq (x := c_towpathref14_Lane_Next_4) (y := c_towpathref14_Lane_Next_13) (by kernel_rfl) ?_
    refine wpE_seq_cut (x := c_towpathref14_Lane_Next_5) (y := c_towpathref14_Lane_Next_7) (by kernel_rfl) (fun l w => ∃ (t28 : Bool), l = [(0, Value.pointer l_), (3, Value.pointer (some ⟨b_, 0, none⟩)), (28, Value.bool t28)] ∧ F_towpathref14_Lane_Next_k0 l_ R b_ t28 w) ?_ ?_
    · refine wpE_drawregion (id := 1) (ops := r_towpathref14_Lane_Next_5) (by kernel_rfl) (by kernel_rfl) (by kernel_rfl) ?_
      refine qreg_run [.plain] 1 [(0, [], Value.pointer l_), (3, [], Value.pointer (some ⟨b_, 0, none⟩)), (8, [], Value.pointer l_)] (by kernel_rfl) (by kernel_rfl) ?_
      refine qreg_val (op := (Go.Op.binOp Go.BinOp.eql 41 (Go.Operand.tmp 8) (Go.Operand.const (Go.Value.pointer none)) 41)) (ty := 4) (dst := some 9) (Value.bool l_.isNone) (by kernel_rfl) (fun ww => run_ptr_eql_R (p := l_) (by kernel_rfl) (by kernel_rfl) (by kernel_rfl) ww) ?_
      refine qreg_run [.plain, .plain] 4 [(0, [], Value.pointer l_), (3, [], Value.pointer (some ⟨b_, 0, none⟩)), (10, [], Value.bool l_.isNone), (11, [(10, false)], Value.pointer l_)] (by kernel_rfl) (by kernel_rfl) ?_
      refine qreg_split 10 l_.isNone (by kernel_rfl) (fun hb => ?_) (fun hb => ?_)
      · replace h := h.1 hb
        refine qreg_run [] 4 [(0, [], Value.pointer l_), (3, [], Value.pointer (some ⟨b_, 0, none⟩)), (10, [], Value.bool true), (11, [], undef)] (by kernel_rfl) (by kernel_rfl) ?_
        refine qreg_run [.skip, .skip, .skip, .skip, .plain, .plain, .skip, .skip, .skip, .skip, .skip, .skip, .skip, .skip, .skip, .skip, .plain] 21 [(0, [], Value.pointer l_), (3, [], Value.pointer (some ⟨b_, 0, none⟩)), (28, [], Value.bool true)] (by kernel_rfl) (by kernel_rfl) ?_
        refine qreg_end [(0, Value.pointer l_), (3, Value.pointer (some ⟨b_, 0, none⟩)), (28, Value.bool true)] (by kernel_rfl) (by kernel_rfl) (fun w11 hw => ?_)
        replace h := h w11 hw
        clear hw
        exact ⟨[(0, Value.pointer l_), (3, Value.pointer (some ⟨b_, 0, none⟩)), (28, Value.bool true)], Sub.mk (by kernel_rfl), true, rfl, h⟩
      · replace h := h.2 hb
        refine qreg_run [] 4 [(0, [], Value.pointer l_), (3, [], Value.pointer (some ⟨b_, 0, none⟩)), (10, [], Value.bool false), (11, [], Value.pointer l_)] (by kernel_rfl) (by kernel_rfl) ?_
        refine qreg_run [] 4 [(0, [], Value.pointer l_), (3, [], Value.pointer (some ⟨b_, 0, none⟩)), (10, [], Value.bool false), (11, [], Value.pointer l_)] (by kernel_rfl) (by kernel_rfl) ?_
        obtain ⟨hp_19, h⟩ := h
        refine qreg_conv [(0, [], Value.pointer l_), (3, [], Value.pointer (some ⟨b_, 0, none⟩)), (10, [], Value.bool false), (11, [], Value.pointer (some ⟨(pblk l_), (poff l_), none⟩))] (congrArg (fun pp => ([(0, [], Value.pointer l_), (3, [], Value.pointer (some ⟨b_, 0, none⟩)), (10, [], Value.bool false), (11, [], Value.pointer pp)] : GEnv)) hp_19) ?_
        refine qreg_run [.sure] 5 [(0, [], Value.pointer l_), (3, [], Value.pointer (some ⟨b_, 0, none⟩)), (10, [], Value.bool false), (11, [], Value.pointer (some ⟨(pblk l_), (poff l_), none⟩)), (12, [], Value.pointer (some ⟨(pblk l_), (poff l_), none⟩))] (by kernel_rfl) (by kernel_rfl) ?_
        refine qreg_run [.sure] 6 [(0, [], Value.pointer l_), (3, [], Value.pointer (some ⟨b_, 0, none⟩)), (10, [], Value.bool false), (13, [], Value.pointer (some ⟨(pblk l_), (poff l_) + 5, none⟩))] (by kernel_rfl) (by kernel_rfl) ?_
        obtain ⟨v14, hc, h⟩ := h
        refine qreg_load1 (t := 3) (a := (Go.Operand.tmp 13)) (b := (pblk l_)) (o := ((poff l_) + 5)) (ty := 3) (dst := some 14) (by kernel_rfl) (by kernel_rfl) (by kernel_rfl) hc ?_
        refine qreg_run [.sure, .plain, .plain, .plain] 11 [(0, [], Value.pointer l_), (3, [], Value.pointer (some ⟨b_, 0, none⟩)), (17, [], Value.bool (v14 == 0)), (18, [(17, false)], Value.pointer l_)] (by kernel_rfl) (by kernel_rfl) ?_
        refine qreg_split 17 (v14 == 0) (by kernel_rfl) (fun hb => ?_) (fun hb => ?_)
        · replace h := h.1 hb
          refine qreg_run [] 11 [(0, [], Value.pointer l_), (3, [], Value.pointer (some ⟨b_, 0, none⟩)), (17, [], Value.bool true), (18, [], undef)] (by kernel_rfl) (by kernel_rfl) ?_
          refine qreg_run [.skip, .skip, .skip, .skip, .skip, .skip, .skip, .skip, .skip, .plain] 21 [(0, [], Value.pointer l_), (3, [], Value.pointer (some ⟨b_, 0, none⟩)), (28, [], Value.bool true)] (by kernel_rfl) (by kernel_rfl) ?_
          refine qreg_end [(0, Value.pointer l_), (3, Value.pointer (some ⟨b_, 0, none⟩)), (28, Value.bool true)] (by kernel_rfl) (by kernel_rfl) (fun w12 hw => ?_)
          replace h := h w12 hw
          clear hw
          exact ⟨[(0, Value.pointer l_), (3, Value.pointer (some ⟨b_, 0, none⟩)), (28, Value.bool true)], Sub.mk (by kernel_rfl), true, rfl, h⟩
        · replace h := h.2 hb
          refine qreg_run [] 11 [(0, [], Value.pointer l_), (3, [], Value.pointer (some ⟨b_, 0, none⟩)), (17, [], Value.bool false), (18, [], Value.pointer l_)] (by kernel_rfl) (by kernel_rfl) ?_
          refine qreg_run [] 11 [(0, [], Value.pointer l_), (3, [], Value.pointer (some ⟨b_, 0, none⟩)), (17, [], Value.bool false), (18, [], Value.pointer l_)] (by kernel_rfl) (by kernel_rfl) ?_
          obtain ⟨hp_20, h⟩ := h
          refine qreg_conv [(0, [], Value.pointer l_), (3, [], Value.pointer (some ⟨b_, 0, none⟩)), (17, [], Value.bool false), (18, [], Value.pointer (some ⟨(pblk l_), (poff l_), none⟩))] (congrArg (fun pp => ([(0, [], Value.pointer l_), (3, [], Value.pointer (some ⟨b_, 0, none⟩)), (17, [], Value.bool false), (18, [], Value.pointer pp)] : GEnv)) hp_20) ?_
          refine qreg_run [.sure] 12 [(0, [], Value.pointer l_), (3, [], Value.pointer (some ⟨b_, 0, none⟩)), (17, [], Value.bool false), (18, [], Value.pointer (some ⟨(pblk l_), (poff l_), none⟩)), (19, [], Value.pointer (some ⟨(pblk l_), (poff l_), none⟩))] (by kernel_rfl) (by kernel_rfl) ?_
          refine qreg_run [.sure] 13 [(0, [], Value.pointer l_), (3, [], Value.pointer (some ⟨b_, 0, none⟩)), (17, [], Value.bool false), (20, [], Value.pointer (some ⟨(pblk l_), (poff l_) + 7, none⟩))] (by kernel_rfl) (by kernel_rfl) ?_
          obtain ⟨v21, hc, h⟩ := h
          refine qreg_load1 (t := 3) (a := (Go.Operand.tmp 20)) (b := (pblk l_)) (o := ((poff l_) + 7)) (ty := 3) (dst := some 21) (by kernel_rfl) (by kernel_rfl) (by kernel_rfl) hc ?_
          refine qreg_run [.sure] 15 [(0, [], Value.pointer l_), (3, [], Value.pointer (some ⟨b_, 0, none⟩)), (17, [], Value.bool false), (21, [], Value.int .i64 v21), (22, [], Value.pointer l_)] (by kernel_rfl) (by kernel_rfl) ?_
          obtain ⟨hp_21, h⟩ := h
          refine qreg_conv [(0, [], Value.pointer l_), (3, [], Value.pointer (some ⟨b_, 0, none⟩)), (17, [], Value.bool false), (21, [], Value.int .i64 v21), (22, [], Value.pointer (some ⟨(pblk l_), (poff l_), none⟩))] (congrArg (fun pp => ([(0, [], Value.pointer l_), (3, [], Value.pointer (some ⟨b_, 0, none⟩)), (17, [], Value.bool false), (21, [], Value.int .i64 v21), (22, [], Value.pointer pp)] : GEnv)) hp_21) ?_
          refine qreg_run [.sure] 16 [(0, [], Value.pointer l_), (3, [], Value.pointer (some ⟨b_, 0, none⟩)), (17, [], Value.bool false), (21, [], Value.int .i64 v21), (22, [], Value.pointer (some ⟨(pblk l_), (poff l_), none⟩)), (23, [], Value.pointer (some ⟨(pblk l_), (poff l_), none⟩))] (by kernel_rfl) (by kernel_rfl) ?_
          refine qreg_run [.sure] 17 [(0, [], Value.pointer l_), (3, [], Value.pointer (some ⟨b_, 0, none⟩)), (17, [], Value.bool false), (21, [], Value.int .i64 v21), (24, [], Value.pointer (some ⟨(pblk l_), (poff l_) + 6, none⟩))] (by kernel_rfl) (by kernel_rfl) ?_
          obtain ⟨v25, hc, h⟩ := h
          refine qreg_load1 (t := 25) (a := (Go.Operand.tmp 24)) (b := (pblk l_)) (o := ((poff l_) + 6)) (ty := 25) (dst := some 25) (by kernel_rfl) (by kernel_rfl) (by kernel_rfl) hc ?_
          refine qreg_run [.sure, .sure, .plain] 21 [(0, [], Value.pointer l_), (3, [], Value.pointer (some ⟨b_, 0, none⟩)), (28, [], Value.bool (v21 == ((v25.len : Nat) : Int)))] (by kernel_rfl) (by kernel_rfl) ?_
          refine qreg_end [(0, Value.pointer l_), (3, Value.pointer (some ⟨b_, 0, none⟩)), (28, Value.bool (v21 == ((v25.len : Nat) : Int)))] (by kernel_rfl) (by kernel_rfl) (fun w13 hw => ?_)
          replace h := h w13 hw
          clear hw
          exact ⟨[(0, Value.pointer l_), (3, Value.pointer (some ⟨b_, 0, none⟩)), (28, Value.bool (v21 == ((v25.len : Nat) : Int)))], Sub.mk (by kernel_rfl), (v21 == ((v25.len : Nat) : Int)), rfl, h⟩
    · rintro _ w2 ⟨t28, rfl, h⟩
      unfold F_towpathref14_Lane_Next_k0 at h
      refine wpE_cond (o := (Operand.tmp 28)) (b := t28) (x := c_towpathref14_Lane_Next_8) (y := c_towpathref14_Lane_Next_12) (by kernel_rfl) (by kernel_rfl) (fun hb => ?_) (fun hb => ?_)
      · replace h := h.1 hb
        refine wpE_seq (x := c_towpathref14_Lane_Next_9) (y := c_towpathref14_Lane_Next_11) (by kernel_rfl) ?_
        refine wpE_region (id := 2) (ops := r_towpathref14_Lane_Next_9) (by kernel_rfl) ?_
        refine reg_run [.plain, .plain] 2 [(2, [], Value.int .i64 0), (3, [], Value.pointer (some ⟨b_, 0, none⟩)), (29, [], Value.agg #[Value.int .u8 0, Value.int .i64 0, Value.int .i64 0, Value.string ByteArray.empty, Value.string ByteArray.empty, Value.bool false, Value.string ByteArray.empty, Value.string ByteArray.empty, Value.slice none 0 0])] (by kernel_rfl) (by kernel_rfl) ?_
        obtain ⟨hc, h⟩ := h
        refine reg_store (t := 65) (a := (Go.Operand.tmp 3)) (x := (Go.Operand.tmp 29)) (b := b_) (o := 0) (ty := 0) (dst := none) [Value.int .u8 0, Value.int .i64 0, Value.int .i64 0, Value.string ByteArray.empty, Value.string ByteArray.empty, Value.bool false, Value.string ByteArray.empty, Value.string ByteArray.empty, Value.slice none 0 0] (by kernel_rfl) (by kernel_rfl) (by kernel_rfl) (k := 9) (by kernel_rfl) (by kernel_rfl) (by kernel_rfl) hc (fun w3 hw => ?_)
        replace h := h w3 hw
        clear hw
        refine reg_run [.plain] 4 [(2, [], Value.int .i64 0), (3, [], Value.pointer (some ⟨b_, 0, none⟩)), (4, [], Value.bool false)] (by kernel_rfl) (by kernel_rfl) ?_
        refine reg_end [(2, Value.int .i64 0), (3, Value.pointer (some ⟨b_, 0, none⟩)), (4, Value.bool false)] (by kernel_rfl) (by kernel_rfl) ?_
        change WpE _ _ c_towpathref14_Lane_Next_11 _ _ _
        refine wpE_ret (by kernel_rfl) ?_
        obtain ⟨res, hc_res, h⟩ := h
        repeat (first | refine seqQ_ret ?_ | refine blockQ_ret ?_ | refine loopQ_ret ?_ | refine cutQ_ret ?_)
        exact retT (rs := [(Go.ResultVar.tmp 2), (Go.ResultVar.cell 3 65), (Go.ResultVar.tmp 4)]) (vs := [Value.int .i64 0, Value.agg #[Value.int .u8 res.Kind, Value.int .i64 res.From, Value.int .i64 res.Number, Value.string res.Write.Key, Value.string res.Write.Val, Value.bool res.Write.Drop, Value.string res.Key, Value.string res.End, Value.slice res.Beyond.ptr res.Beyond.len res.Beyond.cap], Value.bool false]) (by kernel_rfl) (⟨by kernel_rfl, ⟨b_, 0, [Value.int .u8 res.Kind, Value.int .i64 res.From, Value.int .i64 res.Number, Value.string res.Write.Key, Value.string res.Write.Val, Value.bool res.Write.Drop, Value.string res.Key, Value.string res.End, Value.slice res.Beyond.ptr res.Beyond.len res.Beyond.cap], by kernel_rfl, hc_res, (sizeP_of (k := 9) (by kernel_rfl) (by kernel_rfl)), .inl ⟨by kernel_rfl, rfl⟩, ⟨by kernel_rfl, trivial⟩⟩⟩) (by kernel_rfl) ⟨0, res, false, rfl, h⟩
      · replace h := h.2 hb
        refine wpE_skip (by kernel_rfl) ?_
        change WpE _ _ c_towpathref14_Lane_Next_13 _ _ _
        refine wpE_seq (x := c_towpathref14_Lane_Next_14) (y := c_towpathref14_Lane_Next_16) (by kernel_rfl) ?_
        refine wpE_mixregion (id := 3) (ops := r_towpathref14_Lane_Next_14) o_towpathref14_Lane_Next_14 (by kernel_rfl) (by kernel_rfl) (by kernel_rfl) (by kernel_rfl) (fun w4 hw => ?_)
        replace h := h w4 hw
        clear hw
        refine mreg_run [.plain] 1 [(0, [], Value.pointer l_), (3, [], Value.pointer (some ⟨b_, 0, none⟩)), (30, [], Value.pointer l_)] (by kernel_rfl) (by kernel_rfl) ?_
        obtain ⟨hp_12, h⟩ := h
        refine mreg_conv [(0, [], Value.pointer l_), (3, [], Value.pointer (some ⟨b_, 0, none⟩)), (30, [], Value.pointer (some ⟨(pblk l_), (poff l_), none⟩))] (congrArg (fun pp => ([(0, [], Value.pointer l_), (3, [], Value.pointer (some ⟨b_, 0, none⟩)), (30, [], Value.pointer pp)] : GEnv)) hp_12) ?_
        refine mreg_run [.plain] 2 [(0, [], Value.pointer l_), (3, [], Value.pointer (some ⟨b_, 0, none⟩)), (30, [], Value.pointer (some ⟨(pblk l_), (poff l_), none⟩)), (31, [], Value.pointer (some ⟨(pblk l_), (poff l_), none⟩))] (by kernel_rfl) (by kernel_rfl) ?_
        refine mreg_run [.plain] 3 [(0, [], Value.pointer l_), (3, [], Value.pointer (some ⟨b_, 0, none⟩)), (32, [], Value.pointer (some ⟨(pblk l_), (poff l_) + 6, none⟩))] (by kernel_rfl) (by kernel_rfl) ?_
        obtain ⟨v33, hc, h⟩ := h
        refine mreg_load1 (i := 3) (by kernel_rfl) (t := 25) (a := (Go.Operand.tmp 32)) (b := (pblk l_)) (o := ((poff l_) + 6)) (ty := 25) (dst := some 33) (by kernel_rfl) (by kernel_rfl) (by kernel_rfl) hc ?_
        refine mreg_run [.plain] 5 [(0, [], Value.pointer l_), (3, [], Value.pointer (some ⟨b_, 0, none⟩)), (33, [], Value.slice v33.ptr v33.len v33.cap), (34, [], Value.pointer l_)] (by kernel_rfl) (by kernel_rfl) ?_
        obtain ⟨hp_13, h⟩ := h
        refine mreg_conv [(0, [], Value.pointer l_), (3, [], Value.pointer (some ⟨b_, 0, none⟩)), (33, [], Value.slice v33.ptr v33.len v33.cap), (34, [], Value.pointer (some ⟨(pblk l_), (poff l_), none⟩))] (congrArg (fun pp => ([(0, [], Value.pointer l_), (3, [], Value.pointer (some ⟨b_, 0, none⟩)), (33, [], Value.slice v33.ptr v33.len v33.cap), (34, [], Value.pointer pp)] : GEnv)) hp_13) ?_
        refine mreg_run [.plain] 6 [(0, [], Value.pointer l_), (3, [], Value.pointer (some ⟨b_, 0, none⟩)), (33, [], Value.slice v33.ptr v33.len v33.cap), (34, [], Value.pointer (some ⟨(pblk l_), (poff l_), none⟩)), (35, [], Value.pointer (some ⟨(pblk l_), (poff l_), none⟩))] (by kernel_rfl) (by kernel_rfl) ?_
        refine mreg_run [.plain] 7 [(0, [], Value.pointer l_), (3, [], Value.pointer (some ⟨b_, 0, none⟩)), (33, [], Value.slice v33.ptr v33.len v33.cap), (36, [], Value.pointer (some ⟨(pblk l_), (poff l_) + 7, none⟩))] (by kernel_rfl) (by kernel_rfl) ?_
        obtain ⟨v37, hc, h⟩ := h
        refine mreg_load1 (i := 7) (by kernel_rfl) (t := 3) (a := (Go.Operand.tmp 36)) (b := (pblk l_)) (o := ((poff l_) + 7)) (ty := 3) (dst := some 37) (by kernel_rfl) (by kernel_rfl) (by kernel_rfl) hc ?_
        refine mreg_run [] 8 [(0, [], Value.pointer l_), (3, [], Value.pointer (some ⟨b_, 0, none⟩)), (33, [], Value.slice v33.ptr v33.len v33.cap), (37, [], Value.int .i64 v37)] (by kernel_rfl) (by kernel_rfl) ?_
        obtain ⟨hp_14, h⟩ := h
        refine mreg_conv [(0, [], Value.pointer l_), (3, [], Value.pointer (some ⟨b_, 0, none⟩)), (33, [], Value.slice (some ⟨(pblk v33.ptr), (poff v33.ptr), none⟩) v33.len v33.cap), (37, [], Value.int .i64 v37)] (congrArg (fun pp => ([(0, [], Value.pointer l_), (3, [], Value.pointer (some ⟨b_, 0, none⟩)), (33, [], Value.slice pp v33.len v33.cap), (37, [], Value.int .i64 v37)] : GEnv)) hp_14) ?_
        obtain ⟨h0, h1, h⟩ := h
        refine mreg_indexS (i := 8) (by kernel_rfl) (t := 25) (e := 61) (x := (Go.Operand.tmp 33)) (ix := (Go.Operand.tmp 37)) (b := (pblk v33.ptr)) (o := (poff v33.ptr)) (l := v33.len) (c := v33.cap) (k := .i64) (j := v37) (ty := 0) (dst := some 38) (sz := 3) (by kernel_rfl) (by kernel_rfl) (by kernel_rfl) (by kernel_rfl) (by kernel_rfl) h0 h1 ?_
        refine mreg_run [] 9 [(0, [], Value.pointer l_), (3, [], Value.pointer (some ⟨b_, 0, none⟩)), (38, [], Value.pointer (some ⟨(pblk v33.ptr), (poff v33.ptr) + v37.toNat * 3, none⟩))] (by kernel_rfl) (by kernel_rfl) ?_
        obtain ⟨v39, hc, h⟩ := h
        refine mreg_loadN (i := 9) (by kernel_rfl) (t := 61) (a := (Go.Operand.tmp 38)) (b := (pblk v33.ptr)) (o := ((poff v33.ptr) + v37.toNat * 3)) (ty := 61) (dst := some 39) [Value.string v39.Key, Value.string v39.Val, Value.bool v39.Drop] (by kernel_rfl) (by kernel_rfl) (by kernel_rfl) (k := 3) (by kernel_rfl) (by kernel_rfl) hc ?_
        refine mreg_run [] 10 [(0, [], Value.pointer l_), (3, [], Value.pointer (some ⟨b_, 0, none⟩)), (39, [], Value.agg #[Value.string v39.Key, Value.string v39.Val, Value.bool v39.Drop])] (by kernel_rfl) (by kernel_rfl) ?_
        refine mreg_new (op := (Go.Op.alloc 61)) (ty := 0) (dst := some 5) 10 [] [(9, fun w' => CellsAt w' (pblk v33.ptr) ((poff v33.ptr) + v37.toNat * 3) [Value.string v39.Key, Value.string v39.Val, Value.bool v39.Drop]), (7, fun w' => w'.cell? ⟨(pblk l_), (poff l_) + 7, none⟩ = some (Value.int .i64 v37)), (3, fun w' => w'.cell? ⟨(pblk l_), (poff l_) + 6, none⟩ = some (Value.slice v33.ptr v33.len v33.cap))] (fun bb => Value.pointer (some ⟨bb, 0, none⟩)) (Obj.cells ([Value.string ByteArray.empty, Value.string ByteArray.empty, Value.bool false]).toArray ty_api_Write (0, 0)) (by kernel_rfl) (by kernel_rfl) (by kernel_rfl) (by kernel_rfl) (by kernel_rfl) (by kernel_rfl) (fun b_1 w5 hb hw => ?_)
        replace h := h b_1 w5 hb hw
        clear hb hw
        obtain ⟨hk0, hk1, hk2, h⟩ := h
        refine ⟨⟨hk0, hk1, hk2, trivial⟩, ?_⟩
        refine mreg_run [] 11 [(0, [], Value.pointer l_), (3, [], Value.pointer (some ⟨b_, 0, none⟩)), (5, [], Value.pointer (some ⟨b_1, 0, none⟩)), (39, [], Value.agg #[Value.string v39.Key, Value.string v39.Val, Value.bool v39.Drop])] (by kernel_rfl) (by kernel_rfl) ?_
        obtain ⟨hc, h⟩ := h
        refine mreg_store (t := 61) (a := (Go.Operand.tmp 5)) (x := (Go.Operand.tmp 39)) (b := b_1) (o := 0) (k := 3) (ty := 0) (dst := none) 11 [0, 1, 2, 3, 4, 5, 6, 7, 8, 9, 10] [] [Value.string v39.Key, Value.string v39.Val, Value.bool v39.Drop] (by kernel_rfl) (by kernel_rfl) (by kernel_rfl) (by kernel_rfl) (by kernel_rfl) (by kernel_rfl) (by kernel_rfl) (by kernel_rfl) (by kernel_rfl) (by kernel_rfl) hc (fun w6 hw => ?_)
        replace h := h w6 hw
        clear hw
        refine ⟨trivial, ?_⟩
        refine mreg_end [(0, Value.pointer l_), (3, Value.pointer (some ⟨b_, 0, none⟩)), (5, Value.pointer (some ⟨b_1, 0, none⟩))] (by kernel_rfl) (by kernel_rfl) (by kernel_rfl) ?_
        change WpE _ _ c_towpathref14_Lane_Next_16 _ _ _
        refine wpE_seq (x := c_towpathref14_Lane_Next_17) (y := c_towpathref14_Lane_Next_19) (by kernel_rfl) ?_
        refine wpE_mixregion (id := 4) (ops := r_towpathref14_Lane_Next_17) o_towpathref14_Lane_Next_17 (by kernel_rfl) (by kernel_rfl) (by kernel_rfl) (by kernel_rfl) (fun w7 hw => ?_)
        replace h := h w7 hw
        clear hw
        refine mreg_run [.plain] 1 [(0, [], Value.pointer l_), (3, [], Value.pointer (some ⟨b_, 0, none⟩)), (5, [], Value.pointer (some ⟨b_1, 0, none⟩)), (41, [], Value.pointer l_)] (by kernel_rfl) (by kernel_rfl) ?_
        obtain ⟨hp_16, h⟩ := h
        refine mreg_conv [(0, [], Value.pointer l_), (3, [], Value.pointer (some ⟨b_, 0, none⟩)), (5, [], Value.pointer (some ⟨b_1, 0, none⟩)), (41, [], Value.pointer (some ⟨(pblk l_), (poff l_), none⟩))] (congrArg (fun pp => ([(0, [], Value.pointer l_), (3, [], Value.pointer (some ⟨b_, 0, none⟩)), (5, [], Value.pointer (some ⟨b_1, 0, none⟩)), (41, [], Value.pointer pp)] : GEnv)) hp_16) ?_
        refine mreg_run [.plain] 2 [(0, [], Value.pointer l_), (3, [], Value.pointer (some ⟨b_, 0, none⟩)), (5, [], Value.pointer (some ⟨b_1, 0, none⟩)), (41, [], Value.pointer (some ⟨(pblk l_), (poff l_), none⟩)), (42, [], Value.pointer (some ⟨(pblk l_), (poff l_), none⟩))] (by kernel_rfl) (by kernel_rfl) ?_
        refine mreg_run [.plain] 3 [(0, [], Value.pointer l_), (3, [], Value.pointer (some ⟨b_, 0, none⟩)), (5, [], Value.pointer (some ⟨b_1, 0, none⟩)), (43, [], Value.pointer (some ⟨(pblk l_), (poff l_) + 1, none⟩))] (by kernel_rfl) (by kernel_rfl) ?_
        obtain ⟨v44, hc, h⟩ := h
        refine mreg_loadN (i := 3) (by kernel_rfl) (t := 35) (a := (Go.Operand.tmp 43)) (b := (pblk l_)) (o := ((poff l_) + 1)) (ty := 35) (dst := some 44) [Value.int .i64 v44.Lanes, Value.int .i64 v44.Shards, Value.int .i64 v44.Window, Value.int .i64 v44.Queue] (by kernel_rfl) (by kernel_rfl) (by kernel_rfl) (k := 4) (by kernel_rfl) (by kernel_rfl) hc ?_
        refine mreg_run [.plain] 5 [(0, [], Value.pointer l_), (3, [], Value.pointer (some ⟨b_, 0, none⟩)), (5, [], Value.pointer (some ⟨b_1, 0, none⟩)), (44, [], Value.agg #[Value.int .i64 v44.Lanes, Value.int .i64 v44.Shards, Value.int .i64 v44.Window, Value.int .i64 v44.Queue]), (45, [], Value.pointer (some ⟨b_1, 0, none⟩))] (by kernel_rfl) (by kernel_rfl) ?_
        obtain ⟨v46, hc, h⟩ := h
        refine mreg_load1 (i := 5) (by kernel_rfl) (t := 9) (a := (Go.Operand.tmp 45)) (b := b_1) (o := 0) (ty := 9) (dst := some 46) (by kernel_rfl) (by kernel_rfl) (by kernel_rfl) hc ?_
        refine mreg_run [] 6 [(0, [], Value.pointer l_), (3, [], Value.pointer (some ⟨b_, 0, none⟩)), (5, [], Value.pointer (some ⟨b_1, 0, none⟩)), (44, [], Value.agg #[Value.int .i64 v44.Lanes, Value.int .i64 v44.Shards, Value.int .i64 v44.Window, Value.int .i64 v44.Queue]), (46, [], Value.string v46)] (by kernel_rfl) (by kernel_rfl) ?_
        refine mreg_enter (op := (Go.Op.call (Go.Call.mk (Go.Callee.value (Go.Operand.func 87)) #[(Go.Operand.tmp 44), (Go.Operand.tmp 46)] #[35, 9]))) (ty := 68) (dst := some 47) 6 [3, 5, 2, 4, 1, 0] [] 87 #[Value.agg #[Value.int .i64 v44.Lanes, Value.int .i64 v44.Shards, Value.int .i64 v44.Window, Value.int .i64 v44.Queue], Value.string v46] (by kernel_rfl) (by kernel_rfl) (by kernel_rfl) (by kernel_rfl) (by kernel_rfl) (fun ww => by kernel_rfl) (Calls.mono h ?_)
        rintro _ w8 ⟨s, v47_1, rfl, h⟩
        refine ⟨_, rfl, trivial, ?_⟩
        refine mreg_run [.plain, .plain, .plain, .plain, .plain] 12 [(0, [], Value.pointer l_), (3, [], Value.pointer (some ⟨b_, 0, none⟩)), (5, [], Value.pointer (some ⟨b_1, 0, none⟩)), (6, [], Value.int .i64 s)] (by kernel_rfl) (by kernel_rfl) ?_
        refine mreg_end [(0, Value.pointer l_), (3, Value.pointer (some ⟨b_, 0, none⟩)), (5, Value.pointer (some ⟨b_1, 0, none⟩)), (6, Value.int .i64 s)] (by kernel_rfl) (by kernel_rfl) (by kernel_rfl) ?_
        change WpE _ _ c_towpathref14_Lane_Next_19 _ _ _
        refine wpE_seq (x := c_towpathref14_Lane_Next_20) (y := c_towpathref14_Lane_Next_22) (by kernel_rfl) ?_
        refine wpE_tailregion (id := 5) (ops := r_towpathref14_Lane_Next_20) (by kernel_rfl) 12 (by kernel_rfl) (by kernel_rfl) (fun w9 hw => ?_)
        replace h := h w9 hw
        clear hw
        refine qreg_run [.plain, .plain] 2 [(0, [], Value.pointer l_), (3, [], Value.pointer (some ⟨b_, 0, none⟩)), (5, [], Value.pointer (some ⟨b_1, 0, none⟩)), (50, [], Value.int .i64 s), (51, [], Value.pointer l_)] (by kernel_rfl) (by kernel_rfl) ?_
        obtain ⟨hp_17, h⟩ := h
        refine qreg_conv [(0, [], Value.pointer l_), (3, [], Value.pointer (some ⟨b_, 0, none⟩)), (5, [], Value.pointer (some ⟨b_1, 0, none⟩)), (50, [], Value.int .i64 s), (51, [], Value.pointer (some ⟨(pblk l_), (poff l_), none⟩))] (congrArg (fun pp => ([(0, [], Value.pointer l_), (3, [], Value.pointer (some ⟨b_, 0, none⟩)), (5, [], Value.pointer (some ⟨b_1, 0, none⟩)), (50, [], Value.int .i64 s), (51, [], Value.pointer pp)] : GEnv)) hp_17) ?_
        refine qreg_run [.plain] 3 [(0, [], Value.pointer l_), (3, [], Value.pointer (some ⟨b_, 0, none⟩)), (5, [], Value.pointer (some ⟨b_1, 0, none⟩)), (50, [], Value.int .i64 s), (51, [], Value.pointer (some ⟨(pblk l_), (poff l_), none⟩)), (52, [], Value.pointer (some ⟨(pblk l_), (poff l_), none⟩))] (by kernel_rfl) (by kernel_rfl) ?_
        refine qreg_run [.plain] 4 [(0, [], Value.pointer l_), (3, [], Value.pointer (some ⟨b_, 0, none⟩)), (5, [], Value.pointer (some ⟨b_1, 0, none⟩)), (50, [], Value.int .i64 s), (53, [], Value.pointer (some ⟨(pblk l_), (poff l_), none⟩))] (by kernel_rfl) (by kernel_rfl) ?_
        obtain ⟨v54, hc, h⟩ := h
        refine qreg_load1 (t := 3) (a := (Go.Operand.tmp 53)) (b := (pblk l_)) (o := (poff l_)) (ty := 3) (dst := some 54) (by kernel_rfl) (by kernel_rfl) (by kernel_rfl) hc ?_
        refine qreg_run [.plain] 6 [(3, [], Value.pointer (some ⟨b_, 0, none⟩)), (5, [], Value.pointer (some ⟨b_1, 0, none⟩)), (50, [], Value.int .i64 s), (54, [], Value.int .i64 v54), (55, [], Value.pointer l_)] (by kernel_rfl) (by kernel_rfl) ?_
        obtain ⟨hp_18, h⟩ := h
        refine qreg_conv [(3, [], Value.pointer (some ⟨b_, 0, none⟩)), (5, [], Value.pointer (some ⟨b_1, 0, none⟩)), (50, [], Value.int .i64 s), (54, [], Value.int .i64 v54), (55, [], Value.pointer (some ⟨(pblk l_), (poff l_), none⟩))] (congrArg (fun pp => ([(3, [], Value.pointer (some ⟨b_, 0, none⟩)), (5, [], Value.pointer (some ⟨b_1, 0, none⟩)), (50, [], Value.int .i64 s), (54, [], Value.int .i64 v54), (55, [], Value.pointer pp)] : GEnv)) hp_18) ?_
        refine qreg_run [.plain] 7 [(3, [], Value.pointer (some ⟨b_, 0, none⟩)), (5, [], Value.pointer (some ⟨b_1, 0, none⟩)), (50, [], Value.int .i64 s), (54, [], Value.int .i64 v54), (55, [], Value.pointer (some ⟨(pblk l_), (poff l_), none⟩)), (56, [], Value.pointer (some ⟨(pblk l_), (poff l_), none⟩))] (by kernel_rfl) (by kernel_rfl) ?_
        refine qreg_run [.plain] 8 [(3, [], Value.pointer (some ⟨b_, 0, none⟩)), (5, [], Value.pointer (some ⟨b_1, 0, none⟩)), (50, [], Value.int .i64 s), (54, [], Value.int .i64 v54), (57, [], Value.pointer (some ⟨(pblk l_), (poff l_) + 5, none⟩))] (by kernel_rfl) (by kernel_rfl) ?_
        obtain ⟨v58, hc, h⟩ := h
        refine qreg_load1 (t := 3) (a := (Go.Operand.tmp 57)) (b := (pblk l_)) (o := ((poff l_) + 5)) (ty := 3) (dst := some 58) (by kernel_rfl) (by kernel_rfl) (by kernel_rfl) hc ?_
        refine qreg_run [] 9 [(3, [], Value.pointer (some ⟨b_, 0, none⟩)), (5, [], Value.pointer (some ⟨b_1, 0, none⟩)), (50, [], Value.int .i64 s), (54, [], Value.int .i64 v54), (58, [], Value.int .i64 v58)] (by kernel_rfl) (by kernel_rfl) ?_
        obtain ⟨v59, hc, h⟩ := h
        refine qreg_loadN (t := 61) (a := (Go.Operand.tmp 5)) (b := b_1) (o := 0) (ty := 61) (dst := some 59) [Value.string v59.Key, Value.string v59.Val, Value.bool v59.Drop] (by kernel_rfl) (by kernel_rfl) (by kernel_rfl) (k := 3) (by kernel_rfl) (by kernel_rfl) hc ?_
        refine qreg_run [.plain, .plain] 12 [(2, [], Value.int .i64 s), (3, [], Value.pointer (some ⟨b_, 0, none⟩)), (60, [], Value.agg #[Value.int .u8 1, Value.int .i64 v54, Value.int .i64 v58, Value.string v59.Key, Value.string v59.Val, Value.bool v59.Drop, Value.string ByteArray.empty, Value.string ByteArray.empty, Value.slice none 0 0])] (by kernel_rfl) (by kernel_rfl) ?_
        refine qreg_tail (by kernel_rfl) ?_
        refine reg_run [] 12 [(2, [], Value.int .i64 s), (3, [], Value.pointer (some ⟨b_, 0, none⟩)), (60, [], Value.agg #[Value.int .u8 1, Value.int .i64 v54, Value.int .i64 v58, Value.string v59.Key, Value.string v59.Val, Value.bool v59.Drop, Value.string ByteArray.empty, Value.string ByteArray.empty, Value.slice none 0 0])] (by kernel_rfl) (by kernel_rfl) ?_
        obtain ⟨hc, h⟩ := h
        refine reg_store (t := 65) (a := (Go.Operand.tmp 3)) (x := (Go.Operand.tmp 60)) (b := b_) (o := 0) (ty := 0) (dst := none) [Value.int .u8 1, Value.int .i64 v54, Value.int .i64 v58, Value.string v59.Key, Value.string v59.Val, Value.bool v59.Drop, Value.string ByteArray.empty, Value.string ByteArray.empty, Value.slice none 0 0] (by kernel_rfl) (by kernel_rfl) (by kernel_rfl) (k := 9) (by kernel_rfl) (by kernel_rfl) (by kernel_rfl) hc (fun w10 hw => ?_)
        replace h := h w10 hw
        clear hw
        refine reg_run [.plain] 14 [(2, [], Value.int .i64 s), (3, [], Value.pointer (some ⟨b_, 0, none⟩)), (4, [], Value.bool true)] (by kernel_rfl) (by kernel_rfl) ?_
        refine reg_end [(2, Value.int .i64 s), (3, Value.pointer (some ⟨b_, 0, none⟩)), (4, Value.bool true)] (by kernel_rfl) (by kernel_rfl) ?_
        change WpE _ _ c_towpathref14_Lane_Next_22 _ _ _
        refine wpE_ret (by kernel_rfl) ?_
        obtain ⟨res1, hc_res1, h⟩ := h
        repeat (first | refine seqQ_ret ?_ | refine blockQ_ret ?_ | refine loopQ_ret ?_ | refine cutQ_ret ?_)
        exact retT (rs := [(Go.ResultVar.tmp 2), (Go.ResultVar.cell 3 65), (Go.ResultVar.tmp 4)]) (vs := [Value.int .i64 s, Value.agg #[Value.int .u8 res1.Kind, Value.int .i64 res1.From, Value.int .i64 res1.Number, Value.string res1.Write.Key, Value.string res1.Write.Val, Value.bool res1.Write.Drop, Value.string res1.Key, Value.string res1.End, Value.slice res1.Beyond.ptr res1.Beyond.len res1.Beyond.cap], Value.bool true]) (by kernel_rfl) (⟨by kernel_rfl, ⟨b_, 0, [Value.int .u8 res1.Kind, Value.int .i64 res1.From, Value.int .i64 res1.Number, Value.string res1.Write.Key, Value.string res1.Write.Val, Value.bool res1.Write.Drop, Value.string res1.Key, Value.string res1.End, Value.slice res1.Beyond.ptr res1.Beyond.len res1.Beyond.cap], by kernel_rfl, hc_res1, (sizeP_of (k := 9) (by kernel_rfl) (by kernel_rfl)), .inl ⟨by kernel_rfl, rfl⟩, ⟨by kernel_rfl, trivial⟩⟩⟩) (by kernel_rfl) ⟨s, res1, true, rfl, h⟩
  · rintro e w' ⟨v, rfl, r0, r1, r2, rfl, h⟩; exact ⟨r0, r1, r2, rfl, h⟩

/-! ### (*towpath/towpathref14.Lane).Holds (function 57) -/
noncomputable def c_towpathref14_Lane_Holds_0 : Code := (Try.f57.body).getD Code.skip
noncomputable def c_towpathref14_Lane_Holds_1 : Code := Code.l c_towpathref14_Lane_Holds_0
noncomputable def r_towpathref14_Lane_Holds_1 : Array Oper := Code.ops c_towpathref14_Lane_Holds_1
noncomputable def c_towpathref14_Lane_Holds_3 : Code := Code.r c_towpathref14_Lane_Holds_0
noncomputable def c_towpathref14_Lane_Holds_4 : Code := Code.l c_towpathref14_Lane_Holds_3
noncomputable def c_towpathref14_Lane_Holds_5 : Code := Code.l c_towpathref14_Lane_Holds_4
noncomputable def r_towpathref14_Lane_Holds_5 : Array Oper := Code.ops c_towpathref14_Lane_Holds_5
noncomputable def c_towpathref14_Lane_Holds_7 : Code := Code.r c_towpathref14_Lane_Holds_4
noncomputable def c_towpathref14_Lane_Holds_8 : Code := Code.l c_towpathref14_Lane_Holds_7
noncomputable def c_towpathref14_Lane_Holds_9 : Code := Code.l c_towpathref14_Lane_Holds_8
noncomputable def r_towpathref14_Lane_Holds_9 : Array Oper := Code.ops c_towpathref14_Lane_Holds_9
noncomputable def c_towpathref14_Lane_Holds_11 : Code := Code.r c_towpathref14_Lane_Holds_8
noncomputable def c_towpathref14_Lane_Holds_12 : Code := Code.r c_towpathref14_Lane_Holds_7
noncomputable def c_towpathref14_Lane_Holds_13 : Code := Code.r c_towpathref14_Lane_Holds_3
noncomputable def c_towpathref14_Lane_Holds_14 : Code := Code.l c_towpathref14_Lane_Holds_13
noncomputable def r_towpathref14_Lane_Holds_14 : Array Oper := Code.ops c_towpathref14_Lane_Holds_14
noncomputable def c_towpathref14_Lane_Holds_16 : Code := Code.r c_towpathref14_Lane_Holds_13

set_option maxRecDepth 100000 in
set_option maxHeartbeats 4000000 in
theorem S_towpathref14_Lane_Holds {l_ : Option Addr} {w : World} {R : Int → World → Prop} (h : F_towpathref14_Lane_Holds l_ R w) : C_towpathref14_Lane_Holds l_ w R := by
  unfold F_towpathref14_Lane_Holds at h
  unfold C_towpathref14_Lane_Holds
  refine Calls.mono (calls_of_wpE (args := [Value.pointer l_]) (R := fun v w' => ∃ (r0 : Int), v = Value.int .i64 r0 ∧ R r0 w') Try.func57 (c := c_towpathref14_Lane_Holds_0) (by kernel_rfl) 9 (by kernel_rfl) (by kernel_rfl) [(0, Value.pointer l_)] (by kernel_rfl) ?_) ?_
  · refine wpE_seq (x := c_towpathref14_Lane_Holds_1) (y := c_towpathref14_Lane_Holds_3) (by kernel_rfl) ?_
    refine wpE_region (id := 0) (ops := r_towpathref14_Lane_Holds_1) (by kernel_rfl) ?_
    refine reg_run [.plain] 1 [(0, [], Value.pointer l_)] (by kernel_rfl) (by kernel_rfl) ?_
    refine reg_end [(0, Value.pointer l_)] (by kernel_rfl) (by kernel_rfl) ?_
    change WpE _ _ c_towpathref14_Lane_Holds_3 _ _ _
    refine wpE_seq (x := c_towpathref14_Lane_Holds_4) (y := c_towpathref14_Lane_Holds_13) (by kernel_rfl) ?_
    refine wpE_seq (x := c_towpathref14_Lane_Holds_5) (y := c_towpathref14_Lane_Holds_7) (by kernel_rfl) ?_
    refine wpE_region (id := 1) (ops := r_towpathref14_Lane_Holds_5) (by kernel_rfl) ?_
    refine reg_run [.plain] 1 [(0, [], Value.pointer l_), (3, [], Value.pointer l_)] (by kernel_rfl) (by kernel_rfl) ?_
    refine reg_val (op := (Go.Op.binOp Go.BinOp.eql 41 (Go.Operand.tmp 3) (Go.Operand.const (Go.Value.pointer none)) 41)) (ty := 4) (dst := some 4) (Value.bool l_.isNone) (by kernel_rfl) (fun ww => run_ptr_eql_R (p := l_) (by kernel_rfl) (by kernel_rfl) (by kernel_rfl) ww) ?_
    refine reg_end [(0, Value.pointer l_), (4, Value.bool l_.isNone)] (by kernel_rfl) (by kernel_rfl) ?_
    change WpE _ _ c_towpathref14_Lane_Holds_7 _ _ _
    refine wpE_cond (o := (Operand.tmp 4)) (b := l_.isNone) (x := c_towpathref14_Lane_Holds_8) (y := c_towpathref14_Lane_Holds_12) (by kernel_rfl) (by kernel_rfl) (fun hb => ?_) (fun hb => ?_)
    · replace h := h.1 hb
      refine wpE_seq (x := c_towpathref14_Lane_Holds_9) (y := c_towpathref14_Lane_Holds_11) (by kernel_rfl) ?_
      refine wpE_region (id := 2) (ops := r_towpathref14_Lane_Holds_9) (by kernel_rfl) ?_
      refine reg_run [.plain] 1 [(2, [], Value.int .i64 0)] (by kernel_rfl) (by kernel_rfl) ?_
      refine reg_end [(2, Value.int .i64 0)] (by kernel_rfl) (by kernel_rfl) ?_
      change WpE _ _ c_towpathref14_Lane_Holds_11 _ _ _
      refine wpE_ret (by kernel_rfl) ?_
      repeat (first | refine seqQ_ret ?_ | refine blockQ_ret ?_ | refine loopQ_ret ?_ | refine cutQ_ret ?_)
      exact retS (rs := [(Go.ResultVar.tmp 2)]) (v := Value.int .i64 0) (by kernel_rfl) (⟨by kernel_rfl, trivial⟩) ⟨0, rfl, h⟩
    · replace h := h.2 hb
      refine wpE_skip (by kernel_rfl) ?_
      change WpE _ _ c_towpathref14_Lane_Holds_13 _ _ _
      refine wpE_seq (x := c_towpathref14_Lane_Holds_14) (y := c_towpathref14_Lane_Holds_16) (by kernel_rfl) ?_
      refine wpE_region (id := 3) (ops := r_towpathref14_Lane_Holds_14) (by kernel_rfl) ?_
      refine reg_run [.plain] 1 [(5, [], Value.pointer l_)] (by kernel_rfl) (by kernel_rfl) ?_
      obtain ⟨hp_0, h⟩ := h
      refine reg_conv [(5, [], Value.pointer (some ⟨(pblk l_), (poff l_), none⟩))] (congrArg (fun pp => ([(5, [], Value.pointer pp)] : GEnv)) hp_0) ?_
      refine reg_run [.plain] 2 [(5, [], Value.pointer (some ⟨(pblk l_), (poff l_), none⟩)), (6, [], Value.pointer (some ⟨(pblk l_), (poff l_), none⟩))] (by kernel_rfl) (by kernel_rfl) ?_
      refine reg_run [.plain] 3 [(7, [], Value.pointer (some ⟨(pblk l_), (poff l_) + 5, none⟩))] (by kernel_rfl) (by kernel_rfl) ?_
      obtain ⟨v8, hc, h⟩ := h
      refine reg_load1 (t := 3) (a := (Go.Operand.tmp 7)) (b := (pblk l_)) (o := ((poff l_) + 5)) (ty := 3) (dst := some 8) (by kernel_rfl) (by kernel_rfl) (by kernel_rfl) hc ?_
      refine reg_run [.plain] 5 [(2, [], Value.int .i64 v8)] (by kernel_rfl) (by kernel_rfl) ?_
      refine reg_end [(2, Value.int .i64 v8)] (by kernel_rfl) (by kernel_rfl) ?_
      change WpE _ _ c_towpathref14_Lane_Holds_16 _ _ _
      refine wpE_ret (by kernel_rfl) ?_
      repeat (first | refine seqQ_ret ?_ | refine blockQ_ret ?_ | refine loopQ_ret ?_ | refine cutQ_ret ?_)
      exact retS (rs := [(Go.ResultVar.tmp 2)]) (v := Value.int .i64 v8) (by kernel_rfl) (⟨by kernel_rfl, trivial⟩) ⟨v8, rfl, h⟩
  · rintro e w' ⟨v, rfl, r0, rfl, h⟩; exact ⟨r0, rfl, h⟩

/-! ### (*towpath/towpathref14.Lane).Ready (function 58) -/
noncomputable def c_towpathref14_Lane_Ready_0 : Code := (Try.f58.body).getD Code.skip
noncomputable def c_towpathref14_Lane_Ready_1 : Code := Code.l c_towpathref14_Lane_Ready_0
noncomputable def r_towpathref14_Lane_Ready_1 : Array Oper := Code.ops c_towpathref14_Lane_Ready_1
noncomputable def c_towpathref14_Lane_Ready_3 : Code := Code.r c_towpathref14_Lane_Ready_0
noncomputable def c_towpathref14_Lane_Ready_4 : Code := Code.l c_towpathref14_Lane_Ready_3
noncomputable def r_towpathref14_Lane_Ready_4 : Array Oper := Code.ops c_towpathref14_Lane_Ready_4
noncomputable def c_towpathref14_Lane_Ready_6 : Code := Code.r c_towpathref14_Lane_Ready_3

set_option maxRecDepth 100000 in
set_option maxHeartbeats 4000000 in
theorem S_towpathref14_Lane_Ready {l_ : Option Addr} {w : World} {R : Bool → World → Prop} (h : F_towpathref14_Lane_Ready l_ R w) : C_towpathref14_Lane_Ready l_ w R := by
  unfold F_towpathref14_Lane_Ready at h
  unfold C_towpathref14_Lane_Ready
  refine Calls.mono (calls_of_wpE (args := [Value.pointer l_]) (R := fun v w' => ∃ (r0 : Bool), v = Value.bool r0 ∧ R r0 w') Try.func58 (c := c_towpathref14_Lane_Ready_0) (by kernel_rfl) 24 (by kernel_rfl) (by kernel_rfl) [(0, Value.pointer l_)] (by kernel_rfl) ?_) ?_
  · refine wpE_seq (x := c_towpathref14_Lane_Ready_1) (y := c_towpathref14_Lane_Ready_3) (by kernel_rfl) ?_
    refine wpE_region (id := 0) (ops := r_towpathref14_Lane_Ready_1) (by kernel_rfl) ?_
    refine reg_run [.plain] 1 [(0, [], Value.pointer l_)] (by kernel_rfl) (by kernel_rfl) ?_
    refine reg_end [(0, Value.pointer l_)] (by kernel_rfl) (by kernel_rfl) ?_
    change WpE _ _ c_towpathref14_Lane_Ready_3 _ _ _
    refine wpE_seq (x := c_towpathref14_Lane_Ready_4) (y := c_towpathref14_Lane_Ready_6) (by kernel_rfl) ?_
    refine wpE_drawregion (id := 1) (ops := r_towpathref14_Lane_Ready_4) (by kernel_rfl) (by kernel_rfl) (by kernel_rfl) ?_
    refine qreg_run [.plain] 1 [(0, [], Value.pointer l_), (3, [], Value.pointer l_)] (by kernel_rfl) (by kernel_rfl) ?_
    refine qreg_val (op := (Go.Op.binOp Go.BinOp.neq 41 (Go.Operand.tmp 3) (Go.Operand.const (Go.Value.pointer none)) 41)) (ty := 4) (dst := some 4) (Value.bool (!l_.isNone)) (by kernel_rfl) (fun ww => run_ptr_neq_R (p := l_) (by kernel_rfl) (by kernel_rfl) (by kernel_rfl) ww) ?_
    refine qreg_run [.plain, .plain] 4 [(0, [], Value.pointer l_), (5, [], Value.bool (!l_.isNone)), (6, [(5, true)], Value.pointer l_)] (by kernel_rfl) (by kernel_rfl) ?_
    refine qreg_split 5 (!l_.isNone) (by kernel_rfl) (fun hb => ?_) (fun hb => ?_)
    · replace h := h.1 hb
      refine qreg_run [] 4 [(0, [], Value.pointer l_), (5, [], Value.bool true), (6, [], Value.pointer l_)] (by kernel_rfl) (by kernel_rfl) ?_
      refine qreg_run [] 4 [(0, [], Value.pointer l_), (5, [], Value.bool true), (6, [], Value.pointer l_)] (by kernel_rfl) (by kernel_rfl) ?_
      obtain ⟨hp_0, h⟩ := h
      refine qreg_conv [(0, [], Value.pointer l_), (5, [], Value.bool true), (6, [], Value.pointer (some ⟨(pblk l_), (poff l_), none⟩))] (congrArg (fun pp => ([(0, [], Value.pointer l_), (5, [], Value.bool true), (6, [], Value.pointer pp)] : GEnv)) hp_0) ?_
      refine qreg_run [.sure] 5 [(0, [], Value.pointer l_), (5, [], Value.bool true), (6, [], Value.pointer (some ⟨(pblk l_), (poff l_), none⟩)), (7, [], Value.pointer (some ⟨(pblk l_), (poff l_), none⟩))] (by kernel_rfl) (by kernel_rfl) ?_
      refine qreg_run [.sure] 6 [(0, [], Value.pointer l_), (5, [], Value.bool true), (8, [], Value.pointer (some ⟨(pblk l_), (poff l_) + 5, none⟩))] (by kernel_rfl) (by kernel_rfl) ?_
      obtain ⟨v9, hc, h⟩ := h
      refine qreg_load1 (t := 3) (a := (Go.Operand.tmp 8)) (b := (pblk l_)) (o := ((poff l_) + 5)) (ty := 3) (dst := some 9) (by kernel_rfl) (by kernel_rfl) (by kernel_rfl) hc ?_
      refine qreg_run [.sure, .plain, .plain, .plain] 11 [(0, [], Value.pointer l_), (12, [], Value.bool (v9 != 0)), (13, [(12, true)], Value.pointer l_)] (by kernel_rfl) (by kernel_rfl) ?_
      refine qreg_split 12 (v9 != 0) (by kernel_rfl) (fun hb => ?_) (fun hb => ?_)
      · replace h := h.1 hb
        refine qreg_run [] 11 [(0, [], Value.pointer l_), (12, [], Value.bool true), (13, [], Value.pointer l_)] (by kernel_rfl) (by kernel_rfl) ?_
        refine qreg_run [] 11 [(0, [], Value.pointer l_), (12, [], Value.bool true), (13, [], Value.pointer l_)] (by kernel_rfl) (by kernel_rfl) ?_
        obtain ⟨hp_1, h⟩ := h
        refine qreg_conv [(0, [], Value.pointer l_), (12, [], Value.bool true), (13, [], Value.pointer (some ⟨(pblk l_), (poff l_), none⟩))] (congrArg (fun pp => ([(0, [], Value.pointer l_), (12, [], Value.bool true), (13, [], Value.pointer pp)] : GEnv)) hp_1) ?_
        refine qreg_run [.sure] 12 [(0, [], Value.pointer l_), (12, [], Value.bool true), (13, [], Value.pointer (some ⟨(pblk l_), (poff l_), none⟩)), (14, [], Value.pointer (some ⟨(pblk l_), (poff l_), none⟩))] (by kernel_rfl) (by kernel_rfl) ?_
        refine qreg_run [.sure] 13 [(0, [], Value.pointer l_), (12, [], Value.bool true), (15, [], Value.pointer (some ⟨(pblk l_), (poff l_) + 8, none⟩))] (by kernel_rfl) (by kernel_rfl) ?_
        obtain ⟨v16, hc, h⟩ := h
        refine qreg_load1 (t := 3) (a := (Go.Operand.tmp 15)) (b := (pblk l_)) (o := ((poff l_) + 8)) (ty := 3) (dst := some 16) (by kernel_rfl) (by kernel_rfl) (by kernel_rfl) hc ?_
        refine qreg_run [.sure] 15 [(12, [], Value.bool true), (16, [], Value.int .i64 v16), (17, [], Value.pointer l_)] (by kernel_rfl) (by kernel_rfl) ?_
        obtain ⟨hp_2, h⟩ := h
        refine qreg_conv [(12, [], Value.bool true), (16, [], Value.int .i64 v16), (17, [], Value.pointer (some ⟨(pblk l_), (poff l_), none⟩))] (congrArg (fun pp => ([(12, [], Value.bool true), (16, [], Value.int .i64 v16), (17, [], Value.pointer pp)] : GEnv)) hp_2) ?_
        refine qreg_run [.sure] 16 [(12, [], Value.bool true), (16, [], Value.int .i64 v16), (17, [], Value.pointer (some ⟨(pblk l_), (poff l_), none⟩)), (18, [], Value.pointer (some ⟨(pblk l_), (poff l_), none⟩))] (by kernel_rfl) (by kernel_rfl) ?_
        refine qreg_run [.sure] 17 [(12, [], Value.bool true), (16, [], Value.int .i64 v16), (19, [], Value.pointer (some ⟨(pblk l_), (poff l_) + 6, none⟩))] (by kernel_rfl) (by kernel_rfl) ?_
        obtain ⟨v20, hc, h⟩ := h
        refine qreg_load1 (t := 25) (a := (Go.Operand.tmp 19)) (b := (pblk l_)) (o := ((poff l_) + 6)) (ty := 25) (dst := some 20) (by kernel_rfl) (by kernel_rfl) (by kernel_rfl) hc ?_
        refine qreg_run [.sure, .sure, .plain, .plain] 22 [(2, [], Value.bool (v16 == ((v20.len : Nat) : Int)))] (by kernel_rfl) (by kernel_rfl) ?_
        refine qreg_end [(2, Value.bool (v16 == ((v20.len : Nat) : Int)))] (by kernel_rfl) (by kernel_rfl) (fun w1 hw => ?_)
        replace h := h w1 hw
        clear hw
        change WpE _ _ c_towpathref14_Lane_Ready_6 _ _ _
        refine wpE_ret (by kernel_rfl) ?_
        repeat (first | refine seqQ_ret ?_ | refine blockQ_ret ?_ | refine loopQ_ret ?_ | refine cutQ_ret ?_)
        exact retS (rs := [(Go.ResultVar.tmp 2)]) (v := Value.bool (v16 == ((v20.len : Nat) : Int))) (by kernel_rfl) (⟨by kernel_rfl, trivial⟩) ⟨(v16 == ((v20.len : Nat) : Int)), rfl, h⟩
      · replace h := h.2 hb
        refine qreg_run [] 11 [(0, [], Value.pointer l_), (12, [], Value.bool false), (13, [], undef)] (by kernel_rfl) (by kernel_rfl) ?_
        refine qreg_run [.skip, .skip, .skip, .skip, .skip, .skip, .skip, .skip, .skip, .plain, .plain] 22 [(2, [], Value.bool false)] (by kernel_rfl) (by kernel_rfl) ?_
        refine qreg_end [(2, Value.bool false)] (by kernel_rfl) (by kernel_rfl) (fun w2 hw => ?_)
        replace h := h w2 hw
        clear hw
        change WpE _ _ c_towpathref14_Lane_Ready_6 _ _ _
        refine wpE_ret (by kernel_rfl) ?_
        repeat (first | refine seqQ_ret ?_ | refine blockQ_ret ?_ | refine loopQ_ret ?_ | refine cutQ_ret ?_)
        exact retS (rs := [(Go.ResultVar.tmp 2)]) (v := Value.bool false) (by kernel_rfl) (⟨by kernel_rfl, trivial⟩) ⟨false, rfl, h⟩
    · replace h := h.2 hb
      refine qreg_run [] 4 [(0, [], Value.pointer l_), (5, [], Value.bool false), (6, [], undef)] (by kernel_rfl) (by kernel_rfl) ?_
      refine qreg_run [.skip, .skip, .skip, .skip, .plain, .plain, .skip, .skip, .skip, .skip, .skip, .skip, .skip, .skip, .skip, .skip, .plain, .plain] 22 [(2, [], Value.bool false)] (by kernel_rfl) (by kernel_rfl) ?_
      refine qreg_end [(2, Value.bool false)] (by kernel_rfl) (by kernel_rfl) (fun w3 hw => ?_)
      replace h := h w3 hw
      clear hw
      change WpE _ _ c_towpathref14_Lane_Ready_6 _ _ _
      refine wpE_ret (by kernel_rfl) ?_
      repeat (first | refine seqQ_ret ?_ | refine blockQ_ret ?_ | refine loopQ_ret ?_ | refine cutQ_ret ?_)
      exact retS (rs := [(Go.ResultVar.tmp 2)]) (v := Value.bool false) (by kernel_rfl) (⟨by kernel_rfl, trivial⟩) ⟨false, rfl, h⟩
  · rintro e w' ⟨v, rfl, r0, rfl, h⟩; exact ⟨r0, rfl, h⟩
end Go.Proofs.Ytfmkemmgakdddaa
