/- WRITTEN BY PROGRAM (dec.py): for each Go function the clean formula F, the call's contract C, and the proof S that F gives C. -/
import Derived.Test.YtfmkemmgakdddaaRows
import Derived.Test.YtfmkemmgakdddaaGF
namespace Go.Proofs.Ytfmkemmgakdddaa
open Go
set_option linter.unusedVariables false

/-! ### towpath/towpathref13.Check (function 49) -/
noncomputable def c_towpathref13_Check_0 : Code := (Try.f49.body).getD Code.skip
noncomputable def c_towpathref13_Check_1 : Code := Code.l c_towpathref13_Check_0
noncomputable def r_towpathref13_Check_1 : Array Oper := Code.ops c_towpathref13_Check_1
noncomputable def c_towpathref13_Check_3 : Code := Code.r c_towpathref13_Check_0
noncomputable def c_towpathref13_Check_4 : Code := Code.l c_towpathref13_Check_3
noncomputable def c_towpathref13_Check_5 : Code := Code.l c_towpathref13_Check_4
noncomputable def r_towpathref13_Check_5 : Array Oper := Code.ops c_towpathref13_Check_5
noncomputable def c_towpathref13_Check_7 : Code := Code.r c_towpathref13_Check_4
noncomputable def c_towpathref13_Check_8 : Code := Code.l c_towpathref13_Check_7
noncomputable def c_towpathref13_Check_9 : Code := Code.l c_towpathref13_Check_8
noncomputable def r_towpathref13_Check_9 : Array Oper := Code.ops c_towpathref13_Check_9
noncomputable def c_towpathref13_Check_11 : Code := Code.r c_towpathref13_Check_8
noncomputable def c_towpathref13_Check_12 : Code := Code.r c_towpathref13_Check_7
noncomputable def c_towpathref13_Check_13 : Code := Code.r c_towpathref13_Check_3
noncomputable def c_towpathref13_Check_14 : Code := Code.l c_towpathref13_Check_13
noncomputable def r_towpathref13_Check_14 : Array Oper := Code.ops c_towpathref13_Check_14
noncomputable def c_towpathref13_Check_16 : Code := Code.r c_towpathref13_Check_13

set_option maxRecDepth 100000 in
set_option maxHeartbeats 4000000 in
theorem S_towpathref13_Check {c : T_api_Config} {w : World} {R : Int → World → Prop} (h : F_towpathref13_Check c R w) : C_towpathref13_Check c w R := by
  unfold F_towpathref13_Check at h
  unfold C_towpathref13_Check
  refine Calls.mono (calls_of_wpE (args := [Value.agg #[Value.int .i64 c.Lanes, Value.int .i64 c.Shards, Value.int .i64 c.Window, Value.int .i64 c.Queue]]) (R := fun v w' => ∃ (r0 : Int), v = Value.int .i64 r0 ∧ R r0 w') Try.func49 (c := c_towpathref13_Check_0) (by kernel_rfl) 25 (by kernel_rfl) (by kernel_rfl) [(0, Value.agg #[Value.int .i64 c.Lanes, Value.int .i64 c.Shards, Value.int .i64 c.Window, Value.int .i64 c.Queue])] (by kernel_rfl) ?_) ?_
  · refine wpE_seq (x := c_towpathref13_Check_1) (y := c_towpathref13_Check_3) (by kernel_rfl) ?_
    refine wpE_region (id := 0) (ops := r_towpathref13_Check_1) (by kernel_rfl) ?_
    refine reg_run [] 0 [(0, [], Value.agg #[Value.int .i64 c.Lanes, Value.int .i64 c.Shards, Value.int .i64 c.Window, Value.int .i64 c.Queue])] (by kernel_rfl) (by kernel_rfl) ?_
    refine reg_new (op := (Go.Op.box 35 (Go.Operand.tmp 0))) (ty := 0) (dst := some 1) (fun bb => Value.pointer (some ⟨bb, 0, none⟩)) (Obj.cells ([Value.int .i64 c.Lanes, Value.int .i64 c.Shards, Value.int .i64 c.Window, Value.int .i64 c.Queue]).toArray ty_api_Config (0, 0)) (by kernel_rfl) (by kernel_rfl) (fun b_ w1 hb hw => ?_)
    replace h := h b_ w1 hb hw
    clear hb hw
    refine reg_run [.plain] 2 [(1, [], Value.pointer (some ⟨b_, 0, none⟩))] (by kernel_rfl) (by kernel_rfl) ?_
    refine reg_end [(1, Value.pointer (some ⟨b_, 0, none⟩))] (by kernel_rfl) (by kernel_rfl) ?_
    change WpE _ _ c_towpathref13_Check_3 _ _ _
    refine wpE_seq (x := c_towpathref13_Check_4) (y := c_towpathref13_Check_13) (by kernel_rfl) ?_
    refine wpE_seq_cut (x := c_towpathref13_Check_5) (y := c_towpathref13_Check_7) (by kernel_rfl) (fun l w => ∃ (t24 : Bool), l = [(24, Value.bool t24)] ∧ F_towpathref13_Check_k0 R t24 w) ?_ ?_
    · refine wpE_region (id := 1) (ops := r_towpathref13_Check_5) (by kernel_rfl) ?_
      refine reg_run [.plain] 1 [(1, [], Value.pointer (some ⟨b_, 0, none⟩)), (3, [], Value.pointer (some ⟨b_, 0, none⟩))] (by kernel_rfl) (by kernel_rfl) ?_
      obtain ⟨v4, hc, h⟩ := h
      refine reg_load1 (t := 3) (a := (Go.Operand.tmp 3)) (b := b_) (o := 0) (ty := 3) (dst := some 4) (by kernel_rfl) (by kernel_rfl) (by kernel_rfl) hc ?_
      refine reg_run [] 2 [(1, [], Value.pointer (some ⟨b_, 0, none⟩)), (4, [], Value.int .i64 v4)] (by kernel_rfl) (by kernel_rfl) ?_
      refine reg_enter (op := (Go.Op.call (Go.Call.mk (Go.Callee.value (Go.Operand.func 82)) #[(Go.Operand.tmp 4), (Go.Operand.const (Go.Value.int Go.IntKind.i64 16))] #[3, 3]))) (ty := 4) (dst := some 5) 82 #[Value.int .i64 v4, Value.int .i64 16] (by kernel_rfl) (fun ww => by kernel_rfl) (Calls.mono h ?_)
      rintro _ w3 ⟨v5, rfl, h⟩
      refine ⟨_, rfl, ?_⟩
      refine reg_run [.plain, .plain, .plain] 6 [(1, [], Value.pointer (some ⟨b_, 0, none⟩)), (7, [], Value.bool (!v5)), (8, [(7, false)], Value.pointer (some ⟨b_, 1, none⟩))] (by kernel_rfl) (by kernel_rfl) ?_
      refine reg_split 7 (!v5) (by kernel_rfl) (fun hb => ?_) (fun hb => ?_)
      · replace h := h.1 hb
        refine reg_run [] 6 [(1, [], Value.pointer (some ⟨b_, 0, none⟩)), (7, [], Value.bool true), (8, [], undef)] (by kernel_rfl) (by kernel_rfl) ?_
        refine reg_run [.skip, .skip, .skip, .plain, .plain, .skip, .skip, .skip, .skip, .plain, .plain, .skip, .skip, .skip, .skip, .plain] 22 [(24, [], Value.bool true)] (by kernel_rfl) (by kernel_rfl) ?_
        refine reg_end [(24, Value.bool true)] (by kernel_rfl) (by kernel_rfl) ?_
        exact ⟨[(24, Value.bool true)], Sub.mk (by kernel_rfl), true, rfl, h⟩
      · replace h := h.2 hb
        refine reg_run [] 6 [(1, [], Value.pointer (some ⟨b_, 0, none⟩)), (7, [], Value.bool false), (8, [], Value.pointer (some ⟨b_, 1, none⟩))] (by kernel_rfl) (by kernel_rfl) ?_
        refine reg_run [] 6 [(1, [], Value.pointer (some ⟨b_, 0, none⟩)), (7, [], Value.bool false), (8, [], Value.pointer (some ⟨b_, 1, none⟩))] (by kernel_rfl) (by kernel_rfl) ?_
        obtain ⟨v9, hc, h⟩ := h
        refine reg_load1 (t := 3) (a := (Go.Operand.tmp 8)) (b := b_) (o := 1) (ty := 3) (dst := some 9) (by kernel_rfl) (by kernel_rfl) (by kernel_rfl) hc ?_
        refine reg_run [] 7 [(1, [], Value.pointer (some ⟨b_, 0, none⟩)), (7, [], Value.bool false), (9, [], Value.int .i64 v9)] (by kernel_rfl) (by kernel_rfl) ?_
        refine reg_enter (op := (Go.Op.call (Go.Call.mk (Go.Callee.value (Go.Operand.func 82)) #[(Go.Operand.tmp 9), (Go.Operand.const (Go.Value.int Go.IntKind.i64 16))] #[3, 3]))) (ty := 4) (dst := some 10) 82 #[Value.int .i64 v9, Value.int .i64 16] (by kernel_rfl) (fun ww => by kernel_rfl) (Calls.mono h ?_)
        rintro _ w4 ⟨v10, rfl, h⟩
        refine ⟨_, rfl, ?_⟩
        refine reg_run [.sure, .plain, .plain, .plain] 12 [(1, [], Value.pointer (some ⟨b_, 0, none⟩)), (13, [], Value.bool (!v10)), (14, [(13, false)], Value.pointer (some ⟨b_, 2, none⟩))] (by kernel_rfl) (by kernel_rfl) ?_
        refine reg_split 13 (!v10) (by kernel_rfl) (fun hb => ?_) (fun hb => ?_)
        · replace h := h.1 hb
          refine reg_run [] 12 [(1, [], Value.pointer (some ⟨b_, 0, none⟩)), (13, [], Value.bool true), (14, [], undef)] (by kernel_rfl) (by kernel_rfl) ?_
          refine reg_run [.skip, .skip, .skip, .plain, .plain, .skip, .skip, .skip, .skip, .plain] 22 [(24, [], Value.bool true)] (by kernel_rfl) (by kernel_rfl) ?_
          refine reg_end [(24, Value.bool true)] (by kernel_rfl) (by kernel_rfl) ?_
          exact ⟨[(24, Value.bool true)], Sub.mk (by kernel_rfl), true, rfl, h⟩
        · replace h := h.2 hb
          refine reg_run [] 12 [(1, [], Value.pointer (some ⟨b_, 0, none⟩)), (13, [], Value.bool false), (14, [], Value.pointer (some ⟨b_, 2, none⟩))] (by kernel_rfl) (by kernel_rfl) ?_
          refine reg_run [] 12 [(1, [], Value.pointer (some ⟨b_, 0, none⟩)), (13, [], Value.bool false), (14, [], Value.pointer (some ⟨b_, 2, none⟩))] (by kernel_rfl) (by kernel_rfl) ?_
          obtain ⟨v15, hc, h⟩ := h
          refine reg_load1 (t := 3) (a := (Go.Operand.tmp 14)) (b := b_) (o := 2) (ty := 3) (dst := some 15) (by kernel_rfl) (by kernel_rfl) (by kernel_rfl) hc ?_
          refine reg_run [] 13 [(1, [], Value.pointer (some ⟨b_, 0, none⟩)), (13, [], Value.bool false), (15, [], Value.int .i64 v15)] (by kernel_rfl) (by kernel_rfl) ?_
          refine reg_enter (op := (Go.Op.call (Go.Call.mk (Go.Callee.value (Go.Operand.func 82)) #[(Go.Operand.tmp 15), (Go.Operand.const (Go.Value.int Go.IntKind.i64 64))] #[3, 3]))) (ty := 4) (dst := some 16) 82 #[Value.int .i64 v15, Value.int .i64 64] (by kernel_rfl) (fun ww => by kernel_rfl) (Calls.mono h ?_)
          rintro _ w5 ⟨v16, rfl, h⟩
          refine ⟨_, rfl, ?_⟩
          refine reg_run [.sure, .plain, .plain, .plain] 18 [(19, [], Value.bool (!v16)), (20, [(19, false)], Value.pointer (some ⟨b_, 3, none⟩))] (by kernel_rfl) (by kernel_rfl) ?_
          refine reg_split 19 (!v16) (by kernel_rfl) (fun hb => ?_) (fun hb => ?_)
          · replace h := h.1 hb
            refine reg_run [] 18 [(19, [], Value.bool true), (20, [], undef)] (by kernel_rfl) (by kernel_rfl) ?_
            refine reg_run [.skip, .skip, .skip, .plain] 22 [(24, [], Value.bool true)] (by kernel_rfl) (by kernel_rfl) ?_
            refine reg_end [(24, Value.bool true)] (by kernel_rfl) (by kernel_rfl) ?_
            exact ⟨[(24, Value.bool true)], Sub.mk (by kernel_rfl), true, rfl, h⟩
          · replace h := h.2 hb
            refine reg_run [] 18 [(19, [], Value.bool false), (20, [], Value.pointer (some ⟨b_, 3, none⟩))] (by kernel_rfl) (by kernel_rfl) ?_
            refine reg_run [] 18 [(19, [], Value.bool false), (20, [], Value.pointer (some ⟨b_, 3, none⟩))] (by kernel_rfl) (by kernel_rfl) ?_
            obtain ⟨v21, hc, h⟩ := h
            refine reg_load1 (t := 3) (a := (Go.Operand.tmp 20)) (b := b_) (o := 3) (ty := 3) (dst := some 21) (by kernel_rfl) (by kernel_rfl) (by kernel_rfl) hc ?_
            refine reg_run [] 19 [(19, [], Value.bool false), (21, [], Value.int .i64 v21)] (by kernel_rfl) (by kernel_rfl) ?_
            refine reg_enter (op := (Go.Op.call (Go.Call.mk (Go.Callee.value (Go.Operand.func 82)) #[(Go.Operand.tmp 21), (Go.Operand.const (Go.Value.int Go.IntKind.i64 16))] #[3, 3]))) (ty := 4) (dst := some 22) 82 #[Value.int .i64 v21, Value.int .i64 16] (by kernel_rfl) (fun ww => by kernel_rfl) (Calls.mono h ?_)
            rintro _ w6 ⟨v22, rfl, h⟩
            refine ⟨_, rfl, ?_⟩
            refine reg_run [.sure, .plain] 22 [(24, [], Value.bool (!v22))] (by kernel_rfl) (by kernel_rfl) ?_
            refine reg_end [(24, Value.bool (!v22))] (by kernel_rfl) (by kernel_rfl) ?_
            exact ⟨[(24, Value.bool (!v22))], Sub.mk (by kernel_rfl), (!v22), rfl, h⟩
    · rintro _ w2 ⟨t24, rfl, h⟩
      unfold F_towpathref13_Check_k0 at h
      refine wpE_cond (o := (Operand.tmp 24)) (b := t24) (x := c_towpathref13_Check_8) (y := c_towpathref13_Check_12) (by kernel_rfl) (by kernel_rfl) (fun hb => ?_) (fun hb => ?_)
      · replace h := h.1 hb
        refine wpE_seq (x := c_towpathref13_Check_9) (y := c_towpathref13_Check_11) (by kernel_rfl) ?_
        refine wpE_region (id := 2) (ops := r_towpathref13_Check_9) (by kernel_rfl) ?_
        refine reg_run [.plain] 1 [(2, [], Value.int .i64 7)] (by kernel_rfl) (by kernel_rfl) ?_
        refine reg_end [(2, Value.int .i64 7)] (by kernel_rfl) (by kernel_rfl) ?_
        change WpE _ _ c_towpathref13_Check_11 _ _ _
        refine wpE_ret (by kernel_rfl) ?_
        repeat (first | refine seqQ_ret ?_ | refine blockQ_ret ?_ | refine loopQ_ret ?_ | refine cutQ_ret ?_)
        exact retS (rs := [(Go.ResultVar.tmp 2)]) (v := Value.int .i64 7) (by kernel_rfl) (⟨by kernel_rfl, trivial⟩) ⟨7, rfl, h⟩
      · replace h := h.2 hb
        refine wpE_skip (by kernel_rfl) ?_
        change WpE _ _ c_towpathref13_Check_13 _ _ _
        refine wpE_seq (x := c_towpathref13_Check_14) (y := c_towpathref13_Check_16) (by kernel_rfl) ?_
        refine wpE_region (id := 3) (ops := r_towpathref13_Check_14) (by kernel_rfl) ?_
        refine reg_run [.plain] 1 [(2, [], Value.int .i64 0)] (by kernel_rfl) (by kernel_rfl) ?_
        refine reg_end [(2, Value.int .i64 0)] (by kernel_rfl) (by kernel_rfl) ?_
        change WpE _ _ c_towpathref13_Check_16 _ _ _
        refine wpE_ret (by kernel_rfl) ?_
        repeat (first | refine seqQ_ret ?_ | refine blockQ_ret ?_ | refine loopQ_ret ?_ | refine cutQ_ret ?_)
        exact retS (rs := [(Go.ResultVar.tmp 2)]) (v := Value.int .i64 0) (by kernel_rfl) (⟨by kernel_rfl, trivial⟩) ⟨0, rfl, h⟩
  · rintro e w' ⟨v, rfl, r0, rfl, h⟩; exact ⟨r0, rfl, h⟩

/-! ### towpath/towpathref13.in (function 82) -/
noncomputable def c_towpathref13_in_0 : Code := (Try.f82.body).getD Code.skip
noncomputable def c_towpathref13_in_1 : Code := Code.l c_towpathref13_in_0
noncomputable def r_towpathref13_in_1 : Array Oper := Code.ops c_towpathref13_in_1
noncomputable def c_towpathref13_in_3 : Code := Code.r c_towpathref13_in_0
noncomputable def c_towpathref13_in_4 : Code := Code.l c_towpathref13_in_3
noncomputable def r_towpathref13_in_4 : Array Oper := Code.ops c_towpathref13_in_4
noncomputable def c_towpathref13_in_6 : Code := Code.r c_towpathref13_in_3

set_option maxRecDepth 100000 in
set_option maxHeartbeats 4000000 in
theorem S_towpathref13_in {n_ : Int} {most : Int} {w : World} {R : Bool → World → Prop} (h : F_towpathref13_in n_ most R w) : C_towpathref13_in n_ most w R := by
  unfold F_towpathref13_in at h
  unfold C_towpathref13_in
  refine Calls.mono (calls_of_wpE (args := [Value.int .i64 n_, Value.int .i64 most]) (R := fun v w' => ∃ (r0 : Bool), v = Value.bool r0 ∧ R r0 w') Try.func82 (c := c_towpathref13_in_0) (by kernel_rfl) 12 (by kernel_rfl) (by kernel_rfl) [(0, Value.int .i64 n_), (1, Value.int .i64 most)] (by kernel_rfl) ?_) ?_
  · refine wpE_seq (x := c_towpathref13_in_1) (y := c_towpathref13_in_3) (by kernel_rfl) ?_
    refine wpE_region (id := 0) (ops := r_towpathref13_in_1) (by kernel_rfl) ?_
    refine reg_run [.plain] 1 [(0, [], Value.int .i64 n_), (1, [], Value.int .i64 most)] (by kernel_rfl) (by kernel_rfl) ?_
    refine reg_end [(0, Value.int .i64 n_), (1, Value.int .i64 most)] (by kernel_rfl) (by kernel_rfl) ?_
    change WpE _ _ c_towpathref13_in_3 _ _ _
    refine wpE_seq (x := c_towpathref13_in_4) (y := c_towpathref13_in_6) (by kernel_rfl) ?_
    refine wpE_region (id := 1) (ops := r_towpathref13_in_4) (by kernel_rfl) ?_
    refine reg_run [.plain, .plain, .plain, .plain, .plain, .plain, .pick, .plain] 8 [(4, [], Value.bool ((decide (n_ ≥ 1)) && (decide (n_ ≤ most))))] (by kernel_rfl) (by kernel_rfl) ?_
    refine reg_end [(4, Value.bool ((decide (n_ ≥ 1)) && (decide (n_ ≤ most))))] (by kernel_rfl) (by kernel_rfl) ?_
    change WpE _ _ c_towpathref13_in_6 _ _ _
    refine wpE_ret (by kernel_rfl) ?_
    repeat (first | refine seqQ_ret ?_ | refine blockQ_ret ?_ | refine loopQ_ret ?_ | refine cutQ_ret ?_)
    exact retS (rs := [(Go.ResultVar.tmp 4)]) (v := Value.bool ((decide (n_ ≥ 1)) && (decide (n_ ≤ most)))) (by kernel_rfl) (⟨by kernel_rfl, trivial⟩) ⟨((decide (n_ ≥ 1)) && (decide (n_ ≤ most))), rfl, h⟩
  · rintro e w' ⟨v, rfl, r0, rfl, h⟩; exact ⟨r0, rfl, h⟩

/-! ### towpath/towpathref13.Shard (function 87) -/
noncomputable def c_towpathref13_Shard_0 : Code := (Try.f87.body).getD Code.skip
noncomputable def c_towpathref13_Shard_1 : Code := Code.l c_towpathref13_Shard_0
noncomputable def r_towpathref13_Shard_1 : Array Oper := Code.ops c_towpathref13_Shard_1
noncomputable def c_towpathref13_Shard_3 : Code := Code.r c_towpathref13_Shard_0
noncomputable def c_towpathref13_Shard_4 : Code := Code.l c_towpathref13_Shard_3
noncomputable def r_towpathref13_Shard_4 : Array Oper := Code.ops c_towpathref13_Shard_4
noncomputable def c_towpathref13_Shard_6 : Code := Code.r c_towpathref13_Shard_3
noncomputable def c_towpathref13_Shard_7 : Code := Code.l c_towpathref13_Shard_6
noncomputable def c_towpathref13_Shard_8 : Code := Code.l c_towpathref13_Shard_7
noncomputable def r_towpathref13_Shard_8 : Array Oper := Code.ops c_towpathref13_Shard_8
noncomputable def c_towpathref13_Shard_10 : Code := Code.r c_towpathref13_Shard_7
noncomputable def c_towpathref13_Shard_11 : Code := Code.l c_towpathref13_Shard_10
noncomputable def c_towpathref13_Shard_12 : Code := Code.l c_towpathref13_Shard_11
noncomputable def r_towpathref13_Shard_12 : Array Oper := Code.ops c_towpathref13_Shard_12
noncomputable def c_towpathref13_Shard_14 : Code := Code.r c_towpathref13_Shard_11
noncomputable def c_towpathref13_Shard_15 : Code := Code.r c_towpathref13_Shard_10
noncomputable def c_towpathref13_Shard_16 : Code := Code.r c_towpathref13_Shard_6
noncomputable def c_towpathref13_Shard_17 : Code := Code.l c_towpathref13_Shard_16
noncomputable def c_towpathref13_Shard_18 : Code := Code.l c_towpathref13_Shard_17
noncomputable def r_towpathref13_Shard_18 : Array Oper := Code.ops c_towpathref13_Shard_18
noncomputable def c_towpathref13_Shard_20 : Code := Code.r c_towpathref13_Shard_17
noncomputable def c_towpathref13_Shard_21 : Code := Code.l c_towpathref13_Shard_20
noncomputable def c_towpathref13_Shard_22 : Code := Code.l c_towpathref13_Shard_21
noncomputable def r_towpathref13_Shard_22 : Array Oper := Code.ops c_towpathref13_Shard_22
noncomputable def c_towpathref13_Shard_24 : Code := Code.r c_towpathref13_Shard_21
noncomputable def c_towpathref13_Shard_25 : Code := Code.r c_towpathref13_Shard_20
noncomputable def c_towpathref13_Shard_26 : Code := Code.r c_towpathref13_Shard_16
noncomputable def c_towpathref13_Shard_27 : Code := Code.l c_towpathref13_Shard_26
noncomputable def r_towpathref13_Shard_27 : Array Oper := Code.ops c_towpathref13_Shard_27
noncomputable def c_towpathref13_Shard_29 : Code := Code.r c_towpathref13_Shard_26

set_option maxRecDepth 100000 in
set_option maxHeartbeats 4000000 in
theorem S_towpathref13_Shard {c : T_api_Config} {key : ByteArray} {w : World} {R : Int → Int → World → Prop} (h : F_towpathref13_Shard c key R w) : C_towpathref13_Shard c key w R := by
  unfold F_towpathref13_Shard at h
  unfold C_towpathref13_Shard
  refine Calls.mono (calls_of_wpE (args := [Value.agg #[Value.int .i64 c.Lanes, Value.int .i64 c.Shards, Value.int .i64 c.Window, Value.int .i64 c.Queue], Value.string key]) (R := fun v w' => ∃ (r0 : Int) (r1 : Int), v = Value.tuple #[Value.int .i64 r0, Value.int .i64 r1] ∧ R r0 r1 w') Try.func87 (c := c_towpathref13_Shard_0) (by kernel_rfl) 22 (by kernel_rfl) (by kernel_rfl) [(0, Value.agg #[Value.int .i64 c.Lanes, Value.int .i64 c.Shards, Value.int .i64 c.Window, Value.int .i64 c.Queue]), (1, Value.string key)] (by kernel_rfl) ?_) ?_
  · refine wpE_seq (x := c_towpathref13_Shard_1) (y := c_towpathref13_Shard_3) (by kernel_rfl) ?_
    refine wpE_region (id := 0) (ops := r_towpathref13_Shard_1) (by kernel_rfl) ?_
    refine reg_run [] 0 [(0, [], Value.agg #[Value.int .i64 c.Lanes, Value.int .i64 c.Shards, Value.int .i64 c.Window, Value.int .i64 c.Queue]), (1, [], Value.string key)] (by kernel_rfl) (by kernel_rfl) ?_
    refine reg_new (op := (Go.Op.box 35 (Go.Operand.tmp 0))) (ty := 0) (dst := some 2) (fun bb => Value.pointer (some ⟨bb, 0, none⟩)) (Obj.cells ([Value.int .i64 c.Lanes, Value.int .i64 c.Shards, Value.int .i64 c.Window, Value.int .i64 c.Queue]).toArray ty_api_Config (0, 0)) (by kernel_rfl) (by kernel_rfl) (fun b_ w1 hb hw => ?_)
    replace h := h b_ w1 hb hw
    clear hb hw
    refine reg_run [.plain, .plain] 3 [(1, [], Value.string key), (2, [], Value.pointer (some ⟨b_, 0, none⟩))] (by kernel_rfl) (by kernel_rfl) ?_
    refine reg_end [(1, Value.string key), (2, Value.pointer (some ⟨b_, 0, none⟩))] (by kernel_rfl) (by kernel_rfl) ?_
    change WpE _ _ c_towpathref13_Shard_3 _ _ _
    refine wpE_seq (x := c_towpathref13_Shard_4) (y := c_towpathref13_Shard_6) (by kernel_rfl) ?_
    refine wpE_region (id := 1) (ops := r_towpathref13_Shard_4) (by kernel_rfl) ?_
    refine reg_run [] 0 [(1, [], Value.string key), (2, [], Value.pointer (some ⟨b_, 0, none⟩))] (by kernel_rfl) (by kernel_rfl) ?_
    obtain ⟨v7, hc, h⟩ := h
    refine reg_loadN (t := 35) (a := (Go.Operand.tmp 2)) (b := b_) (o := 0) (ty := 35) (dst := some 7) [Value.int .i64 v7.Lanes, Value.int .i64 v7.Shards, Value.int .i64 v7.Window, Value.int .i64 v7.Queue] (by kernel_rfl) (by kernel_rfl) (by kernel_rfl) (k := 4) (by kernel_rfl) (by kernel_rfl) hc ?_
    refine reg_run [] 1 [(1, [], Value.string key), (2, [], Value.pointer (some ⟨b_, 0, none⟩)), (7, [], Value.agg #[Value.int .i64 v7.Lanes, Value.int .i64 v7.Shards, Value.int .i64 v7.Window, Value.int .i64 v7.Queue])] (by kernel_rfl) (by kernel_rfl) ?_
    refine reg_enter (op := (Go.Op.call (Go.Call.mk (Go.Callee.value (Go.Operand.func 49)) #[(Go.Operand.tmp 7)] #[35]))) (ty := 28) (dst := some 8) 49 #[Value.agg #[Value.int .i64 v7.Lanes, Value.int .i64 v7.Shards, Value.int .i64 v7.Window, Value.int .i64 v7.Queue]] (by kernel_rfl) (fun ww => by kernel_rfl) (Calls.mono h ?_)
    rintro _ w2 ⟨v8, rfl, h⟩
    refine ⟨_, rfl, ?_⟩
    refine reg_run [.plain] 3 [(1, [], Value.string key), (2, [], Value.pointer (some ⟨b_, 0, none⟩)), (6, [], Value.int .i64 v8)] (by kernel_rfl) (by kernel_rfl) ?_
    refine reg_end [(1, Value.string key), (2, Value.pointer (some ⟨b_, 0, none⟩)), (6, Value.int .i64 v8)] (by kernel_rfl) (by kernel_rfl) ?_
    change WpE _ _ c_towpathref13_Shard_6 _ _ _
    refine wpE_seq (x := c_towpathref13_Shard_7) (y := c_towpathref13_Shard_16) (by kernel_rfl) ?_
    refine wpE_seq (x := c_towpathref13_Shard_8) (y := c_towpathref13_Shard_10) (by kernel_rfl) ?_
    refine wpE_region (id := 2) (ops := r_towpathref13_Shard_8) (by kernel_rfl) ?_
    refine reg_run [.plain, .plain] 2 [(1, [], Value.string key), (2, [], Value.pointer (some ⟨b_, 0, none⟩)), (6, [], Value.int .i64 v8), (10, [], Value.bool (v8 != 0))] (by kernel_rfl) (by kernel_rfl) ?_
    refine reg_end [(1, Value.string key), (2, Value.pointer (some ⟨b_, 0, none⟩)), (6, Value.int .i64 v8), (10, Value.bool (v8 != 0))] (by kernel_rfl) (by kernel_rfl) ?_
    change WpE _ _ c_towpathref13_Shard_10 _ _ _
    refine wpE_cond (o := (Operand.tmp 10)) (b := (v8 != 0)) (x := c_towpathref13_Shard_11) (y := c_towpathref13_Shard_15) (by kernel_rfl) (by kernel_rfl) (fun hb => ?_) (fun hb => ?_)
    · replace h := h.1 hb
      refine wpE_seq (x := c_towpathref13_Shard_12) (y := c_towpathref13_Shard_14) (by kernel_rfl) ?_
      refine wpE_region (id := 3) (ops := r_towpathref13_Shard_12) (by kernel_rfl) ?_
      refine reg_run [.plain, .plain, .plain] 3 [(4, [], Value.int .i64 0), (5, [], Value.int .i64 v8)] (by kernel_rfl) (by kernel_rfl) ?_
      refine reg_end [(4, Value.int .i64 0), (5, Value.int .i64 v8)] (by kernel_rfl) (by kernel_rfl) ?_
      change WpE _ _ c_towpathref13_Shard_14 _ _ _
      refine wpE_ret (by kernel_rfl) ?_
      repeat (first | refine seqQ_ret ?_ | refine blockQ_ret ?_ | refine loopQ_ret ?_ | refine cutQ_ret ?_)
      exact retT (rs := [(Go.ResultVar.tmp 4), (Go.ResultVar.tmp 5)]) (vs := [Value.int .i64 0, Value.int .i64 v8]) (by kernel_rfl) (⟨by kernel_rfl, ⟨by kernel_rfl, trivial⟩⟩) (by kernel_rfl) ⟨0, v8, rfl, h⟩
    · replace h := h.2 hb
      refine wpE_skip (by kernel_rfl) ?_
      change WpE _ _ c_towpathref13_Shard_16 _ _ _
      refine wpE_seq (x := c_towpathref13_Shard_17) (y := c_towpathref13_Shard_26) (by kernel_rfl) ?_
      refine wpE_seq (x := c_towpathref13_Shard_18) (y := c_towpathref13_Shard_20) (by kernel_rfl) ?_
      refine wpE_region (id := 4) (ops := r_towpathref13_Shard_18) (by kernel_rfl) ?_
      refine reg_run [.plain] 1 [(1, [], Value.string key), (2, [], Value.pointer (some ⟨b_, 0, none⟩)), (12, [], Value.string key)] (by kernel_rfl) (by kernel_rfl) ?_
      refine reg_enter (op := (Go.Op.call (Go.Call.mk (Go.Callee.value (Go.Operand.func 93)) #[(Go.Operand.tmp 12)] #[9]))) (ty := 4) (dst := some 13) 93 #[Value.string key] (by kernel_rfl) (fun ww => by kernel_rfl) (Calls.mono h ?_)
      rintro _ w3 ⟨v13, rfl, h⟩
      refine ⟨_, rfl, ?_⟩
      refine reg_run [.plain] 3 [(1, [], Value.string key), (2, [], Value.pointer (some ⟨b_, 0, none⟩)), (14, [], Value.bool (!v13))] (by kernel_rfl) (by kernel_rfl) ?_
      refine reg_end [(1, Value.string key), (2, Value.pointer (some ⟨b_, 0, none⟩)), (14, Value.bool (!v13))] (by kernel_rfl) (by kernel_rfl) ?_
      change WpE _ _ c_towpathref13_Shard_20 _ _ _
      refine wpE_cond (o := (Operand.tmp 14)) (b := (!v13)) (x := c_towpathref13_Shard_21) (y := c_towpathref13_Shard_25) (by kernel_rfl) (by kernel_rfl) (fun hb => ?_) (fun hb => ?_)
      · replace h := h.1 hb
        refine wpE_seq (x := c_towpathref13_Shard_22) (y := c_towpathref13_Shard_24) (by kernel_rfl) ?_
        refine wpE_region (id := 5) (ops := r_towpathref13_Shard_22) (by kernel_rfl) ?_
        refine reg_run [.plain, .plain] 2 [(4, [], Value.int .i64 0), (5, [], Value.int .i64 1)] (by kernel_rfl) (by kernel_rfl) ?_
        refine reg_end [(4, Value.int .i64 0), (5, Value.int .i64 1)] (by kernel_rfl) (by kernel_rfl) ?_
        change WpE _ _ c_towpathref13_Shard_24 _ _ _
        refine wpE_ret (by kernel_rfl) ?_
        repeat (first | refine seqQ_ret ?_ | refine blockQ_ret ?_ | refine loopQ_ret ?_ | refine cutQ_ret ?_)
        exact retT (rs := [(Go.ResultVar.tmp 4), (Go.ResultVar.tmp 5)]) (vs := [Value.int .i64 0, Value.int .i64 1]) (by kernel_rfl) (⟨by kernel_rfl, ⟨by kernel_rfl, trivial⟩⟩) (by kernel_rfl) ⟨0, 1, rfl, h⟩
      · replace h := h.2 hb
        refine wpE_skip (by kernel_rfl) ?_
        change WpE _ _ c_towpathref13_Shard_26 _ _ _
        refine wpE_seq (x := c_towpathref13_Shard_27) (y := c_towpathref13_Shard_29) (by kernel_rfl) ?_
        refine wpE_drawregion (id := 6) (ops := r_towpathref13_Shard_27) (by kernel_rfl) (by kernel_rfl) (by kernel_rfl) ?_
        refine qreg_run [.plain] 1 [(2, [], Value.pointer (some ⟨b_, 0, none⟩)), (15, [], Value.string key)] (by kernel_rfl) (by kernel_rfl) ?_
        obtain ⟨v16, hq, h⟩ := h
        refine qreg_enter (op := (Go.Op.call (Go.Call.mk (Go.Callee.value (Go.Operand.func 94)) #[(Go.Operand.tmp 15)] #[9]))) (ty := 112) (dst := some 16) 94 #[Value.string key] (Value.int .u32 v16) (by kernel_rfl) (fun ww => by kernel_rfl) (fun w' he => Calls.mono (hq w' he) (by rintro _ w'' ⟨_, rfl, rfl, hE⟩; exact ⟨rfl, hE⟩)) ?_
        clear hq
        refine qreg_run [.plain] 3 [(16, [], Value.int .u32 v16), (17, [], Value.pointer (some ⟨b_, 1, none⟩))] (by kernel_rfl) (by kernel_rfl) ?_
        obtain ⟨v18, hc, h⟩ := h
        refine qreg_load1 (t := 3) (a := (Go.Operand.tmp 17)) (b := b_) (o := 1) (ty := 3) (dst := some 18) (by kernel_rfl) (by kernel_rfl) (by kernel_rfl) hc ?_
        refine qreg_run [.plain] 5 [(16, [], Value.int .u32 v16), (19, [], Value.int .u32 (IntKind.u32.wrap v18))] (by kernel_rfl) (by kernel_rfl) ?_
        obtain ⟨h0, h⟩ := h
        refine qreg_val (op := (Go.Op.binOp Go.BinOp.rem 112 (Go.Operand.tmp 16) (Go.Operand.tmp 19) 112)) (ty := 112) (dst := some 20) (Value.int .u32 (Int.tmod v16 (IntKind.u32.wrap v18))) (by kernel_rfl) (fun ww => run_rem (by kernel_rfl) (by kernel_rfl) h0 ww) ?_
        refine qreg_run [.plain, .plain, .plain] 9 [(4, [], Value.int .i64 (IntKind.i64.wrap (Int.tmod v16 (IntKind.u32.wrap v18)))), (5, [], Value.int .i64 0)] (by kernel_rfl) (by kernel_rfl) ?_
        refine qreg_end [(4, Value.int .i64 (IntKind.i64.wrap (Int.tmod v16 (IntKind.u32.wrap v18)))), (5, Value.int .i64 0)] (by kernel_rfl) (by kernel_rfl) (fun w5 hw => ?_)
        replace h := h w5 hw
        clear hw
        change WpE _ _ c_towpathref13_Shard_29 _ _ _
        refine wpE_ret (by kernel_rfl) ?_
        repeat (first | refine seqQ_ret ?_ | refine blockQ_ret ?_ | refine loopQ_ret ?_ | refine cutQ_ret ?_)
        exact retT (rs := [(Go.ResultVar.tmp 4), (Go.ResultVar.tmp 5)]) (vs := [Value.int .i64 (IntKind.i64.wrap (Int.tmod v16 (IntKind.u32.wrap v18))), Value.int .i64 0]) (by kernel_rfl) (⟨by kernel_rfl, ⟨by kernel_rfl, trivial⟩⟩) (by kernel_rfl) ⟨(IntKind.i64.wrap (Int.tmod v16 (IntKind.u32.wrap v18))), 0, rfl, h⟩
  · rintro e w' ⟨v, rfl, r0, r1, rfl, h⟩; exact ⟨r0, r1, rfl, h⟩
end Go.Proofs.Ytfmkemmgakdddaa
