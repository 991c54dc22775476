/- WRITTEN BY PROGRAM (dec.py): for each Go function the clean formula F, the call's contract C, and the proof S that F gives C. -/
import Derived.Test.YtchcljkflklddaaRows
import Derived.Test.YtchcljkflklddaaGF
namespace Go.Proofs.Ytchcljkflklddaa
open Go
set_option linter.unusedVariables false

/-! ### towpath/towpathlaw13.alive (function 36) -/
noncomputable def c_towpathlaw13_alive_0 : Code := (Try.f36.body).getD Code.skip
noncomputable def c_towpathlaw13_alive_1 : Code := Code.l c_towpathlaw13_alive_0
noncomputable def r_towpathlaw13_alive_1 : Array Oper := Code.ops c_towpathlaw13_alive_1
noncomputable def c_towpathlaw13_alive_3 : Code := Code.r c_towpathlaw13_alive_0
noncomputable def c_towpathlaw13_alive_4 : Code := Code.l c_towpathlaw13_alive_3
noncomputable def r_towpathlaw13_alive_4 : Array Oper := Code.ops c_towpathlaw13_alive_4
noncomputable def c_towpathlaw13_alive_6 : Code := Code.r c_towpathlaw13_alive_3
noncomputable def c_towpathlaw13_alive_7 : Code := Code.l c_towpathlaw13_alive_6
noncomputable def r_towpathlaw13_alive_7 : Array Oper := Code.ops c_towpathlaw13_alive_7
noncomputable def c_towpathlaw13_alive_9 : Code := Code.r c_towpathlaw13_alive_6
noncomputable def c_towpathlaw13_alive_10 : Code := Code.l c_towpathlaw13_alive_9
noncomputable def r_towpathlaw13_alive_10 : Array Oper := Code.ops c_towpathlaw13_alive_10
noncomputable def c_towpathlaw13_alive_12 : Code := Code.r c_towpathlaw13_alive_9
noncomputable def c_towpathlaw13_alive_13 : Code := Code.l c_towpathlaw13_alive_12
noncomputable def r_towpathlaw13_alive_13 : Array Oper := Code.ops c_towpathlaw13_alive_13
noncomputable def c_towpathlaw13_alive_15 : Code := Code.r c_towpathlaw13_alive_12
noncomputable def c_towpathlaw13_alive_16 : Code := Code.l c_towpathlaw13_alive_15
noncomputable def r_towpathlaw13_alive_16 : Array Oper := Code.ops c_towpathlaw13_alive_16
noncomputable def c_towpathlaw13_alive_18 : Code := Code.r c_towpathlaw13_alive_15

set_option maxRecDepth 100000 in
set_option maxHeartbeats 4000000 in
theorem S_towpathlaw13_alive {w : World} {R : Bool → World → Prop} (h : F_towpathlaw13_alive R w) : C_towpathlaw13_alive w R := by
  unfold F_towpathlaw13_alive at h
  unfold C_towpathlaw13_alive
  refine Calls.mono (calls_of_wpE (args := []) (R := fun v w' => ∃ (r0 : Bool), v = Value.bool r0 ∧ R r0 w') Try.func36 (c := c_towpathlaw13_alive_0) (by kernel_rfl) 62 (by kernel_rfl) (by kernel_rfl) [] (by kernel_rfl) ?_) ?_
  · refine wpE_seq (x := c_towpathlaw13_alive_1) (y := c_towpathlaw13_alive_3) (by kernel_rfl) ?_
    refine wpE_region (id := 0) (ops := r_towpathlaw13_alive_1) (by kernel_rfl) ?_
    refine reg_run [.plain] 1 [] (by kernel_rfl) (by kernel_rfl) ?_
    refine reg_end [] (by kernel_rfl) (by kernel_rfl) ?_
    change WpE _ _ c_towpathlaw13_alive_3 _ _ _
    refine wpE_seq (x := c_towpathlaw13_alive_4) (y := c_towpathlaw13_alive_6) (by kernel_rfl) ?_
    refine wpE_region (id := 1) (ops := r_towpathlaw13_alive_4) (by kernel_rfl) ?_
    refine reg_run [.plain] 1 [(9, [], Value.agg #[Value.int .i64 2, Value.int .i64 3, Value.int .i64 4, Value.int .i64 1])] (by kernel_rfl) (by kernel_rfl) ?_
    refine reg_new (op := (Go.Op.alloc 23)) (ty := 0) (dst := some 1) (fun bb => Value.pointer (some ⟨bb, 0, none⟩)) (Obj.cells ([Value.int .i64 0, Value.int .i64 0, Value.int .i64 0, Value.int .i64 0]).toArray ty_api_Config (0, 0)) (by kernel_rfl) (by kernel_rfl) (fun b_ w1 hb hw => ?_)
    replace h := h b_ w1 hb hw
    clear hb hw
    refine reg_run [] 2 [(1, [], Value.pointer (some ⟨b_, 0, none⟩)), (9, [], Value.agg #[Value.int .i64 2, Value.int .i64 3, Value.int .i64 4, Value.int .i64 1])] (by kernel_rfl) (by kernel_rfl) ?_
    obtain ⟨hc, h⟩ := h
    refine reg_store (t := 23) (a := (Go.Operand.tmp 1)) (x := (Go.Operand.tmp 9)) (b := b_) (o := 0) (ty := 0) (dst := none) [Value.int .i64 2, Value.int .i64 3, Value.int .i64 4, Value.int .i64 1] (by kernel_rfl) (by kernel_rfl) (by kernel_rfl) (k := 4) (by kernel_rfl) (by kernel_rfl) (by kernel_rfl) hc (fun w2 hw => ?_)
    replace h := h w2 hw
    clear hw
    refine reg_end [(1, Value.pointer (some ⟨b_, 0, none⟩))] (by kernel_rfl) (by kernel_rfl) ?_
    change WpE _ _ c_towpathlaw13_alive_6 _ _ _
    refine wpE_seq (x := c_towpathlaw13_alive_7) (y := c_towpathlaw13_alive_9) (by kernel_rfl) ?_
    refine wpE_region (id := 2) (ops := r_towpathlaw13_alive_7) (by kernel_rfl) ?_
    refine reg_run [] 0 [(1, [], Value.pointer (some ⟨b_, 0, none⟩))] (by kernel_rfl) (by kernel_rfl) ?_
    obtain ⟨v11, hc, h⟩ := h
    refine reg_loadN (t := 23) (a := (Go.Operand.tmp 1)) (b := b_) (o := 0) (ty := 23) (dst := some 11) [Value.int .i64 v11.Lanes, Value.int .i64 v11.Shards, Value.int .i64 v11.Window, Value.int .i64 v11.Queue] (by kernel_rfl) (by kernel_rfl) (by kernel_rfl) (k := 4) (by kernel_rfl) (by kernel_rfl) hc ?_
    refine reg_run [] 1 [(1, [], Value.pointer (some ⟨b_, 0, none⟩)), (11, [], Value.agg #[Value.int .i64 v11.Lanes, Value.int .i64 v11.Shards, Value.int .i64 v11.Window, Value.int .i64 v11.Queue])] (by kernel_rfl) (by kernel_rfl) ?_
    refine reg_enter (op := (Go.Op.call (Go.Call.mk (Go.Callee.value (Go.Operand.func 17)) #[(Go.Operand.tmp 11)] #[23]))) (ty := 26) (dst := some 12) 17 #[Value.agg #[Value.int .i64 v11.Lanes, Value.int .i64 v11.Shards, Value.int .i64 v11.Window, Value.int .i64 v11.Queue]] (by kernel_rfl) (fun ww => by kernel_rfl) (Calls.mono h ?_)
    rintro _ w3 ⟨n_, e, rfl, h⟩
    refine ⟨_, rfl, ?_⟩
    refine reg_run [.plain, .plain, .plain, .plain, .plain] 7 [(1, [], Value.pointer (some ⟨b_, 0, none⟩)), (2, [], Value.int .i64 n_), (3, [], Value.int .i64 e)] (by kernel_rfl) (by kernel_rfl) ?_
    refine reg_end [(1, Value.pointer (some ⟨b_, 0, none⟩)), (2, Value.int .i64 n_), (3, Value.int .i64 e)] (by kernel_rfl) (by kernel_rfl) ?_
    change WpE _ _ c_towpathlaw13_alive_9 _ _ _
    refine wpE_seq (x := c_towpathlaw13_alive_10) (y := c_towpathlaw13_alive_12) (by kernel_rfl) ?_
    refine wpE_region (id := 3) (ops := r_towpathlaw13_alive_10) (by kernel_rfl) ?_
    refine reg_run [] 0 [(1, [], Value.pointer (some ⟨b_, 0, none⟩)), (2, [], Value.int .i64 n_), (3, [], Value.int .i64 e)] (by kernel_rfl) (by kernel_rfl) ?_
    obtain ⟨v16, hc, h⟩ := h
    refine reg_loadN (t := 23) (a := (Go.Operand.tmp 1)) (b := b_) (o := 0) (ty := 23) (dst := some 16) [Value.int .i64 v16.Lanes, Value.int .i64 v16.Shards, Value.int .i64 v16.Window, Value.int .i64 v16.Queue] (by kernel_rfl) (by kernel_rfl) (by kernel_rfl) (k := 4) (by kernel_rfl) (by kernel_rfl) hc ?_
    refine reg_run [] 1 [(1, [], Value.pointer (some ⟨b_, 0, none⟩)), (2, [], Value.int .i64 n_), (3, [], Value.int .i64 e), (16, [], Value.agg #[Value.int .i64 v16.Lanes, Value.int .i64 v16.Shards, Value.int .i64 v16.Window, Value.int .i64 v16.Queue])] (by kernel_rfl) (by kernel_rfl) ?_
    refine reg_enter (op := (Go.Op.call (Go.Call.mk (Go.Callee.value (Go.Operand.func 19)) #[(Go.Operand.tmp 16), (Go.Operand.const (Go.Value.int Go.IntKind.i64 5))] #[23, 3]))) (ty := 31) (dst := some 17) 19 #[Value.agg #[Value.int .i64 v16.Lanes, Value.int .i64 v16.Shards, Value.int .i64 v16.Window, Value.int .i64 v16.Queue], Value.int .i64 5] (by kernel_rfl) (fun ww => by kernel_rfl) (Calls.mono h ?_)
    rintro _ w4 ⟨s, k, f, rfl, h⟩
    refine ⟨_, rfl, ?_⟩
    refine reg_run [.plain, .plain, .plain, .plain, .plain, .plain, .plain] 9 [(1, [], Value.pointer (some ⟨b_, 0, none⟩)), (2, [], Value.int .i64 n_), (3, [], Value.int .i64 e), (4, [], Value.string s), (5, [], Value.int .i64 k), (6, [], Value.int .i64 f)] (by kernel_rfl) (by kernel_rfl) ?_
    refine reg_end [(1, Value.pointer (some ⟨b_, 0, none⟩)), (2, Value.int .i64 n_), (3, Value.int .i64 e), (4, Value.string s), (5, Value.int .i64 k), (6, Value.int .i64 f)] (by kernel_rfl) (by kernel_rfl) ?_
    change WpE _ _ c_towpathlaw13_alive_12 _ _ _
    refine wpE_seq (x := c_towpathlaw13_alive_13) (y := c_towpathlaw13_alive_15) (by kernel_rfl) ?_
    refine wpE_region (id := 4) (ops := r_towpathlaw13_alive_13) (by kernel_rfl) ?_
    refine reg_run [] 0 [(1, [], Value.pointer (some ⟨b_, 0, none⟩)), (2, [], Value.int .i64 n_), (3, [], Value.int .i64 e), (4, [], Value.string s), (5, [], Value.int .i64 k), (6, [], Value.int .i64 f)] (by kernel_rfl) (by kernel_rfl) ?_
    obtain ⟨v22, hc, h⟩ := h
    refine reg_loadN (t := 23) (a := (Go.Operand.tmp 1)) (b := b_) (o := 0) (ty := 23) (dst := some 22) [Value.int .i64 v22.Lanes, Value.int .i64 v22.Shards, Value.int .i64 v22.Window, Value.int .i64 v22.Queue] (by kernel_rfl) (by kernel_rfl) (by kernel_rfl) (k := 4) (by kernel_rfl) (by kernel_rfl) hc ?_
    refine reg_run [] 1 [(1, [], Value.pointer (some ⟨b_, 0, none⟩)), (2, [], Value.int .i64 n_), (3, [], Value.int .i64 e), (4, [], Value.string s), (5, [], Value.int .i64 k), (6, [], Value.int .i64 f), (22, [], Value.agg #[Value.int .i64 v22.Lanes, Value.int .i64 v22.Shards, Value.int .i64 v22.Window, Value.int .i64 v22.Queue])] (by kernel_rfl) (by kernel_rfl) ?_
    refine reg_enter (op := (Go.Op.call (Go.Call.mk (Go.Callee.value (Go.Operand.func 13)) #[(Go.Operand.tmp 22), (Go.Operand.const (Go.Value.string (ByteArray.mk #[102, 111, 111, 98, 97, 114])))] #[23, 9]))) (ty := 26) (dst := some 23) 13 #[Value.agg #[Value.int .i64 v22.Lanes, Value.int .i64 v22.Shards, Value.int .i64 v22.Window, Value.int .i64 v22.Queue], Value.string (ByteArray.mk #[102, 111, 111, 98, 97, 114])] (by kernel_rfl) (fun ww => by kernel_rfl) (Calls.mono h ?_)
    rintro _ w5 ⟨m, g, rfl, h⟩
    refine ⟨_, rfl, ?_⟩
    refine reg_run [.plain, .plain, .plain, .plain, .plain] 7 [(1, [], Value.pointer (some ⟨b_, 0, none⟩)), (2, [], Value.int .i64 n_), (3, [], Value.int .i64 e), (4, [], Value.string s), (5, [], Value.int .i64 k), (6, [], Value.int .i64 f), (7, [], Value.int .i64 m), (8, [], Value.int .i64 g)] (by kernel_rfl) (by kernel_rfl) ?_
    refine reg_end [(1, Value.pointer (some ⟨b_, 0, none⟩)), (2, Value.int .i64 n_), (3, Value.int .i64 e), (4, Value.string s), (5, Value.int .i64 k), (6, Value.int .i64 f), (7, Value.int .i64 m), (8, Value.int .i64 g)] (by kernel_rfl) (by kernel_rfl) ?_
    change WpE _ _ c_towpathlaw13_alive_15 _ _ _
    refine wpE_seq (x := c_towpathlaw13_alive_16) (y := c_towpathlaw13_alive_18) (by kernel_rfl) ?_
    refine wpE_region (id := 5) (ops := r_towpathlaw13_alive_16) (by kernel_rfl) ?_
    refine reg_run [] 0 [(1, [], Value.pointer (some ⟨b_, 0, none⟩)), (2, [], Value.int .i64 n_), (3, [], Value.int .i64 e), (4, [], Value.string s), (5, [], Value.int .i64 k), (6, [], Value.int .i64 f), (7, [], Value.int .i64 m), (8, [], Value.int .i64 g)] (by kernel_rfl) (by kernel_rfl) ?_
    obtain ⟨v26, hc, h⟩ := h
    refine reg_loadN (t := 23) (a := (Go.Operand.tmp 1)) (b := b_) (o := 0) (ty := 23) (dst := some 26) [Value.int .i64 v26.Lanes, Value.int .i64 v26.Shards, Value.int .i64 v26.Window, Value.int .i64 v26.Queue] (by kernel_rfl) (by kernel_rfl) (by kernel_rfl) (k := 4) (by kernel_rfl) (by kernel_rfl) hc ?_
    refine reg_run [] 1 [(2, [], Value.int .i64 n_), (3, [], Value.int .i64 e), (4, [], Value.string s), (5, [], Value.int .i64 k), (6, [], Value.int .i64 f), (7, [], Value.int .i64 m), (8, [], Value.int .i64 g), (26, [], Value.agg #[Value.int .i64 v26.Lanes, Value.int .i64 v26.Shards, Value.int .i64 v26.Window, Value.int .i64 v26.Queue])] (by kernel_rfl) (by kernel_rfl) ?_
    refine reg_enter (op := (Go.Op.call (Go.Call.mk (Go.Callee.value (Go.Operand.func 15)) #[(Go.Operand.tmp 26)] #[23]))) (ty := 25) (dst := some 27) 15 #[Value.agg #[Value.int .i64 v26.Lanes, Value.int .i64 v26.Shards, Value.int .i64 v26.Window, Value.int .i64 v26.Queue]] (by kernel_rfl) (fun ww => by kernel_rfl) (Calls.mono h ?_)
    rintro _ w6 ⟨v27, rfl, h⟩
    refine ⟨_, rfl, ?_⟩
    refine reg_run [.plain, .plain, .plain] 5 [(2, [], Value.int .i64 n_), (3, [], Value.int .i64 e), (4, [], Value.string s), (5, [], Value.int .i64 k), (6, [], Value.int .i64 f), (7, [], Value.int .i64 m), (8, [], Value.int .i64 g), (29, [], Value.bool (v27 == 0)), (30, [(29, true)], Value.agg #[Value.int .i64 0, Value.int .i64 0, Value.int .i64 0, Value.int .i64 0])] (by kernel_rfl) (by kernel_rfl) ?_
    refine reg_split 29 (v27 == 0) (by kernel_rfl) (fun hb => ?_) (fun hb => ?_)
    · replace h := h.1 hb
      refine reg_run [] 5 [(2, [], Value.int .i64 n_), (3, [], Value.int .i64 e), (4, [], Value.string s), (5, [], Value.int .i64 k), (6, [], Value.int .i64 f), (7, [], Value.int .i64 m), (8, [], Value.int .i64 g), (29, [], Value.bool true), (30, [], Value.agg #[Value.int .i64 0, Value.int .i64 0, Value.int .i64 0, Value.int .i64 0])] (by kernel_rfl) (by kernel_rfl) ?_
      refine reg_run [] 5 [(2, [], Value.int .i64 n_), (3, [], Value.int .i64 e), (4, [], Value.string s), (5, [], Value.int .i64 k), (6, [], Value.int .i64 f), (7, [], Value.int .i64 m), (8, [], Value.int .i64 g), (29, [], Value.bool true), (30, [], Value.agg #[Value.int .i64 0, Value.int .i64 0, Value.int .i64 0, Value.int .i64 0])] (by kernel_rfl) (by kernel_rfl) ?_
      refine reg_enter (op := (Go.Op.call (Go.Call.mk (Go.Callee.value (Go.Operand.func 15)) #[(Go.Operand.tmp 30)] #[23]))) (ty := 25) (dst := some 31) 15 #[Value.agg #[Value.int .i64 0, Value.int .i64 0, Value.int .i64 0, Value.int .i64 0]] (by kernel_rfl) (fun ww => by kernel_rfl) (Calls.mono h ?_)
      rintro _ w7 ⟨v31, rfl, h⟩
      refine ⟨_, rfl, ?_⟩
      refine reg_run [.sure, .plain, .plain, .plain, .plain, .pick, .plain, .plain, .plain, .pick, .plain, .plain, .plain, .pick, .plain, .plain, .plain, .pick, .plain, .plain, .plain, .pick, .plain, .plain, .plain, .pick, .plain, .plain, .plain, .pick, .plain] 37 [(0, [], Value.bool ((((((((v31 == 7) && (e == 0)) && (f == 0)) && (g == 0)) && (n_ == 7)) && (s.toList == (ByteArray.mk #[111, 119, 110, 101, 114]).toList)) && (k == 2)) && (m == 1)))] (by kernel_rfl) (by kernel_rfl) ?_
      refine reg_end [(0, Value.bool ((((((((v31 == 7) && (e == 0)) && (f == 0)) && (g == 0)) && (n_ == 7)) && (s.toList == (ByteArray.mk #[111, 119, 110, 101, 114]).toList)) && (k == 2)) && (m == 1)))] (by kernel_rfl) (by kernel_rfl) ?_
      change WpE _ _ c_towpathlaw13_alive_18 _ _ _
      refine wpE_ret (by kernel_rfl) ?_
      repeat (first | refine seqQ_ret ?_ | refine blockQ_ret ?_ | refine loopQ_ret ?_ | refine cutQ_ret ?_)
      exact retS (rs := [(Go.ResultVar.tmp 0)]) (v := Value.bool ((((((((v31 == 7) && (e == 0)) && (f == 0)) && (g == 0)) && (n_ == 7)) && (s.toList == (ByteArray.mk #[111, 119, 110, 101, 114]).toList)) && (k == 2)) && (m == 1))) (by kernel_rfl) (⟨by kernel_rfl, trivial⟩) ⟨((((((((v31 == 7) && (e == 0)) && (f == 0)) && (g == 0)) && (n_ == 7)) && (s.toList == (ByteArray.mk #[111, 119, 110, 101, 114]).toList)) && (k == 2)) && (m == 1)), rfl, h⟩
    · replace h := h.2 hb
      refine reg_run [] 5 [(2, [], Value.int .i64 n_), (3, [], Value.int .i64 e), (4, [], Value.string s), (5, [], Value.int .i64 k), (6, [], Value.int .i64 f), (7, [], Value.int .i64 m), (8, [], Value.int .i64 g), (29, [], Value.bool false), (30, [], undef)] (by kernel_rfl) (by kernel_rfl) ?_
      refine reg_run [.skip, .skip, .plain, .plain, .skip, .skip, .plain, .plain, .skip, .skip, .plain, .plain, .skip, .skip, .plain, .plain, .skip, .skip, .plain, .plain, .skip, .skip, .plain, .plain, .skip, .skip, .plain, .plain, .skip, .skip, .plain, .plain] 37 [(0, [], Value.bool false)] (by kernel_rfl) (by kernel_rfl) ?_
      refine reg_end [(0, Value.bool false)] (by kernel_rfl) (by kernel_rfl) ?_
      change WpE _ _ c_towpathlaw13_alive_18 _ _ _
      refine wpE_ret (by kernel_rfl) ?_
      repeat (first | refine seqQ_ret ?_ | refine blockQ_ret ?_ | refine loopQ_ret ?_ | refine cutQ_ret ?_)
      exact retS (rs := [(Go.ResultVar.tmp 0)]) (v := Value.bool false) (by kernel_rfl) (⟨by kernel_rfl, trivial⟩) ⟨false, rfl, h⟩
  · rintro e w' ⟨v, rfl, r0, rfl, h⟩; exact ⟨r0, rfl, h⟩
end Go.Proofs.Ytchcljkflklddaa
