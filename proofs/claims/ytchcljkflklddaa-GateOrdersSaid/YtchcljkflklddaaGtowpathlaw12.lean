/- WRITTEN BY PROGRAM (dec.py): for each Go function the clean formula F, the call's contract C, and the proof S that F gives C. -/
import Derived.Test.YtchcljkflklddaaRows
import Derived.Test.YtchcljkflklddaaGF
namespace Go.Proofs.Ytchcljkflklddaa
open Go
set_option linter.unusedVariables false

/-! ### towpath/towpathlaw12.alive (function 29) -/
noncomputable def c_towpathlaw12_alive_0 : Code := (Try.f29.body).getD Code.skip
noncomputable def c_towpathlaw12_alive_1 : Code := Code.l c_towpathlaw12_alive_0
noncomputable def r_towpathlaw12_alive_1 : Array Oper := Code.ops c_towpathlaw12_alive_1
noncomputable def c_towpathlaw12_alive_3 : Code := Code.r c_towpathlaw12_alive_0
noncomputable def c_towpathlaw12_alive_4 : Code := Code.l c_towpathlaw12_alive_3
noncomputable def r_towpathlaw12_alive_4 : Array Oper := Code.ops c_towpathlaw12_alive_4
noncomputable def c_towpathlaw12_alive_6 : Code := Code.r c_towpathlaw12_alive_3
noncomputable def c_towpathlaw12_alive_7 : Code := Code.l c_towpathlaw12_alive_6
noncomputable def r_towpathlaw12_alive_7 : Array Oper := Code.ops c_towpathlaw12_alive_7
noncomputable def c_towpathlaw12_alive_9 : Code := Code.r c_towpathlaw12_alive_6
noncomputable def c_towpathlaw12_alive_10 : Code := Code.l c_towpathlaw12_alive_9
noncomputable def c_towpathlaw12_alive_11 : Code := Code.l c_towpathlaw12_alive_10
noncomputable def r_towpathlaw12_alive_11 : Array Oper := Code.ops c_towpathlaw12_alive_11
noncomputable def c_towpathlaw12_alive_13 : Code := Code.r c_towpathlaw12_alive_10
noncomputable def c_towpathlaw12_alive_14 : Code := Code.l c_towpathlaw12_alive_13
noncomputable def c_towpathlaw12_alive_15 : Code := Code.l c_towpathlaw12_alive_14
noncomputable def r_towpathlaw12_alive_15 : Array Oper := Code.ops c_towpathlaw12_alive_15
noncomputable def c_towpathlaw12_alive_17 : Code := Code.r c_towpathlaw12_alive_14
noncomputable def c_towpathlaw12_alive_18 : Code := Code.r c_towpathlaw12_alive_13
noncomputable def c_towpathlaw12_alive_19 : Code := Code.r c_towpathlaw12_alive_9
noncomputable def c_towpathlaw12_alive_20 : Code := Code.l c_towpathlaw12_alive_19
noncomputable def r_towpathlaw12_alive_20 : Array Oper := Code.ops c_towpathlaw12_alive_20
noncomputable def c_towpathlaw12_alive_22 : Code := Code.r c_towpathlaw12_alive_19
noncomputable def c_towpathlaw12_alive_23 : Code := Code.l c_towpathlaw12_alive_22
noncomputable def r_towpathlaw12_alive_23 : Array Oper := Code.ops c_towpathlaw12_alive_23
noncomputable def c_towpathlaw12_alive_25 : Code := Code.r c_towpathlaw12_alive_22
noncomputable def c_towpathlaw12_alive_26 : Code := Code.l c_towpathlaw12_alive_25
noncomputable def r_towpathlaw12_alive_26 : Array Oper := Code.ops c_towpathlaw12_alive_26
noncomputable def c_towpathlaw12_alive_28 : Code := Code.r c_towpathlaw12_alive_25

set_option maxRecDepth 100000 in
set_option maxHeartbeats 4000000 in
theorem S_towpathlaw12_alive {w : World} {R : Bool → World → Prop} (h : F_towpathlaw12_alive R w) : C_towpathlaw12_alive w R := by
  unfold F_towpathlaw12_alive at h
  unfold C_towpathlaw12_alive
  refine Calls.mono (calls_of_wpE (args := []) (R := fun v w' => ∃ (r0 : Bool), v = Value.bool r0 ∧ R r0 w') Try.func29 (c := c_towpathlaw12_alive_0) (by kernel_rfl) 65 (by kernel_rfl) (by kernel_rfl) [] (by kernel_rfl) ?_) ?_
  · refine wpE_seq (x := c_towpathlaw12_alive_1) (y := c_towpathlaw12_alive_3) (by kernel_rfl) ?_
    refine wpE_region (id := 0) (ops := r_towpathlaw12_alive_1) (by kernel_rfl) ?_
    refine reg_run [.plain] 1 [] (by kernel_rfl) (by kernel_rfl) ?_
    refine reg_end [] (by kernel_rfl) (by kernel_rfl) ?_
    change WpE _ _ c_towpathlaw12_alive_3 _ _ _
    refine wpE_seq (x := c_towpathlaw12_alive_4) (y := c_towpathlaw12_alive_6) (by kernel_rfl) ?_
    refine wpE_region (id := 1) (ops := r_towpathlaw12_alive_4) (by kernel_rfl) ?_
    refine reg_run [] 0 [] (by kernel_rfl) (by kernel_rfl) ?_
    refine reg_new (op := (Go.Op.buildSlice 49 2 #[(0, (Go.Operand.const (Go.Value.int Go.IntKind.i64 5))), (1, (Go.Operand.const (Go.Value.int Go.IntKind.i64 7)))])) (ty := 49) (dst := some 10) (fun bb => Value.slice (some ⟨bb, 0, none⟩) 2 2) (Obj.cells ([Value.int .i64 5, Value.int .i64 7]).toArray ty_int (0, 0)) (by kernel_rfl) (by kernel_rfl) (fun b_ w1 hb hw => ?_)
    replace h := h b_ w1 hb hw
    clear hb hw
    refine reg_run [] 1 [(10, [], Value.slice (some ⟨b_, 0, none⟩) 2 2)] (by kernel_rfl) (by kernel_rfl) ?_
    refine reg_enter (op := (Go.Op.call (Go.Call.mk (Go.Callee.value (Go.Operand.func 30)) #[(Go.Operand.const (Go.Value.int Go.IntKind.i64 3)), (Go.Operand.tmp 10)] #[3, 49]))) (ty := 45) (dst := some 11) 30 #[Value.int .i64 3, Value.slice (some ⟨b_, 0, none⟩) 2 2] (by kernel_rfl) (fun ww => by kernel_rfl) (Calls.mono h ?_)
    rintro _ w2 ⟨g, e, rfl, h⟩
    refine ⟨_, rfl, ?_⟩
    refine reg_run [.plain, .plain, .plain, .plain, .plain] 7 [(1, [], Value.pointer g), (2, [], Value.int .i64 e)] (by kernel_rfl) (by kernel_rfl) ?_
    refine reg_end [(1, Value.pointer g), (2, Value.int .i64 e)] (by kernel_rfl) (by kernel_rfl) ?_
    change WpE _ _ c_towpathlaw12_alive_6 _ _ _
    refine wpE_seq (x := c_towpathlaw12_alive_7) (y := c_towpathlaw12_alive_9) (by kernel_rfl) ?_
    refine wpE_region (id := 2) (ops := r_towpathlaw12_alive_7) (by kernel_rfl) ?_
    refine reg_run [] 0 [(1, [], Value.pointer g), (2, [], Value.int .i64 e)] (by kernel_rfl) (by kernel_rfl) ?_
    refine reg_new (op := (Go.Op.buildSlice 49 1 #[(0, (Go.Operand.const (Go.Value.int Go.IntKind.i64 4)))])) (ty := 49) (dst := some 15) (fun bb => Value.slice (some ⟨bb, 0, none⟩) 1 1) (Obj.cells ([Value.int .i64 4]).toArray ty_int (0, 0)) (by kernel_rfl) (by kernel_rfl) (fun b_1 w3 hb hw => ?_)
    replace h := h b_1 w3 hb hw
    clear hb hw
    refine reg_run [] 1 [(1, [], Value.pointer g), (2, [], Value.int .i64 e), (15, [], Value.slice (some ⟨b_1, 0, none⟩) 1 1)] (by kernel_rfl) (by kernel_rfl) ?_
    refine reg_enter (op := (Go.Op.call (Go.Call.mk (Go.Callee.value (Go.Operand.func 30)) #[(Go.Operand.const (Go.Value.int Go.IntKind.i64 3)), (Go.Operand.tmp 15)] #[3, 49]))) (ty := 45) (dst := some 16) 30 #[Value.int .i64 3, Value.slice (some ⟨b_1, 0, none⟩) 1 1] (by kernel_rfl) (fun ww => by kernel_rfl) (Calls.mono h ?_)
    rintro _ w4 ⟨v16, f, rfl, h⟩
    refine ⟨_, rfl, ?_⟩
    refine reg_run [.plain, .plain, .plain, .plain, .plain] 7 [(1, [], Value.pointer g), (2, [], Value.int .i64 e), (4, [], Value.int .i64 f)] (by kernel_rfl) (by kernel_rfl) ?_
    refine reg_end [(1, Value.pointer g), (2, Value.int .i64 e), (4, Value.int .i64 f)] (by kernel_rfl) (by kernel_rfl) ?_
    change WpE _ _ c_towpathlaw12_alive_9 _ _ _
    refine wpE_seq (x := c_towpathlaw12_alive_10) (y := c_towpathlaw12_alive_19) (by kernel_rfl) ?_
    refine wpE_seq (x := c_towpathlaw12_alive_11) (y := c_towpathlaw12_alive_13) (by kernel_rfl) ?_
    refine wpE_region (id := 3) (ops := r_towpathlaw12_alive_11) (by kernel_rfl) ?_
    refine reg_run [.plain, .plain, .plain, .plain, .plain, .pick] 6 [(1, [], Value.pointer g), (24, [], Value.bool ((e != 0) || (f != 1)))] (by kernel_rfl) (by kernel_rfl) ?_
    refine reg_end [(1, Value.pointer g), (24, Value.bool ((e != 0) || (f != 1)))] (by kernel_rfl) (by kernel_rfl) ?_
    change WpE _ _ c_towpathlaw12_alive_13 _ _ _
    refine wpE_cond (o := (Operand.tmp 24)) (b := ((e != 0) || (f != 1))) (x := c_towpathlaw12_alive_14) (y := c_towpathlaw12_alive_18) (by kernel_rfl) (by kernel_rfl) (fun hb => ?_) (fun hb => ?_)
    · replace h := h.1 hb
      refine wpE_seq (x := c_towpathlaw12_alive_15) (y := c_towpathlaw12_alive_17) (by kernel_rfl) ?_
      refine wpE_region (id := 4) (ops := r_towpathlaw12_alive_15) (by kernel_rfl) ?_
      refine reg_run [.plain] 1 [(0, [], Value.bool false)] (by kernel_rfl) (by kernel_rfl) ?_
      refine reg_end [(0, Value.bool false)] (by kernel_rfl) (by kernel_rfl) ?_
      change WpE _ _ c_towpathlaw12_alive_17 _ _ _
      refine wpE_ret (by kernel_rfl) ?_
      repeat (first | refine seqQ_ret ?_ | refine blockQ_ret ?_ | refine loopQ_ret ?_ | refine cutQ_ret ?_)
      exact retS (rs := [(Go.ResultVar.tmp 0)]) (v := Value.bool false) (by kernel_rfl) (⟨by kernel_rfl, trivial⟩) ⟨false, rfl, h⟩
    · replace h := h.2 hb
      refine wpE_skip (by kernel_rfl) ?_
      change WpE _ _ c_towpathlaw12_alive_19 _ _ _
      refine wpE_seq (x := c_towpathlaw12_alive_20) (y := c_towpathlaw12_alive_22) (by kernel_rfl) ?_
      refine wpE_region (id := 5) (ops := r_towpathlaw12_alive_20) (by kernel_rfl) ?_
      refine reg_run [.plain] 1 [(1, [], Value.pointer g), (26, [], Value.pointer g)] (by kernel_rfl) (by kernel_rfl) ?_
      refine reg_enter (op := (Go.Op.call (Go.Call.mk (Go.Callee.value (Go.Operand.func 32)) #[(Go.Operand.tmp 26), (Go.Operand.const (Go.Value.int Go.IntKind.i64 4))] #[44, 3]))) (ty := 26) (dst := some 27) 32 #[Value.pointer g, Value.int .i64 4] (by kernel_rfl) (fun ww => by kernel_rfl) (Calls.mono h ?_)
      rintro _ w5 ⟨a_, h_, rfl, h⟩
      refine ⟨_, rfl, ?_⟩
      refine reg_run [.plain, .plain, .plain, .plain, .plain] 7 [(1, [], Value.pointer g), (5, [], Value.int .i64 a_), (6, [], Value.int .i64 h_)] (by kernel_rfl) (by kernel_rfl) ?_
      refine reg_end [(1, Value.pointer g), (5, Value.int .i64 a_), (6, Value.int .i64 h_)] (by kernel_rfl) (by kernel_rfl) ?_
      change WpE _ _ c_towpathlaw12_alive_22 _ _ _
      refine wpE_seq (x := c_towpathlaw12_alive_23) (y := c_towpathlaw12_alive_25) (by kernel_rfl) ?_
      refine wpE_region (id := 6) (ops := r_towpathlaw12_alive_23) (by kernel_rfl) ?_
      refine reg_run [.plain] 1 [(1, [], Value.pointer g), (5, [], Value.int .i64 a_), (6, [], Value.int .i64 h_), (31, [], Value.pointer g)] (by kernel_rfl) (by kernel_rfl) ?_
      refine reg_enter (op := (Go.Op.call (Go.Call.mk (Go.Callee.value (Go.Operand.func 32)) #[(Go.Operand.tmp 31), (Go.Operand.const (Go.Value.int Go.IntKind.i64 5))] #[44, 3]))) (ty := 26) (dst := some 32) 32 #[Value.pointer g, Value.int .i64 5] (by kernel_rfl) (fun ww => by kernel_rfl) (Calls.mono h ?_)
      rintro _ w6 ⟨v32, i, rfl, h⟩
      refine ⟨_, rfl, ?_⟩
      refine reg_run [.plain, .plain, .plain, .plain, .plain] 7 [(1, [], Value.pointer g), (5, [], Value.int .i64 a_), (6, [], Value.int .i64 h_), (8, [], Value.int .i64 i)] (by kernel_rfl) (by kernel_rfl) ?_
      refine reg_end [(1, Value.pointer g), (5, Value.int .i64 a_), (6, Value.int .i64 h_), (8, Value.int .i64 i)] (by kernel_rfl) (by kernel_rfl) ?_
      change WpE _ _ c_towpathlaw12_alive_25 _ _ _
      refine wpE_seq (x := c_towpathlaw12_alive_26) (y := c_towpathlaw12_alive_28) (by kernel_rfl) ?_
      refine wpE_region (id := 7) (ops := r_towpathlaw12_alive_26) (by kernel_rfl) ?_
      refine reg_run [.plain, .plain, .plain, .plain, .plain, .pick, .plain, .plain, .plain, .pick, .plain, .plain] 12 [(1, [], Value.pointer g), (45, [], Value.bool (((h_ == 0) && (i == 1)) && (a_ == 2))), (46, [(45, true)], Value.pointer g)] (by kernel_rfl) (by kernel_rfl) ?_
      refine reg_split 45 (((h_ == 0) && (i == 1)) && (a_ == 2)) (by kernel_rfl) (fun hb => ?_) (fun hb => ?_)
      · replace h := h.1 hb
        refine reg_run [] 12 [(1, [], Value.pointer g), (45, [], Value.bool true), (46, [], Value.pointer g)] (by kernel_rfl) (by kernel_rfl) ?_
        refine reg_run [] 12 [(1, [], Value.pointer g), (45, [], Value.bool true), (46, [], Value.pointer g)] (by kernel_rfl) (by kernel_rfl) ?_
        refine reg_enter (op := (Go.Op.call (Go.Call.mk (Go.Callee.value (Go.Operand.func 31)) #[(Go.Operand.tmp 46)] #[44]))) (ty := 3) (dst := some 47) 31 #[Value.pointer g] (by kernel_rfl) (fun ww => by kernel_rfl) (Calls.mono h ?_)
        rintro _ w7 ⟨v47, rfl, h⟩
        refine ⟨_, rfl, ?_⟩
        refine reg_run [.sure, .plain, .plain, .plain] 17 [(1, [], Value.pointer g), (50, [], Value.bool (v47 == 5)), (51, [(50, true)], Value.pointer g)] (by kernel_rfl) (by kernel_rfl) ?_
        refine reg_split 50 (v47 == 5) (by kernel_rfl) (fun hb => ?_) (fun hb => ?_)
        · replace h := h.1 hb
          refine reg_run [] 17 [(1, [], Value.pointer g), (50, [], Value.bool true), (51, [], Value.pointer g)] (by kernel_rfl) (by kernel_rfl) ?_
          refine reg_run [] 17 [(1, [], Value.pointer g), (50, [], Value.bool true), (51, [], Value.pointer g)] (by kernel_rfl) (by kernel_rfl) ?_
          refine reg_enter (op := (Go.Op.call (Go.Call.mk (Go.Callee.value (Go.Operand.func 34)) #[(Go.Operand.tmp 51), (Go.Operand.const (Go.Value.int Go.IntKind.i64 7))] #[44, 3]))) (ty := 4) (dst := some 52) 34 #[Value.pointer g, Value.int .i64 7] (by kernel_rfl) (fun ww => by kernel_rfl) (Calls.mono h ?_)
          rintro _ w8 ⟨v52, rfl, h⟩
          refine ⟨_, rfl, ?_⟩
          refine reg_run [.plain, .plain, .plain] 21 [(1, [], Value.pointer g), (54, [], Value.bool v52), (55, [(54, true)], Value.pointer g)] (by kernel_rfl) (by kernel_rfl) ?_
          refine reg_split 54 v52 (by kernel_rfl) (fun hb => ?_) (fun hb => ?_)
          · replace h := h.1 hb
            refine reg_run [] 21 [(1, [], Value.pointer g), (54, [], Value.bool true), (55, [], Value.pointer g)] (by kernel_rfl) (by kernel_rfl) ?_
            refine reg_run [] 21 [(1, [], Value.pointer g), (54, [], Value.bool true), (55, [], Value.pointer g)] (by kernel_rfl) (by kernel_rfl) ?_
            refine reg_enter (op := (Go.Op.call (Go.Call.mk (Go.Callee.value (Go.Operand.func 34)) #[(Go.Operand.tmp 55), (Go.Operand.const (Go.Value.int Go.IntKind.i64 6))] #[44, 3]))) (ty := 4) (dst := some 56) 34 #[Value.pointer g, Value.int .i64 6] (by kernel_rfl) (fun ww => by kernel_rfl) (Calls.mono h ?_)
            rintro _ w9 ⟨v56, rfl, h⟩
            refine ⟨_, rfl, ?_⟩
            refine reg_run [.sure, .plain, .plain, .plain] 26 [(59, [], Value.bool (!v56)), (60, [(59, true)], Value.pointer g)] (by kernel_rfl) (by kernel_rfl) ?_
            refine reg_split 59 (!v56) (by kernel_rfl) (fun hb => ?_) (fun hb => ?_)
            · replace h := h.1 hb
              refine reg_run [] 26 [(59, [], Value.bool true), (60, [], Value.pointer g)] (by kernel_rfl) (by kernel_rfl) ?_
              refine reg_run [] 26 [(59, [], Value.bool true), (60, [], Value.pointer g)] (by kernel_rfl) (by kernel_rfl) ?_
              refine reg_enter (op := (Go.Op.call (Go.Call.mk (Go.Callee.value (Go.Operand.func 33)) #[(Go.Operand.tmp 60)] #[44]))) (ty := 49) (dst := some 61) 33 #[Value.pointer g] (by kernel_rfl) (fun ww => by kernel_rfl) (Calls.mono h ?_)
              rintro _ w10 ⟨v61, rfl, h⟩
              refine ⟨_, rfl, ?_⟩
              refine reg_run [] 27 [(59, [], Value.bool true), (61, [], Value.slice v61.ptr v61.len v61.cap)] (by kernel_rfl) (by kernel_rfl) ?_
              refine reg_new (op := (Go.Op.buildSlice 49 1 #[(0, (Go.Operand.const (Go.Value.int Go.IntKind.i64 7)))])) (ty := 49) (dst := some 62) (fun bb => Value.slice (some ⟨bb, 0, none⟩) 1 1) (Obj.cells ([Value.int .i64 7]).toArray ty_int (0, 0)) (by kernel_rfl) (by kernel_rfl) (fun b_2 w11 hb hw => ?_)
              replace h := h b_2 w11 hb hw
              clear hb hw
              refine reg_run [] 28 [(59, [], Value.bool true), (61, [], Value.slice v61.ptr v61.len v61.cap), (62, [], Value.slice (some ⟨b_2, 0, none⟩) 1 1)] (by kernel_rfl) (by kernel_rfl) ?_
              refine reg_enter (op := (Go.Op.call (Go.Call.mk (Go.Callee.value (Go.Operand.func 35)) #[(Go.Operand.tmp 61), (Go.Operand.tmp 62)] #[49, 49]))) (ty := 4) (dst := some 63) 35 #[Value.slice v61.ptr v61.len v61.cap, Value.slice (some ⟨b_2, 0, none⟩) 1 1] (by kernel_rfl) (fun ww => by kernel_rfl) (Calls.mono h ?_)
              rintro _ w12 ⟨v63, rfl, h⟩
              refine ⟨_, rfl, ?_⟩
              refine reg_run [.plain, .plain] 31 [(0, [], Value.bool v63)] (by kernel_rfl) (by kernel_rfl) ?_
              refine reg_end [(0, Value.bool v63)] (by kernel_rfl) (by kernel_rfl) ?_
              change WpE _ _ c_towpathlaw12_alive_28 _ _ _
              refine wpE_ret (by kernel_rfl) ?_
              repeat (first | refine seqQ_ret ?_ | refine blockQ_ret ?_ | refine loopQ_ret ?_ | refine cutQ_ret ?_)
              exact retS (rs := [(Go.ResultVar.tmp 0)]) (v := Value.bool v63) (by kernel_rfl) (⟨by kernel_rfl, trivial⟩) ⟨v63, rfl, h⟩
            · replace h := h.2 hb
              refine reg_run [] 26 [(59, [], Value.bool false), (60, [], undef)] (by kernel_rfl) (by kernel_rfl) ?_
              refine reg_run [.skip, .skip, .skip, .plain, .plain] 31 [(0, [], Value.bool false)] (by kernel_rfl) (by kernel_rfl) ?_
              refine reg_end [(0, Value.bool false)] (by kernel_rfl) (by kernel_rfl) ?_
              change WpE _ _ c_towpathlaw12_alive_28 _ _ _
              refine wpE_ret (by kernel_rfl) ?_
              repeat (first | refine seqQ_ret ?_ | refine blockQ_ret ?_ | refine loopQ_ret ?_ | refine cutQ_ret ?_)
              exact retS (rs := [(Go.ResultVar.tmp 0)]) (v := Value.bool false) (by kernel_rfl) (⟨by kernel_rfl, trivial⟩) ⟨false, rfl, h⟩
          · replace h := h.2 hb
            refine reg_run [] 21 [(1, [], Value.pointer g), (54, [], Value.bool false), (55, [], undef)] (by kernel_rfl) (by kernel_rfl) ?_
            refine reg_run [.skip, .skip, .plain, .plain, .skip, .skip, .skip, .skip, .plain, .plain] 31 [(0, [], Value.bool false)] (by kernel_rfl) (by kernel_rfl) ?_
            refine reg_end [(0, Value.bool false)] (by kernel_rfl) (by kernel_rfl) ?_
            change WpE _ _ c_towpathlaw12_alive_28 _ _ _
            refine wpE_ret (by kernel_rfl) ?_
            repeat (first | refine seqQ_ret ?_ | refine blockQ_ret ?_ | refine loopQ_ret ?_ | refine cutQ_ret ?_)
            exact retS (rs := [(Go.ResultVar.tmp 0)]) (v := Value.bool false) (by kernel_rfl) (⟨by kernel_rfl, trivial⟩) ⟨false, rfl, h⟩
        · replace h := h.2 hb
          refine reg_run [] 17 [(1, [], Value.pointer g), (50, [], Value.bool false), (51, [], undef)] (by kernel_rfl) (by kernel_rfl) ?_
          refine reg_run [.skip, .plain, .plain, .skip, .skip, .skip, .plain, .plain, .skip, .skip, .skip, .skip, .plain, .plain] 31 [(0, [], Value.bool false)] (by kernel_rfl) (by kernel_rfl) ?_
          refine reg_end [(0, Value.bool false)] (by kernel_rfl) (by kernel_rfl) ?_
          change WpE _ _ c_towpathlaw12_alive_28 _ _ _
          refine wpE_ret (by kernel_rfl) ?_
          repeat (first | refine seqQ_ret ?_ | refine blockQ_ret ?_ | refine loopQ_ret ?_ | refine cutQ_ret ?_)
          exact retS (rs := [(Go.ResultVar.tmp 0)]) (v := Value.bool false) (by kernel_rfl) (⟨by kernel_rfl, trivial⟩) ⟨false, rfl, h⟩
      · replace h := h.2 hb
        refine reg_run [] 12 [(1, [], Value.pointer g), (45, [], Value.bool false), (46, [], undef)] (by kernel_rfl) (by kernel_rfl) ?_
        refine reg_run [.skip, .skip, .plain, .plain, .skip, .skip, .plain, .plain, .skip, .skip, .skip, .plain, .plain, .skip, .skip, .skip, .skip, .plain, .plain] 31 [(0, [], Value.bool false)] (by kernel_rfl) (by kernel_rfl) ?_
        refine reg_end [(0, Value.bool false)] (by kernel_rfl) (by kernel_rfl) ?_
        change WpE _ _ c_towpathlaw12_alive_28 _ _ _
        refine wpE_ret (by kernel_rfl) ?_
        repeat (first | refine seqQ_ret ?_ | refine blockQ_ret ?_ | refine loopQ_ret ?_ | refine cutQ_ret ?_)
        exact retS (rs := [(Go.ResultVar.tmp 0)]) (v := Value.bool false) (by kernel_rfl) (⟨by kernel_rfl, trivial⟩) ⟨false, rfl, h⟩
  · rintro e w' ⟨v, rfl, r0, rfl, h⟩; exact ⟨r0, rfl, h⟩
end Go.Proofs.Ytchcljkflklddaa
