/- WRITTEN BY PROGRAM (dec.py): for each Go function the clean formula F, the call's contract C, and the proof S that F gives C. -/
import Derived.Test.YtchcljkflklddaaDoorRows
import Derived.Test.YtchcljkflklddaaDoorGF
namespace Go.Proofs.YtchcljkflklddaaDoor
open Go
set_option linter.unusedVariables false

/-! ### towpath/towpathlaw12.looks (function 13) -/
noncomputable def c_towpathlaw12_looks_0 : Code := (Tryd.f13.body).getD Code.skip
noncomputable def c_towpathlaw12_looks_1 : Code := Code.l c_towpathlaw12_looks_0
noncomputable def r_towpathlaw12_looks_1 : Array Oper := Code.ops c_towpathlaw12_looks_1
noncomputable def c_towpathlaw12_looks_3 : Code := Code.r c_towpathlaw12_looks_0
noncomputable def c_towpathlaw12_looks_4 : Code := Code.l c_towpathlaw12_looks_3
noncomputable def r_towpathlaw12_looks_4 : Array Oper := Code.ops c_towpathlaw12_looks_4
noncomputable def c_towpathlaw12_looks_6 : Code := Code.r c_towpathlaw12_looks_3

set_option maxRecDepth 100000 in
set_option maxHeartbeats 4000000 in
theorem S_towpathlaw12_looks {g : Option Addr} {r : Option Addr} {number : Int} {w : World} {R : Bool → World → Prop} (h : F_towpathlaw12_looks g r number R w) : C_towpathlaw12_looks g r number w R := by
  unfold F_towpathlaw12_looks at h
  unfold C_towpathlaw12_looks
  refine Calls.mono (calls_of_wpE (args := [Value.pointer g, Value.pointer r, Value.int .i64 number]) (R := fun v w' => ∃ (r0 : Bool), v = Value.bool r0 ∧ R r0 w') Tryd.func13 (c := c_towpathlaw12_looks_0) (by kernel_rfl) 28 (by kernel_rfl) (by kernel_rfl) [(0, Value.pointer g), (1, Value.pointer r), (2, Value.int .i64 number)] (by kernel_rfl) ?_) ?_
  · refine wpE_seq (x := c_towpathlaw12_looks_1) (y := c_towpathlaw12_looks_3) (by kernel_rfl) ?_
    refine wpE_region (id := 0) (ops := r_towpathlaw12_looks_1) (by kernel_rfl) ?_
    refine reg_run [.plain] 1 [(0, [], Value.pointer g), (1, [], Value.pointer r), (2, [], Value.int .i64 number)] (by kernel_rfl) (by kernel_rfl) ?_
    refine reg_end [(0, Value.pointer g), (1, Value.pointer r), (2, Value.int .i64 number)] (by kernel_rfl) (by kernel_rfl) ?_
    change WpE _ _ c_towpathlaw12_looks_3 _ _ _
    refine wpE_seq (x := c_towpathlaw12_looks_4) (y := c_towpathlaw12_looks_6) (by kernel_rfl) ?_
    refine wpE_region (id := 1) (ops := r_towpathlaw12_looks_4) (by kernel_rfl) ?_
    refine reg_run [.plain] 1 [(0, [], Value.pointer g), (1, [], Value.pointer r), (2, [], Value.int .i64 number), (7, [], Value.pointer g)] (by kernel_rfl) (by kernel_rfl) ?_
    refine reg_enter (op := (Go.Op.call (Go.Call.mk (Go.Callee.value (Go.Operand.func 18)) #[(Go.Operand.tmp 7)] #[25]))) (ty := 3) (dst := some 8) 18 #[Value.pointer g] (by kernel_rfl) (fun ww => by kernel_rfl) (Calls.mono h ?_)
    rintro _ w1 ⟨v8, rfl, h⟩
    refine ⟨_, rfl, ?_⟩
    refine reg_run [.plain] 3 [(0, [], Value.pointer g), (1, [], Value.pointer r), (2, [], Value.int .i64 number), (8, [], Value.int .i64 v8), (9, [], Value.pointer r)] (by kernel_rfl) (by kernel_rfl) ?_
    refine reg_enter (op := (Go.Op.call (Go.Call.mk (Go.Callee.value (Go.Operand.func 19)) #[(Go.Operand.tmp 9)] #[29]))) (ty := 3) (dst := some 10) 19 #[Value.pointer r] (by kernel_rfl) (fun ww => by kernel_rfl) (Calls.mono h ?_)
    rintro _ w2 ⟨v10, rfl, h⟩
    refine ⟨_, rfl, ?_⟩
    refine reg_run [.plain, .plain, .plain, .plain] 8 [(0, [], Value.pointer g), (1, [], Value.pointer r), (2, [], Value.int .i64 number), (12, [], Value.bool (v8 == v10)), (13, [(12, true)], Value.pointer g), (14, [(12, true)], Value.int .i64 number)] (by kernel_rfl) (by kernel_rfl) ?_
    refine reg_split 12 (v8 == v10) (by kernel_rfl) (fun hb => ?_) (fun hb => ?_)
    · replace h := h.1 hb
      refine reg_run [] 8 [(0, [], Value.pointer g), (1, [], Value.pointer r), (2, [], Value.int .i64 number), (12, [], Value.bool true), (13, [], Value.pointer g), (14, [], Value.int .i64 number)] (by kernel_rfl) (by kernel_rfl) ?_
      refine reg_run [] 8 [(0, [], Value.pointer g), (1, [], Value.pointer r), (2, [], Value.int .i64 number), (12, [], Value.bool true), (13, [], Value.pointer g), (14, [], Value.int .i64 number)] (by kernel_rfl) (by kernel_rfl) ?_
      refine reg_enter (op := (Go.Op.call (Go.Call.mk (Go.Callee.value (Go.Operand.func 66)) #[(Go.Operand.tmp 13), (Go.Operand.tmp 14)] #[25, 3]))) (ty := 4) (dst := some 15) 66 #[Value.pointer g, Value.int .i64 number] (by kernel_rfl) (fun ww => by kernel_rfl) (Calls.mono h ?_)
      rintro _ w3 ⟨v15, rfl, h⟩
      refine ⟨_, rfl, ?_⟩
      refine reg_run [.sure, .sure] 11 [(0, [], Value.pointer g), (1, [], Value.pointer r), (12, [], Value.bool true), (15, [], Value.bool v15), (16, [], Value.pointer r), (17, [], Value.int .i64 number)] (by kernel_rfl) (by kernel_rfl) ?_
      refine reg_enter (op := (Go.Op.call (Go.Call.mk (Go.Callee.value (Go.Operand.func 67)) #[(Go.Operand.tmp 16), (Go.Operand.tmp 17)] #[29, 3]))) (ty := 4) (dst := some 18) 67 #[Value.pointer r, Value.int .i64 number] (by kernel_rfl) (fun ww => by kernel_rfl) (Calls.mono h ?_)
      rintro _ w4 ⟨v18, rfl, h⟩
      refine ⟨_, rfl, ?_⟩
      refine reg_run [.sure, .plain, .plain, .plain] 16 [(1, [], Value.pointer r), (21, [], Value.bool (v15 == v18)), (22, [(21, true)], Value.pointer g)] (by kernel_rfl) (by kernel_rfl) ?_
      refine reg_split 21 (v15 == v18) (by kernel_rfl) (fun hb => ?_) (fun hb => ?_)
      · replace h := h.1 hb
        refine reg_run [] 16 [(1, [], Value.pointer r), (21, [], Value.bool true), (22, [], Value.pointer g)] (by kernel_rfl) (by kernel_rfl) ?_
        refine reg_run [] 16 [(1, [], Value.pointer r), (21, [], Value.bool true), (22, [], Value.pointer g)] (by kernel_rfl) (by kernel_rfl) ?_
        refine reg_enter (op := (Go.Op.call (Go.Call.mk (Go.Callee.value (Go.Operand.func 11)) #[(Go.Operand.tmp 22)] #[25]))) (ty := 22) (dst := some 23) 11 #[Value.pointer g] (by kernel_rfl) (fun ww => by kernel_rfl) (Calls.mono h ?_)
        rintro _ w5 ⟨v23, rfl, h⟩
        refine ⟨_, rfl, ?_⟩
        refine reg_run [.sure] 18 [(21, [], Value.bool true), (23, [], Value.slice v23.ptr v23.len v23.cap), (24, [], Value.pointer r)] (by kernel_rfl) (by kernel_rfl) ?_
        refine reg_enter (op := (Go.Op.call (Go.Call.mk (Go.Callee.value (Go.Operand.func 17)) #[(Go.Operand.tmp 24)] #[29]))) (ty := 22) (dst := some 25) 17 #[Value.pointer r] (by kernel_rfl) (fun ww => by kernel_rfl) (Calls.mono h ?_)
        rintro _ w6 ⟨v25, rfl, h⟩
        refine ⟨_, rfl, ?_⟩
        refine reg_run [] 19 [(21, [], Value.bool true), (23, [], Value.slice v23.ptr v23.len v23.cap), (25, [], Value.slice v25.ptr v25.len v25.cap)] (by kernel_rfl) (by kernel_rfl) ?_
        refine reg_enter (op := (Go.Op.call (Go.Call.mk (Go.Callee.value (Go.Operand.func 16)) #[(Go.Operand.tmp 23), (Go.Operand.tmp 25)] #[22, 22]))) (ty := 4) (dst := some 26) 16 #[Value.slice v23.ptr v23.len v23.cap, Value.slice v25.ptr v25.len v25.cap] (by kernel_rfl) (fun ww => by kernel_rfl) (Calls.mono h ?_)
        rintro _ w7 ⟨v26, rfl, h⟩
        refine ⟨_, rfl, ?_⟩
        refine reg_run [.plain, .plain] 22 [(6, [], Value.bool v26)] (by kernel_rfl) (by kernel_rfl) ?_
        refine reg_end [(6, Value.bool v26)] (by kernel_rfl) (by kernel_rfl) ?_
        change WpE _ _ c_towpathlaw12_looks_6 _ _ _
        refine wpE_ret (by kernel_rfl) ?_
        repeat (first | refine seqQ_ret ?_ | refine blockQ_ret ?_ | refine loopQ_ret ?_ | refine cutQ_ret ?_)
        exact retS (rs := [(Go.ResultVar.tmp 6)]) (v := Value.bool v26) (by kernel_rfl) (⟨by kernel_rfl, trivial⟩) ⟨v26, rfl, h⟩
      · replace h := h.2 hb
        refine reg_run [] 16 [(1, [], Value.pointer r), (21, [], Value.bool false), (22, [], undef)] (by kernel_rfl) (by kernel_rfl) ?_
        refine reg_run [.skip, .skip, .skip, .skip, .plain, .plain] 22 [(6, [], Value.bool false)] (by kernel_rfl) (by kernel_rfl) ?_
        refine reg_end [(6, Value.bool false)] (by kernel_rfl) (by kernel_rfl) ?_
        change WpE _ _ c_towpathlaw12_looks_6 _ _ _
        refine wpE_ret (by kernel_rfl) ?_
        repeat (first | refine seqQ_ret ?_ | refine blockQ_ret ?_ | refine loopQ_ret ?_ | refine cutQ_ret ?_)
        exact retS (rs := [(Go.ResultVar.tmp 6)]) (v := Value.bool false) (by kernel_rfl) (⟨by kernel_rfl, trivial⟩) ⟨false, rfl, h⟩
    · replace h := h.2 hb
      refine reg_run [] 8 [(0, [], Value.pointer g), (1, [], Value.pointer r), (2, [], Value.int .i64 number), (12, [], Value.bool false), (13, [], undef), (14, [], undef)] (by kernel_rfl) (by kernel_rfl) ?_
      refine reg_run [.skip, .skip, .skip, .skip, .skip, .plain, .plain, .skip, .skip, .skip, .skip, .skip, .plain, .plain] 22 [(6, [], Value.bool false)] (by kernel_rfl) (by kernel_rfl) ?_
      refine reg_end [(6, Value.bool false)] (by kernel_rfl) (by kernel_rfl) ?_
      change WpE _ _ c_towpathlaw12_looks_6 _ _ _
      refine wpE_ret (by kernel_rfl) ?_
      repeat (first | refine seqQ_ret ?_ | refine blockQ_ret ?_ | refine loopQ_ret ?_ | refine cutQ_ret ?_)
      exact retS (rs := [(Go.ResultVar.tmp 6)]) (v := Value.bool false) (by kernel_rfl) (⟨by kernel_rfl, trivial⟩) ⟨false, rfl, h⟩
  · rintro e w' ⟨v, rfl, r0, rfl, h⟩; exact ⟨r0, rfl, h⟩
end Go.Proofs.YtchcljkflklddaaDoor
