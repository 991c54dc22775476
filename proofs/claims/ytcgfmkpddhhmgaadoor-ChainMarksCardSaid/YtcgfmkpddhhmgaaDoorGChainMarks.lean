/- WRITTEN BY PROGRAM (dec.py): for each Go function the clean formula F, the call's contract C, and the proof S that F gives C. -/
import Derived.Test.YtcgfmkpddhhmgaaDoorRows
import Derived.Test.YtcgfmkpddhhmgaaDoorGF
namespace Go.Proofs.YtcgfmkpddhhmgaaDoor
open Go
set_option linter.unusedVariables false

/-! ### towpath/towpathlaw08.ChainMarks (function 3) -/
noncomputable def c_towpathlaw08_ChainMarks_0 : Code := (Tryd.f3.body).getD Code.skip
noncomputable def c_towpathlaw08_ChainMarks_1 : Code := Code.l c_towpathlaw08_ChainMarks_0
noncomputable def r_towpathlaw08_ChainMarks_1 : Array Oper := Code.ops c_towpathlaw08_ChainMarks_1
noncomputable def c_towpathlaw08_ChainMarks_3 : Code := Code.r c_towpathlaw08_ChainMarks_0
noncomputable def c_towpathlaw08_ChainMarks_4 : Code := Code.l c_towpathlaw08_ChainMarks_3
noncomputable def c_towpathlaw08_ChainMarks_5 : Code := Code.l c_towpathlaw08_ChainMarks_4
noncomputable def r_towpathlaw08_ChainMarks_5 : Array Oper := Code.ops c_towpathlaw08_ChainMarks_5
noncomputable def c_towpathlaw08_ChainMarks_7 : Code := Code.r c_towpathlaw08_ChainMarks_4
noncomputable def c_towpathlaw08_ChainMarks_8 : Code := Code.l c_towpathlaw08_ChainMarks_7
noncomputable def c_towpathlaw08_ChainMarks_9 : Code := Code.l c_towpathlaw08_ChainMarks_8
noncomputable def r_towpathlaw08_ChainMarks_9 : Array Oper := Code.ops c_towpathlaw08_ChainMarks_9
noncomputable def c_towpathlaw08_ChainMarks_11 : Code := Code.r c_towpathlaw08_ChainMarks_8
noncomputable def c_towpathlaw08_ChainMarks_12 : Code := Code.r c_towpathlaw08_ChainMarks_7
noncomputable def c_towpathlaw08_ChainMarks_13 : Code := Code.r c_towpathlaw08_ChainMarks_3
noncomputable def c_towpathlaw08_ChainMarks_14 : Code := Code.l c_towpathlaw08_ChainMarks_13
noncomputable def r_towpathlaw08_ChainMarks_14 : Array Oper := Code.ops c_towpathlaw08_ChainMarks_14
noncomputable def c_towpathlaw08_ChainMarks_16 : Code := Code.r c_towpathlaw08_ChainMarks_13
noncomputable def c_towpathlaw08_ChainMarks_17 : Code := Code.l c_towpathlaw08_ChainMarks_16
noncomputable def r_towpathlaw08_ChainMarks_17 : Array Oper := Code.ops c_towpathlaw08_ChainMarks_17
noncomputable def c_towpathlaw08_ChainMarks_19 : Code := Code.r c_towpathlaw08_ChainMarks_16
noncomputable def c_towpathlaw08_ChainMarks_20 : Code := Code.l c_towpathlaw08_ChainMarks_19
noncomputable def r_towpathlaw08_ChainMarks_20 : Array Oper := Code.ops c_towpathlaw08_ChainMarks_20
noncomputable def c_towpathlaw08_ChainMarks_22 : Code := Code.r c_towpathlaw08_ChainMarks_19
noncomputable def c_towpathlaw08_ChainMarks_23 : Code := Code.l c_towpathlaw08_ChainMarks_22
noncomputable def r_towpathlaw08_ChainMarks_23 : Array Oper := Code.ops c_towpathlaw08_ChainMarks_23
noncomputable def c_towpathlaw08_ChainMarks_25 : Code := Code.r c_towpathlaw08_ChainMarks_22
noncomputable def c_towpathlaw08_ChainMarks_26 : Code := Code.l c_towpathlaw08_ChainMarks_25
noncomputable def r_towpathlaw08_ChainMarks_26 : Array Oper := Code.ops c_towpathlaw08_ChainMarks_26
noncomputable def c_towpathlaw08_ChainMarks_28 : Code := Code.r c_towpathlaw08_ChainMarks_25
noncomputable def c_towpathlaw08_ChainMarks_29 : Code := Code.l c_towpathlaw08_ChainMarks_28
noncomputable def c_towpathlaw08_ChainMarks_30 : Code := Code.l c_towpathlaw08_ChainMarks_29
noncomputable def r_towpathlaw08_ChainMarks_30 : Array Oper := Code.ops c_towpathlaw08_ChainMarks_30
noncomputable def c_towpathlaw08_ChainMarks_32 : Code := Code.r c_towpathlaw08_ChainMarks_29
noncomputable def c_towpathlaw08_ChainMarks_33 : Code := Code.l c_towpathlaw08_ChainMarks_32
noncomputable def c_towpathlaw08_ChainMarks_34 : Code := Code.l c_towpathlaw08_ChainMarks_33
noncomputable def r_towpathlaw08_ChainMarks_34 : Array Oper := Code.ops c_towpathlaw08_ChainMarks_34
noncomputable def c_towpathlaw08_ChainMarks_36 : Code := Code.r c_towpathlaw08_ChainMarks_33
noncomputable def c_towpathlaw08_ChainMarks_37 : Code := Code.r c_towpathlaw08_ChainMarks_32
noncomputable def c_towpathlaw08_ChainMarks_38 : Code := Code.r c_towpathlaw08_ChainMarks_28
noncomputable def c_towpathlaw08_ChainMarks_39 : Code := Code.l c_towpathlaw08_ChainMarks_38
noncomputable def r_towpathlaw08_ChainMarks_39 : Array Oper := Code.ops c_towpathlaw08_ChainMarks_39
noncomputable def c_towpathlaw08_ChainMarks_41 : Code := Code.r c_towpathlaw08_ChainMarks_38
noncomputable def c_towpathlaw08_ChainMarks_42 : Code := Code.l c_towpathlaw08_ChainMarks_41
noncomputable def r_towpathlaw08_ChainMarks_42 : Array Oper := Code.ops c_towpathlaw08_ChainMarks_42
noncomputable def c_towpathlaw08_ChainMarks_44 : Code := Code.r c_towpathlaw08_ChainMarks_41
noncomputable def c_towpathlaw08_ChainMarks_45 : Code := Code.l c_towpathlaw08_ChainMarks_44
noncomputable def r_towpathlaw08_ChainMarks_45 : Array Oper := Code.ops c_towpathlaw08_ChainMarks_45
noncomputable def c_towpathlaw08_ChainMarks_47 : Code := Code.r c_towpathlaw08_ChainMarks_44
noncomputable def c_towpathlaw08_ChainMarks_48 : Code := Code.l c_towpathlaw08_ChainMarks_47
noncomputable def r_towpathlaw08_ChainMarks_48 : Array Oper := Code.ops c_towpathlaw08_ChainMarks_48
noncomputable def c_towpathlaw08_ChainMarks_50 : Code := Code.r c_towpathlaw08_ChainMarks_47

set_option maxRecDepth 100000 in
set_option maxHeartbeats 4000000 in
theorem S_towpathlaw08_ChainMarks {l_ : Slc} {mark : Int} {least : Int} {w : World} {R : Bool → World → Prop} (h : F_towpathlaw08_ChainMarks l_ mark least R w) : C_towpathlaw08_ChainMarks l_ mark least w R := by
  unfold F_towpathlaw08_ChainMarks at h
  unfold C_towpathlaw08_ChainMarks
  refine Calls.mono (calls_of_wpE (args := [Value.slice l_.ptr l_.len l_.cap, Value.int .i64 mark, Value.int .i64 least]) (R := fun v w' => ∃ (r0 : Bool), v = Value.bool r0 ∧ R r0 w') Tryd.func3 (c := c_towpathlaw08_ChainMarks_0) (by kernel_rfl) 96 (by kernel_rfl) (by kernel_rfl) [(0, Value.slice l_.ptr l_.len l_.cap), (1, Value.int .i64 mark), (2, Value.int .i64 least)] (by kernel_rfl) ?_) ?_
  · refine wpE_seq (x := c_towpathlaw08_ChainMarks_1) (y := c_towpathlaw08_ChainMarks_3) (by kernel_rfl) ?_
    refine wpE_region (id := 0) (ops := r_towpathlaw08_ChainMarks_1) (by kernel_rfl) ?_
    refine reg_run [.plain] 1 [(0, [], Value.slice l_.ptr l_.len l_.cap), (1, [], Value.int .i64 mark), (2, [], Value.int .i64 least)] (by kernel_rfl) (by kernel_rfl) ?_
    refine reg_end [(0, Value.slice l_.ptr l_.len l_.cap), (1, Value.int .i64 mark), (2, Value.int .i64 least)] (by kernel_rfl) (by kernel_rfl) ?_
    change WpE _ _ c_towpathlaw08_ChainMarks_3 _ _ _
    refine wpE_seq (x := c_towpathlaw08_ChainMarks_4) (y := c_towpathlaw08_ChainMarks_13) (by kernel_rfl) ?_
    refine wpE_seq (x := c_towpathlaw08_ChainMarks_5) (y := c_towpathlaw08_ChainMarks_7) (by kernel_rfl) ?_
    refine wpE_region (id := 1) (ops := r_towpathlaw08_ChainMarks_5) (by kernel_rfl) ?_
    refine reg_run [.plain] 1 [(0, [], Value.slice l_.ptr l_.len l_.cap), (1, [], Value.int .i64 mark), (2, [], Value.int .i64 least), (21, [], Value.slice l_.ptr l_.len l_.cap)] (by kernel_rfl) (by kernel_rfl) ?_
    refine reg_enter (op := (Go.Op.call (Go.Call.mk (Go.Callee.value (Go.Operand.func 7)) #[(Go.Operand.tmp 21)] #[22]))) (ty := 3) (dst := some 22) 7 #[Value.slice l_.ptr l_.len l_.cap] (by kernel_rfl) (fun ww => by kernel_rfl) (Calls.mono h ?_)
    rintro _ w1 ⟨v22, rfl, h⟩
    refine ⟨_, rfl, ?_⟩
    refine reg_run [] 2 [(0, [], Value.slice l_.ptr l_.len l_.cap), (1, [], Value.int .i64 mark), (2, [], Value.int .i64 least), (22, [], Value.int .i64 v22)] (by kernel_rfl) (by kernel_rfl) ?_
    refine reg_new (op := (Go.Op.buildSlice 50 1 #[(0, (Go.Operand.tmp 22))])) (ty := 50) (dst := some 23) (fun bb => Value.slice (some ⟨bb, 0, none⟩) 1 1) (Obj.cells ([Value.int .i64 v22]).toArray ty_int (0, 0)) (by kernel_rfl) (by kernel_rfl) (fun b_ w2 hb hw => ?_)
    replace h := h b_ w2 hb hw
    clear hb hw
    refine reg_run [] 3 [(0, [], Value.slice l_.ptr l_.len l_.cap), (1, [], Value.int .i64 mark), (2, [], Value.int .i64 least), (23, [], Value.slice (some ⟨b_, 0, none⟩) 1 1)] (by kernel_rfl) (by kernel_rfl) ?_
    refine reg_enter (op := (Go.Op.call (Go.Call.mk (Go.Callee.value (Go.Operand.func 6)) #[(Go.Operand.tmp 23)] #[50]))) (ty := 4) (dst := some 24) 6 #[Value.slice (some ⟨b_, 0, none⟩) 1 1] (by kernel_rfl) (fun ww => by kernel_rfl) (Calls.mono h ?_)
    rintro _ w3 ⟨v24, rfl, h⟩
    refine ⟨_, rfl, ?_⟩
    refine reg_end [(0, Value.slice l_.ptr l_.len l_.cap), (1, Value.int .i64 mark), (2, Value.int .i64 least), (24, Value.bool v24)] (by kernel_rfl) (by kernel_rfl) ?_
    change WpE _ _ c_towpathlaw08_ChainMarks_7 _ _ _
    refine wpE_cond (o := (Operand.tmp 24)) (b := v24) (x := c_towpathlaw08_ChainMarks_8) (y := c_towpathlaw08_ChainMarks_12) (by kernel_rfl) (by kernel_rfl) (fun hb => ?_) (fun hb => ?_)
    · replace h := h.1 hb
      refine wpE_seq (x := c_towpathlaw08_ChainMarks_9) (y := c_towpathlaw08_ChainMarks_11) (by kernel_rfl) ?_
      refine wpE_region (id := 2) (ops := r_towpathlaw08_ChainMarks_9) (by kernel_rfl) ?_
      refine reg_run [.plain] 1 [(6, [], Value.bool true)] (by kernel_rfl) (by kernel_rfl) ?_
      refine reg_end [(6, Value.bool true)] (by kernel_rfl) (by kernel_rfl) ?_
      change WpE _ _ c_towpathlaw08_ChainMarks_11 _ _ _
      refine wpE_ret (by kernel_rfl) ?_
      repeat (first | refine seqQ_ret ?_ | refine blockQ_ret ?_ | refine loopQ_ret ?_ | refine cutQ_ret ?_)
      exact retS (rs := [(Go.ResultVar.tmp 6)]) (v := Value.bool true) (by kernel_rfl) (⟨by kernel_rfl, trivial⟩) ⟨true, rfl, h⟩
    · replace h := h.2 hb
      refine wpE_skip (by kernel_rfl) ?_
      change WpE _ _ c_towpathlaw08_ChainMarks_13 _ _ _
      refine wpE_seq (x := c_towpathlaw08_ChainMarks_14) (y := c_towpathlaw08_ChainMarks_16) (by kernel_rfl) ?_
      refine wpE_region (id := 3) (ops := r_towpathlaw08_ChainMarks_14) (by kernel_rfl) ?_
      refine reg_run [.plain] 1 [(0, [], Value.slice l_.ptr l_.len l_.cap), (1, [], Value.int .i64 mark), (2, [], Value.int .i64 least), (25, [], Value.slice l_.ptr l_.len l_.cap)] (by kernel_rfl) (by kernel_rfl) ?_
      refine reg_enter (op := (Go.Op.call (Go.Call.mk (Go.Callee.value (Go.Operand.func 8)) #[(Go.Operand.tmp 25)] #[22]))) (ty := 22) (dst := some 26) 8 #[Value.slice l_.ptr l_.len l_.cap] (by kernel_rfl) (fun ww => by kernel_rfl) (Calls.mono h ?_)
      rintro _ w4 ⟨v26, rfl, h⟩
      refine ⟨_, rfl, ?_⟩
      refine reg_run [.plain] 3 [(0, [], Value.slice l_.ptr l_.len l_.cap), (1, [], Value.int .i64 mark), (2, [], Value.int .i64 least), (7, [], Value.slice v26.ptr v26.len v26.cap)] (by kernel_rfl) (by kernel_rfl) ?_
      refine reg_end [(0, Value.slice l_.ptr l_.len l_.cap), (1, Value.int .i64 mark), (2, Value.int .i64 least), (7, Value.slice v26.ptr v26.len v26.cap)] (by kernel_rfl) (by kernel_rfl) ?_
      change WpE _ _ c_towpathlaw08_ChainMarks_16 _ _ _
      refine wpE_seq (x := c_towpathlaw08_ChainMarks_17) (y := c_towpathlaw08_ChainMarks_19) (by kernel_rfl) ?_
      refine wpE_region (id := 4) (ops := r_towpathlaw08_ChainMarks_17) (by kernel_rfl) ?_
      refine reg_run [.plain, .plain] 2 [(0, [], Value.slice l_.ptr l_.len l_.cap), (1, [], Value.int .i64 mark), (2, [], Value.int .i64 least), (7, [], Value.slice v26.ptr v26.len v26.cap), (28, [], Value.slice v26.ptr v26.len v26.cap), (29, [], Value.int .i64 mark)] (by kernel_rfl) (by kernel_rfl) ?_
      refine reg_enter (op := (Go.Op.call (Go.Call.mk (Go.Callee.value (Go.Operand.func 9)) #[(Go.Operand.tmp 28), (Go.Operand.tmp 29)] #[22, 3]))) (ty := 29) (dst := some 30) 9 #[Value.slice v26.ptr v26.len v26.cap, Value.int .i64 mark] (by kernel_rfl) (fun ww => by kernel_rfl) (Calls.mono h ?_)
      rintro _ w5 ⟨v30, ok, e, rfl, h⟩
      refine ⟨_, rfl, ?_⟩
      refine reg_run [.plain, .plain, .plain, .plain] 7 [(0, [], Value.slice l_.ptr l_.len l_.cap), (1, [], Value.int .i64 mark), (2, [], Value.int .i64 least), (7, [], Value.slice v26.ptr v26.len v26.cap), (31, [], Value.agg #[Value.int .i64 v30.Number, Value.string v30.Val, Value.bool v30.Drop]), (32, [], Value.bool ok), (33, [], Value.int .i64 e)] (by kernel_rfl) (by kernel_rfl) ?_
      refine reg_new (op := (Go.Op.alloc 27)) (ty := 0) (dst := some 8) (fun bb => Value.pointer (some ⟨bb, 0, none⟩)) (Obj.cells ([Value.int .i64 0, Value.string ByteArray.empty, Value.bool false]).toArray ty_api_Version (0, 0)) (by kernel_rfl) (by kernel_rfl) (fun b_1 w6 hb hw => ?_)
      replace h := h b_1 w6 hb hw
      clear hb hw
      refine reg_run [] 8 [(0, [], Value.slice l_.ptr l_.len l_.cap), (1, [], Value.int .i64 mark), (2, [], Value.int .i64 least), (7, [], Value.slice v26.ptr v26.len v26.cap), (8, [], Value.pointer (some ⟨b_1, 0, none⟩)), (31, [], Value.agg #[Value.int .i64 v30.Number, Value.string v30.Val, Value.bool v30.Drop]), (32, [], Value.bool ok), (33, [], Value.int .i64 e)] (by kernel_rfl) (by kernel_rfl) ?_
      obtain ⟨hc, h⟩ := h
      refine reg_store (t := 27) (a := (Go.Operand.tmp 8)) (x := (Go.Operand.tmp 31)) (b := b_1) (o := 0) (ty := 0) (dst := none) [Value.int .i64 v30.Number, Value.string v30.Val, Value.bool v30.Drop] (by kernel_rfl) (by kernel_rfl) (by kernel_rfl) (k := 3) (by kernel_rfl) (by kernel_rfl) (by kernel_rfl) hc (fun w7 hw => ?_)
      replace h := h w7 hw
      clear hw
      refine reg_run [.plain, .plain] 11 [(0, [], Value.slice l_.ptr l_.len l_.cap), (1, [], Value.int .i64 mark), (2, [], Value.int .i64 least), (7, [], Value.slice v26.ptr v26.len v26.cap), (8, [], Value.pointer (some ⟨b_1, 0, none⟩)), (9, [], Value.bool ok), (10, [], Value.int .i64 e)] (by kernel_rfl) (by kernel_rfl) ?_
      refine reg_end [(0, Value.slice l_.ptr l_.len l_.cap), (1, Value.int .i64 mark), (2, Value.int .i64 least), (7, Value.slice v26.ptr v26.len v26.cap), (8, Value.pointer (some ⟨b_1, 0, none⟩)), (9, Value.bool ok), (10, Value.int .i64 e)] (by kernel_rfl) (by kernel_rfl) ?_
      change WpE _ _ c_towpathlaw08_ChainMarks_19 _ _ _
      refine wpE_seq (x := c_towpathlaw08_ChainMarks_20) (y := c_towpathlaw08_ChainMarks_22) (by kernel_rfl) ?_
      refine wpE_region (id := 5) (ops := r_towpathlaw08_ChainMarks_20) (by kernel_rfl) ?_
      refine reg_run [.plain, .plain] 2 [(0, [], Value.slice l_.ptr l_.len l_.cap), (2, [], Value.int .i64 least), (7, [], Value.slice v26.ptr v26.len v26.cap), (8, [], Value.pointer (some ⟨b_1, 0, none⟩)), (9, [], Value.bool ok), (10, [], Value.int .i64 e), (35, [], Value.slice l_.ptr l_.len l_.cap), (36, [], Value.int .i64 mark)] (by kernel_rfl) (by kernel_rfl) ?_
      refine reg_enter (op := (Go.Op.call (Go.Call.mk (Go.Callee.value (Go.Operand.func 10)) #[(Go.Operand.tmp 35), (Go.Operand.tmp 36)] #[22, 3]))) (ty := 29) (dst := some 37) 10 #[Value.slice l_.ptr l_.len l_.cap, Value.int .i64 mark] (by kernel_rfl) (fun ww => by kernel_rfl) (Calls.mono h ?_)
      rintro _ w8 ⟨v37, is, f, rfl, h⟩
      refine ⟨_, rfl, ?_⟩
      refine reg_run [.plain, .plain, .plain, .plain] 7 [(0, [], Value.slice l_.ptr l_.len l_.cap), (2, [], Value.int .i64 least), (7, [], Value.slice v26.ptr v26.len v26.cap), (8, [], Value.pointer (some ⟨b_1, 0, none⟩)), (9, [], Value.bool ok), (10, [], Value.int .i64 e), (38, [], Value.agg #[Value.int .i64 v37.Number, Value.string v37.Val, Value.bool v37.Drop]), (39, [], Value.bool is), (40, [], Value.int .i64 f)] (by kernel_rfl) (by kernel_rfl) ?_
      refine reg_new (op := (Go.Op.alloc 27)) (ty := 0) (dst := some 11) (fun bb => Value.pointer (some ⟨bb, 0, none⟩)) (Obj.cells ([Value.int .i64 0, Value.string ByteArray.empty, Value.bool false]).toArray ty_api_Version (0, 0)) (by kernel_rfl) (by kernel_rfl) (fun b_2 w9 hb hw => ?_)
      replace h := h b_2 w9 hb hw
      clear hb hw
      refine reg_run [] 8 [(0, [], Value.slice l_.ptr l_.len l_.cap), (2, [], Value.int .i64 least), (7, [], Value.slice v26.ptr v26.len v26.cap), (8, [], Value.pointer (some ⟨b_1, 0, none⟩)), (9, [], Value.bool ok), (10, [], Value.int .i64 e), (11, [], Value.pointer (some ⟨b_2, 0, none⟩)), (38, [], Value.agg #[Value.int .i64 v37.Number, Value.string v37.Val, Value.bool v37.Drop]), (39, [], Value.bool is), (40, [], Value.int .i64 f)] (by kernel_rfl) (by kernel_rfl) ?_
      obtain ⟨hc, h⟩ := h
      refine reg_store (t := 27) (a := (Go.Operand.tmp 11)) (x := (Go.Operand.tmp 38)) (b := b_2) (o := 0) (ty := 0) (dst := none) [Value.int .i64 v37.Number, Value.string v37.Val, Value.bool v37.Drop] (by kernel_rfl) (by kernel_rfl) (by kernel_rfl) (k := 3) (by kernel_rfl) (by kernel_rfl) (by kernel_rfl) hc (fun w10 hw => ?_)
      replace h := h w10 hw
      clear hw
      refine reg_run [.plain, .plain] 11 [(0, [], Value.slice l_.ptr l_.len l_.cap), (2, [], Value.int .i64 least), (7, [], Value.slice v26.ptr v26.len v26.cap), (8, [], Value.pointer (some ⟨b_1, 0, none⟩)), (9, [], Value.bool ok), (10, [], Value.int .i64 e), (11, [], Value.pointer (some ⟨b_2, 0, none⟩)), (12, [], Value.bool is), (13, [], Value.int .i64 f)] (by kernel_rfl) (by kernel_rfl) ?_
      refine reg_end [(0, Value.slice l_.ptr l_.len l_.cap), (2, Value.int .i64 least), (7, Value.slice v26.ptr v26.len v26.cap), (8, Value.pointer (some ⟨b_1, 0, none⟩)), (9, Value.bool ok), (10, Value.int .i64 e), (11, Value.pointer (some ⟨b_2, 0, none⟩)), (12, Value.bool is), (13, Value.int .i64 f)] (by kernel_rfl) (by kernel_rfl) ?_
      change WpE _ _ c_towpathlaw08_ChainMarks_22 _ _ _
      refine wpE_seq (x := c_towpathlaw08_ChainMarks_23) (y := c_towpathlaw08_ChainMarks_25) (by kernel_rfl) ?_
      refine wpE_region (id := 6) (ops := r_towpathlaw08_ChainMarks_23) (by kernel_rfl) ?_
      refine reg_run [.plain, .plain] 2 [(0, [], Value.slice l_.ptr l_.len l_.cap), (2, [], Value.int .i64 least), (7, [], Value.slice v26.ptr v26.len v26.cap), (8, [], Value.pointer (some ⟨b_1, 0, none⟩)), (9, [], Value.bool ok), (10, [], Value.int .i64 e), (11, [], Value.pointer (some ⟨b_2, 0, none⟩)), (12, [], Value.bool is), (13, [], Value.int .i64 f), (42, [], Value.slice v26.ptr v26.len v26.cap), (43, [], Value.int .i64 least)] (by kernel_rfl) (by kernel_rfl) ?_
      refine reg_enter (op := (Go.Op.call (Go.Call.mk (Go.Callee.value (Go.Operand.func 11)) #[(Go.Operand.tmp 42), (Go.Operand.tmp 43)] #[22, 3]))) (ty := 31) (dst := some 44) 11 #[Value.slice v26.ptr v26.len v26.cap, Value.int .i64 least] (by kernel_rfl) (fun ww => by kernel_rfl) (Calls.mono h ?_)
      rintro _ w11 ⟨x, n_, g, rfl, h⟩
      refine ⟨_, rfl, ?_⟩
      refine reg_run [.plain, .plain, .plain, .plain, .plain, .plain, .plain] 10 [(0, [], Value.slice l_.ptr l_.len l_.cap), (2, [], Value.int .i64 least), (7, [], Value.slice v26.ptr v26.len v26.cap), (8, [], Value.pointer (some ⟨b_1, 0, none⟩)), (9, [], Value.bool ok), (10, [], Value.int .i64 e), (11, [], Value.pointer (some ⟨b_2, 0, none⟩)), (12, [], Value.bool is), (13, [], Value.int .i64 f), (14, [], Value.slice x.ptr x.len x.cap), (15, [], Value.int .i64 n_), (16, [], Value.int .i64 g)] (by kernel_rfl) (by kernel_rfl) ?_
      refine reg_end [(0, Value.slice l_.ptr l_.len l_.cap), (2, Value.int .i64 least), (7, Value.slice v26.ptr v26.len v26.cap), (8, Value.pointer (some ⟨b_1, 0, none⟩)), (9, Value.bool ok), (10, Value.int .i64 e), (11, Value.pointer (some ⟨b_2, 0, none⟩)), (12, Value.bool is), (13, Value.int .i64 f), (14, Value.slice x.ptr x.len x.cap), (15, Value.int .i64 n_), (16, Value.int .i64 g)] (by kernel_rfl) (by kernel_rfl) ?_
      change WpE _ _ c_towpathlaw08_ChainMarks_25 _ _ _
      refine wpE_seq (x := c_towpathlaw08_ChainMarks_26) (y := c_towpathlaw08_ChainMarks_28) (by kernel_rfl) ?_
      refine wpE_region (id := 7) (ops := r_towpathlaw08_ChainMarks_26) (by kernel_rfl) ?_
      refine reg_run [.plain, .plain] 2 [(0, [], Value.slice l_.ptr l_.len l_.cap), (7, [], Value.slice v26.ptr v26.len v26.cap), (8, [], Value.pointer (some ⟨b_1, 0, none⟩)), (9, [], Value.bool ok), (10, [], Value.int .i64 e), (11, [], Value.pointer (some ⟨b_2, 0, none⟩)), (12, [], Value.bool is), (13, [], Value.int .i64 f), (14, [], Value.slice x.ptr x.len x.cap), (15, [], Value.int .i64 n_), (16, [], Value.int .i64 g), (49, [], Value.slice l_.ptr l_.len l_.cap), (50, [], Value.int .i64 least)] (by kernel_rfl) (by kernel_rfl) ?_
      refine reg_enter (op := (Go.Op.call (Go.Call.mk (Go.Callee.value (Go.Operand.func 12)) #[(Go.Operand.tmp 49), (Go.Operand.tmp 50)] #[22, 3]))) (ty := 31) (dst := some 51) 12 #[Value.slice l_.ptr l_.len l_.cap, Value.int .i64 least] (by kernel_rfl) (fun ww => by kernel_rfl) (Calls.mono h ?_)
      rintro _ w12 ⟨left, gone, h_, rfl, h⟩
      refine ⟨_, rfl, ?_⟩
      refine reg_run [.plain, .plain, .plain, .plain, .plain, .plain, .plain] 10 [(0, [], Value.slice l_.ptr l_.len l_.cap), (7, [], Value.slice v26.ptr v26.len v26.cap), (8, [], Value.pointer (some ⟨b_1, 0, none⟩)), (9, [], Value.bool ok), (10, [], Value.int .i64 e), (11, [], Value.pointer (some ⟨b_2, 0, none⟩)), (12, [], Value.bool is), (13, [], Value.int .i64 f), (14, [], Value.slice x.ptr x.len x.cap), (15, [], Value.int .i64 n_), (16, [], Value.int .i64 g), (17, [], Value.slice left.ptr left.len left.cap), (18, [], Value.int .i64 gone), (19, [], Value.int .i64 h_)] (by kernel_rfl) (by kernel_rfl) ?_
      refine reg_end [(0, Value.slice l_.ptr l_.len l_.cap), (7, Value.slice v26.ptr v26.len v26.cap), (8, Value.pointer (some ⟨b_1, 0, none⟩)), (9, Value.bool ok), (10, Value.int .i64 e), (11, Value.pointer (some ⟨b_2, 0, none⟩)), (12, Value.bool is), (13, Value.int .i64 f), (14, Value.slice x.ptr x.len x.cap), (15, Value.int .i64 n_), (16, Value.int .i64 g), (17, Value.slice left.ptr left.len left.cap), (18, Value.int .i64 gone), (19, Value.int .i64 h_)] (by kernel_rfl) (by kernel_rfl) ?_
      change WpE _ _ c_towpathlaw08_ChainMarks_28 _ _ _
      refine wpE_seq (x := c_towpathlaw08_ChainMarks_29) (y := c_towpathlaw08_ChainMarks_38) (by kernel_rfl) ?_
      refine wpE_seq_cut (x := c_towpathlaw08_ChainMarks_30) (y := c_towpathlaw08_ChainMarks_32) (by kernel_rfl) (fun l w => ∃ (t89 : Bool), l = [(7, Value.slice v26.ptr v26.len v26.cap), (14, Value.slice x.ptr x.len x.cap), (89, Value.bool t89)] ∧ F_towpathlaw08_ChainMarks_k0 R v26 x t89 w) ?_ ?_
      · refine wpE_region (id := 8) (ops := r_towpathlaw08_ChainMarks_30) (by kernel_rfl) ?_
        refine reg_run [] 0 [(0, [], Value.slice l_.ptr l_.len l_.cap), (7, [], Value.slice v26.ptr v26.len v26.cap), (8, [], Value.pointer (some ⟨b_1, 0, none⟩)), (9, [], Value.bool ok), (10, [], Value.int .i64 e), (11, [], Value.pointer (some ⟨b_2, 0, none⟩)), (12, [], Value.bool is), (13, [], Value.int .i64 f), (14, [], Value.slice x.ptr x.len x.cap), (15, [], Value.int .i64 n_), (16, [], Value.int .i64 g), (17, [], Value.slice left.ptr left.len left.cap), (18, [], Value.int .i64 gone), (19, [], Value.int .i64 h_)] (by kernel_rfl) (by kernel_rfl) ?_
        obtain ⟨v55, hc, h⟩ := h
        refine reg_loadN (t := 27) (a := (Go.Operand.tmp 8)) (b := b_1) (o := 0) (ty := 27) (dst := some 55) [Value.int .i64 v55.Number, Value.string v55.Val, Value.bool v55.Drop] (by kernel_rfl) (by kernel_rfl) (by kernel_rfl) (k := 3) (by kernel_rfl) (by kernel_rfl) hc ?_
        refine reg_run [] 1 [(0, [], Value.slice l_.ptr l_.len l_.cap), (7, [], Value.slice v26.ptr v26.len v26.cap), (9, [], Value.bool ok), (10, [], Value.int .i64 e), (11, [], Value.pointer (some ⟨b_2, 0, none⟩)), (12, [], Value.bool is), (13, [], Value.int .i64 f), (14, [], Value.slice x.ptr x.len x.cap), (15, [], Value.int .i64 n_), (16, [], Value.int .i64 g), (17, [], Value.slice left.ptr left.len left.cap), (18, [], Value.int .i64 gone), (19, [], Value.int .i64 h_), (55, [], Value.agg #[Value.int .i64 v55.Number, Value.string v55.Val, Value.bool v55.Drop])] (by kernel_rfl) (by kernel_rfl) ?_
        obtain ⟨v56, hc, h⟩ := h
        refine reg_loadN (t := 27) (a := (Go.Operand.tmp 11)) (b := b_2) (o := 0) (ty := 27) (dst := some 56) [Value.int .i64 v56.Number, Value.string v56.Val, Value.bool v56.Drop] (by kernel_rfl) (by kernel_rfl) (by kernel_rfl) (k := 3) (by kernel_rfl) (by kernel_rfl) hc ?_
        refine reg_run [] 2 [(0, [], Value.slice l_.ptr l_.len l_.cap), (7, [], Value.slice v26.ptr v26.len v26.cap), (9, [], Value.bool ok), (10, [], Value.int .i64 e), (12, [], Value.bool is), (13, [], Value.int .i64 f), (14, [], Value.slice x.ptr x.len x.cap), (15, [], Value.int .i64 n_), (16, [], Value.int .i64 g), (17, [], Value.slice left.ptr left.len left.cap), (18, [], Value.int .i64 gone), (19, [], Value.int .i64 h_), (55, [], Value.agg #[Value.int .i64 v55.Number, Value.string v55.Val, Value.bool v55.Drop]), (56, [], Value.agg #[Value.int .i64 v56.Number, Value.string v56.Val, Value.bool v56.Drop])] (by kernel_rfl) (by kernel_rfl) ?_
        refine reg_val (op := (Go.Op.binOp Go.BinOp.neq 27 (Go.Operand.tmp 55) (Go.Operand.tmp 56) 27)) (ty := 4) (dst := some 57) (Value.bool (!(((v55.Number == v56.Number) && (v55.Val == v56.Val)) && (v55.Drop == v56.Drop)))) (by kernel_rfl) (fun ww => run_struct_neq (xs := [Value.int .i64 v55.Number, Value.string v55.Val, Value.bool v55.Drop]) (ys := [Value.int .i64 v56.Number, Value.string v56.Val, Value.bool v56.Drop]) (by kernel_rfl) (by kernel_rfl) (by kernel_rfl) (by kernel_rfl) (by kernel_rfl) ww) ?_
        refine reg_run [.plain, .plain, .plain, .plain, .pick, .plain, .plain, .plain, .plain, .pick, .plain, .plain, .plain, .plain, .pick, .plain, .plain, .plain, .plain, .pick, .plain, .plain, .plain] 26 [(0, [], Value.slice l_.ptr l_.len l_.cap), (7, [], Value.slice v26.ptr v26.len v26.cap), (14, [], Value.slice x.ptr x.len x.cap), (78, [], Value.bool (((((!(((v55.Number == v56.Number) && (v55.Val == v56.Val)) && (v55.Drop == v56.Drop))) || (!(ok == is))) || (e != f)) || (n_ != gone)) || (g != h_))), (79, [(78, false)], Value.slice x.ptr x.len x.cap), (80, [(78, false)], Value.slice left.ptr left.len left.cap)] (by kernel_rfl) (by kernel_rfl) ?_
        refine reg_split 78 (((((!(((v55.Number == v56.Number) && (v55.Val == v56.Val)) && (v55.Drop == v56.Drop))) || (!(ok == is))) || (e != f)) || (n_ != gone)) || (g != h_)) (by kernel_rfl) (fun hb => ?_) (fun hb => ?_)
        · replace h := h.1 hb
          refine reg_run [] 26 [(0, [], Value.slice l_.ptr l_.len l_.cap), (7, [], Value.slice v26.ptr v26.len v26.cap), (14, [], Value.slice x.ptr x.len x.cap), (78, [], Value.bool true), (79, [], undef), (80, [], undef)] (by kernel_rfl) (by kernel_rfl) ?_
          refine reg_run [.skip, .skip, .plain, .plain, .skip, .skip, .skip, .skip, .plain] 35 [(7, [], Value.slice v26.ptr v26.len v26.cap), (14, [], Value.slice x.ptr x.len x.cap), (89, [], Value.bool true)] (by kernel_rfl) (by kernel_rfl) ?_
          refine reg_end [(7, Value.slice v26.ptr v26.len v26.cap), (14, Value.slice x.ptr x.len x.cap), (89, Value.bool true)] (by kernel_rfl) (by kernel_rfl) ?_
          exact ⟨[(7, Value.slice v26.ptr v26.len v26.cap), (14, Value.slice x.ptr x.len x.cap), (89, Value.bool true)], Sub.mk (by kernel_rfl), true, rfl, h⟩
        · replace h := h.2 hb
          refine reg_run [] 26 [(0, [], Value.slice l_.ptr l_.len l_.cap), (7, [], Value.slice v26.ptr v26.len v26.cap), (14, [], Value.slice x.ptr x.len x.cap), (78, [], Value.bool false), (79, [], Value.slice x.ptr x.len x.cap), (80, [], Value.slice left.ptr left.len left.cap)] (by kernel_rfl) (by kernel_rfl) ?_
          refine reg_run [] 26 [(0, [], Value.slice l_.ptr l_.len l_.cap), (7, [], Value.slice v26.ptr v26.len v26.cap), (14, [], Value.slice x.ptr x.len x.cap), (78, [], Value.bool false), (79, [], Value.slice x.ptr x.len x.cap), (80, [], Value.slice left.ptr left.len left.cap)] (by kernel_rfl) (by kernel_rfl) ?_
          refine reg_enter (op := (Go.Op.call (Go.Call.mk (Go.Callee.value (Go.Operand.func 13)) #[(Go.Operand.tmp 79), (Go.Operand.tmp 80)] #[22, 22]))) (ty := 4) (dst := some 81) 13 #[Value.slice x.ptr x.len x.cap, Value.slice left.ptr left.len left.cap] (by kernel_rfl) (fun ww => by kernel_rfl) (Calls.mono h ?_)
          rintro _ w19 ⟨v81, rfl, h⟩
          refine ⟨_, rfl, ?_⟩
          refine reg_run [.sure, .plain, .plain, .plain, .plain] 32 [(7, [], Value.slice v26.ptr v26.len v26.cap), (14, [], Value.slice x.ptr x.len x.cap), (84, [], Value.bool (!v81)), (85, [(84, false)], Value.slice v26.ptr v26.len v26.cap), (86, [(84, false)], Value.slice l_.ptr l_.len l_.cap)] (by kernel_rfl) (by kernel_rfl) ?_
          refine reg_split 84 (!v81) (by kernel_rfl) (fun hb => ?_) (fun hb => ?_)
          · replace h := h.1 hb
            refine reg_run [] 32 [(7, [], Value.slice v26.ptr v26.len v26.cap), (14, [], Value.slice x.ptr x.len x.cap), (84, [], Value.bool true), (85, [], undef), (86, [], undef)] (by kernel_rfl) (by kernel_rfl) ?_
            refine reg_run [.skip, .skip, .plain] 35 [(7, [], Value.slice v26.ptr v26.len v26.cap), (14, [], Value.slice x.ptr x.len x.cap), (89, [], Value.bool true)] (by kernel_rfl) (by kernel_rfl) ?_
            refine reg_end [(7, Value.slice v26.ptr v26.len v26.cap), (14, Value.slice x.ptr x.len x.cap), (89, Value.bool true)] (by kernel_rfl) (by kernel_rfl) ?_
            exact ⟨[(7, Value.slice v26.ptr v26.len v26.cap), (14, Value.slice x.ptr x.len x.cap), (89, Value.bool true)], Sub.mk (by kernel_rfl), true, rfl, h⟩
          · replace h := h.2 hb
            refine reg_run [] 32 [(7, [], Value.slice v26.ptr v26.len v26.cap), (14, [], Value.slice x.ptr x.len x.cap), (84, [], Value.bool false), (85, [], Value.slice v26.ptr v26.len v26.cap), (86, [], Value.slice l_.ptr l_.len l_.cap)] (by kernel_rfl) (by kernel_rfl) ?_
            refine reg_run [] 32 [(7, [], Value.slice v26.ptr v26.len v26.cap), (14, [], Value.slice x.ptr x.len x.cap), (84, [], Value.bool false), (85, [], Value.slice v26.ptr v26.len v26.cap), (86, [], Value.slice l_.ptr l_.len l_.cap)] (by kernel_rfl) (by kernel_rfl) ?_
            refine reg_enter (op := (Go.Op.call (Go.Call.mk (Go.Callee.value (Go.Operand.func 14)) #[(Go.Operand.tmp 85), (Go.Operand.tmp 86)] #[22, 22]))) (ty := 4) (dst := some 87) 14 #[Value.slice v26.ptr v26.len v26.cap, Value.slice l_.ptr l_.len l_.cap] (by kernel_rfl) (fun ww => by kernel_rfl) (Calls.mono h ?_)
            rintro _ w20 ⟨v87, rfl, h⟩
            refine ⟨_, rfl, ?_⟩
            refine reg_run [.sure, .plain] 35 [(7, [], Value.slice v26.ptr v26.len v26.cap), (14, [], Value.slice x.ptr x.len x.cap), (89, [], Value.bool (!v87))] (by kernel_rfl) (by kernel_rfl) ?_
            refine reg_end [(7, Value.slice v26.ptr v26.len v26.cap), (14, Value.slice x.ptr x.len x.cap), (89, Value.bool (!v87))] (by kernel_rfl) (by kernel_rfl) ?_
            exact ⟨[(7, Value.slice v26.ptr v26.len v26.cap), (14, Value.slice x.ptr x.len x.cap), (89, Value.bool (!v87))], Sub.mk (by kernel_rfl), (!v87), rfl, h⟩
      · rintro _ w13 ⟨t89, rfl, h⟩
        unfold F_towpathlaw08_ChainMarks_k0 at h
        refine wpE_cond (o := (Operand.tmp 89)) (b := t89) (x := c_towpathlaw08_ChainMarks_33) (y := c_towpathlaw08_ChainMarks_37) (by kernel_rfl) (by kernel_rfl) (fun hb => ?_) (fun hb => ?_)
        · replace h := h.1 hb
          refine wpE_seq (x := c_towpathlaw08_ChainMarks_34) (y := c_towpathlaw08_ChainMarks_36) (by kernel_rfl) ?_
          refine wpE_region (id := 9) (ops := r_towpathlaw08_ChainMarks_34) (by kernel_rfl) ?_
          refine reg_run [.plain] 1 [(6, [], Value.bool false)] (by kernel_rfl) (by kernel_rfl) ?_
          refine reg_end [(6, Value.bool false)] (by kernel_rfl) (by kernel_rfl) ?_
          change WpE _ _ c_towpathlaw08_ChainMarks_36 _ _ _
          refine wpE_ret (by kernel_rfl) ?_
          repeat (first | refine seqQ_ret ?_ | refine blockQ_ret ?_ | refine loopQ_ret ?_ | refine cutQ_ret ?_)
          exact retS (rs := [(Go.ResultVar.tmp 6)]) (v := Value.bool false) (by kernel_rfl) (⟨by kernel_rfl, trivial⟩) ⟨false, rfl, h⟩
        · replace h := h.2 hb
          refine wpE_skip (by kernel_rfl) ?_
          change WpE _ _ c_towpathlaw08_ChainMarks_38 _ _ _
          refine wpE_seq (x := c_towpathlaw08_ChainMarks_39) (y := c_towpathlaw08_ChainMarks_41) (by kernel_rfl) ?_
          refine wpE_region (id := 10) (ops := r_towpathlaw08_ChainMarks_39) (by kernel_rfl) ?_
          refine reg_run [.plain] 1 [(7, [], Value.slice v26.ptr v26.len v26.cap), (14, [], Value.slice x.ptr x.len x.cap), (90, [], Value.agg #[Value.int .i64 0, Value.slice none 0 0, Value.slice none 0 0, Value.slice none 0 0, Value.slice none 0 0, Value.slice none 0 0, Value.slice none 0 0, Value.slice none 0 0, Value.slice none 0 0, Value.slice none 0 0, Value.slice none 0 0, Value.slice none 0 0])] (by kernel_rfl) (by kernel_rfl) ?_
          refine reg_new (op := (Go.Op.alloc 46)) (ty := 0) (dst := some 20) (fun bb => Value.pointer (some ⟨bb, 0, none⟩)) (Obj.cells ([Value.int .i64 0, Value.slice none 0 0, Value.slice none 0 0, Value.slice none 0 0, Value.slice none 0 0, Value.slice none 0 0, Value.slice none 0 0, Value.slice none 0 0, Value.slice none 0 0, Value.slice none 0 0, Value.slice none 0 0, Value.slice none 0 0]).toArray ty_towpathlaw01_Book (0, 0)) (by kernel_rfl) (by kernel_rfl) (fun b_3 w14 hb hw => ?_)
          replace h := h b_3 w14 hb hw
          clear hb hw
          refine reg_run [] 2 [(7, [], Value.slice v26.ptr v26.len v26.cap), (14, [], Value.slice x.ptr x.len x.cap), (20, [], Value.pointer (some ⟨b_3, 0, none⟩)), (90, [], Value.agg #[Value.int .i64 0, Value.slice none 0 0, Value.slice none 0 0, Value.slice none 0 0, Value.slice none 0 0, Value.slice none 0 0, Value.slice none 0 0, Value.slice none 0 0, Value.slice none 0 0, Value.slice none 0 0, Value.slice none 0 0, Value.slice none 0 0])] (by kernel_rfl) (by kernel_rfl) ?_
          obtain ⟨hc, h⟩ := h
          refine reg_store (t := 46) (a := (Go.Operand.tmp 20)) (x := (Go.Operand.tmp 90)) (b := b_3) (o := 0) (ty := 0) (dst := none) [Value.int .i64 0, Value.slice none 0 0, Value.slice none 0 0, Value.slice none 0 0, Value.slice none 0 0, Value.slice none 0 0, Value.slice none 0 0, Value.slice none 0 0, Value.slice none 0 0, Value.slice none 0 0, Value.slice none 0 0, Value.slice none 0 0] (by kernel_rfl) (by kernel_rfl) (by kernel_rfl) (k := 12) (by kernel_rfl) (by kernel_rfl) (by kernel_rfl) hc (fun w15 hw => ?_)
          replace h := h w15 hw
          clear hw
          refine reg_end [(7, Value.slice v26.ptr v26.len v26.cap), (14, Value.slice x.ptr x.len x.cap), (20, Value.pointer (some ⟨b_3, 0, none⟩))] (by kernel_rfl) (by kernel_rfl) ?_
          change WpE _ _ c_towpathlaw08_ChainMarks_41 _ _ _
          refine wpE_seq (x := c_towpathlaw08_ChainMarks_42) (y := c_towpathlaw08_ChainMarks_44) (by kernel_rfl) ?_
          refine wpE_region (id := 11) (ops := r_towpathlaw08_ChainMarks_42) (by kernel_rfl) ?_
          refine reg_run [.plain] 1 [(14, [], Value.slice x.ptr x.len x.cap), (20, [], Value.pointer (some ⟨b_3, 0, none⟩)), (91, [], Value.slice v26.ptr v26.len v26.cap)] (by kernel_rfl) (by kernel_rfl) ?_
          refine reg_enter (op := (Go.Op.call (Go.Call.mk (Go.Callee.value (Go.Operand.func 15)) #[(Go.Operand.tmp 20), (Go.Operand.tmp 91)] #[46, 22]))) (ty := 0) (dst := some 92) 15 #[Value.pointer (some ⟨b_3, 0, none⟩), Value.slice v26.ptr v26.len v26.cap] (by kernel_rfl) (fun ww => by kernel_rfl) (Calls.mono h ?_)
          rintro _ w16 ⟨rfl, h⟩
          refine ⟨_, rfl, ?_⟩
          refine reg_end [(14, Value.slice x.ptr x.len x.cap), (20, Value.pointer (some ⟨b_3, 0, none⟩))] (by kernel_rfl) (by kernel_rfl) ?_
          change WpE _ _ c_towpathlaw08_ChainMarks_44 _ _ _
          refine wpE_seq (x := c_towpathlaw08_ChainMarks_45) (y := c_towpathlaw08_ChainMarks_47) (by kernel_rfl) ?_
          refine wpE_region (id := 12) (ops := r_towpathlaw08_ChainMarks_45) (by kernel_rfl) ?_
          refine reg_run [.plain] 1 [(20, [], Value.pointer (some ⟨b_3, 0, none⟩)), (93, [], Value.slice x.ptr x.len x.cap)] (by kernel_rfl) (by kernel_rfl) ?_
          refine reg_enter (op := (Go.Op.call (Go.Call.mk (Go.Callee.value (Go.Operand.func 15)) #[(Go.Operand.tmp 20), (Go.Operand.tmp 93)] #[46, 22]))) (ty := 0) (dst := some 94) 15 #[Value.pointer (some ⟨b_3, 0, none⟩), Value.slice x.ptr x.len x.cap] (by kernel_rfl) (fun ww => by kernel_rfl) (Calls.mono h ?_)
          rintro _ w17 ⟨rfl, h⟩
          refine ⟨_, rfl, ?_⟩
          refine reg_end [(20, Value.pointer (some ⟨b_3, 0, none⟩))] (by kernel_rfl) (by kernel_rfl) ?_
          change WpE _ _ c_towpathlaw08_ChainMarks_47 _ _ _
          refine wpE_seq (x := c_towpathlaw08_ChainMarks_48) (y := c_towpathlaw08_ChainMarks_50) (by kernel_rfl) ?_
          refine wpE_region (id := 13) (ops := r_towpathlaw08_ChainMarks_48) (by kernel_rfl) ?_
          refine reg_run [] 0 [(20, [], Value.pointer (some ⟨b_3, 0, none⟩))] (by kernel_rfl) (by kernel_rfl) ?_
          refine reg_enter (op := (Go.Op.call (Go.Call.mk (Go.Callee.value (Go.Operand.func 16)) #[(Go.Operand.tmp 20)] #[46]))) (ty := 4) (dst := some 95) 16 #[Value.pointer (some ⟨b_3, 0, none⟩)] (by kernel_rfl) (fun ww => by kernel_rfl) (Calls.mono h ?_)
          rintro _ w18 ⟨v95, rfl, h⟩
          refine ⟨_, rfl, ?_⟩
          refine reg_run [.plain] 2 [(6, [], Value.bool v95)] (by kernel_rfl) (by kernel_rfl) ?_
          refine reg_end [(6, Value.bool v95)] (by kernel_rfl) (by kernel_rfl) ?_
          change WpE _ _ c_towpathlaw08_ChainMarks_50 _ _ _
          refine wpE_ret (by kernel_rfl) ?_
          repeat (first | refine seqQ_ret ?_ | refine blockQ_ret ?_ | refine loopQ_ret ?_ | refine cutQ_ret ?_)
          exact retS (rs := [(Go.ResultVar.tmp 6)]) (v := Value.bool v95) (by kernel_rfl) (⟨by kernel_rfl, trivial⟩) ⟨v95, rfl, h⟩
  · rintro e w' ⟨v, rfl, r0, rfl, h⟩; exact ⟨r0, rfl, h⟩
end Go.Proofs.YtcgfmkpddhhmgaaDoor
