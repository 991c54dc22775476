/- WRITTEN BY PROGRAM (dec.py): for each Go function the clean formula F, the call's contract C, and the proof S that F gives C. -/
import Derived.Test.YtcgfmkpddhhmgaaDoorRows
import Derived.Test.YtcgfmkpddhhmgaaDoorGF
namespace Go.Proofs.YtcgfmkpddhhmgaaDoor
open Go
set_option linter.unusedVariables false

/-! ### towpath/towpathlaw08.ChainPuts (function 5) -/
noncomputable def c_towpathlaw08_ChainPuts_0 : Code := (Tryd.f5.body).getD Code.skip
noncomputable def c_towpathlaw08_ChainPuts_1 : Code := Code.l c_towpathlaw08_ChainPuts_0
noncomputable def r_towpathlaw08_ChainPuts_1 : Array Oper := Code.ops c_towpathlaw08_ChainPuts_1
noncomputable def c_towpathlaw08_ChainPuts_3 : Code := Code.r c_towpathlaw08_ChainPuts_0
noncomputable def c_towpathlaw08_ChainPuts_4 : Code := Code.l c_towpathlaw08_ChainPuts_3
noncomputable def c_towpathlaw08_ChainPuts_5 : Code := Code.l c_towpathlaw08_ChainPuts_4
noncomputable def r_towpathlaw08_ChainPuts_5 : Array Oper := Code.ops c_towpathlaw08_ChainPuts_5
noncomputable def c_towpathlaw08_ChainPuts_7 : Code := Code.r c_towpathlaw08_ChainPuts_4
noncomputable def c_towpathlaw08_ChainPuts_8 : Code := Code.l c_towpathlaw08_ChainPuts_7
noncomputable def c_towpathlaw08_ChainPuts_9 : Code := Code.l c_towpathlaw08_ChainPuts_8
noncomputable def r_towpathlaw08_ChainPuts_9 : Array Oper := Code.ops c_towpathlaw08_ChainPuts_9
noncomputable def c_towpathlaw08_ChainPuts_11 : Code := Code.r c_towpathlaw08_ChainPuts_8
noncomputable def c_towpathlaw08_ChainPuts_12 : Code := Code.r c_towpathlaw08_ChainPuts_7
noncomputable def c_towpathlaw08_ChainPuts_13 : Code := Code.r c_towpathlaw08_ChainPuts_3
noncomputable def c_towpathlaw08_ChainPuts_14 : Code := Code.l c_towpathlaw08_ChainPuts_13
noncomputable def r_towpathlaw08_ChainPuts_14 : Array Oper := Code.ops c_towpathlaw08_ChainPuts_14
noncomputable def c_towpathlaw08_ChainPuts_16 : Code := Code.r c_towpathlaw08_ChainPuts_13
noncomputable def c_towpathlaw08_ChainPuts_17 : Code := Code.l c_towpathlaw08_ChainPuts_16
noncomputable def r_towpathlaw08_ChainPuts_17 : Array Oper := Code.ops c_towpathlaw08_ChainPuts_17
noncomputable def c_towpathlaw08_ChainPuts_19 : Code := Code.r c_towpathlaw08_ChainPuts_16
noncomputable def c_towpathlaw08_ChainPuts_20 : Code := Code.l c_towpathlaw08_ChainPuts_19
noncomputable def r_towpathlaw08_ChainPuts_20 : Array Oper := Code.ops c_towpathlaw08_ChainPuts_20
noncomputable def c_towpathlaw08_ChainPuts_22 : Code := Code.r c_towpathlaw08_ChainPuts_19
noncomputable def c_towpathlaw08_ChainPuts_23 : Code := Code.l c_towpathlaw08_ChainPuts_22
noncomputable def c_towpathlaw08_ChainPuts_24 : Code := Code.l c_towpathlaw08_ChainPuts_23
noncomputable def r_towpathlaw08_ChainPuts_24 : Array Oper := Code.ops c_towpathlaw08_ChainPuts_24
noncomputable def c_towpathlaw08_ChainPuts_26 : Code := Code.r c_towpathlaw08_ChainPuts_23
noncomputable def c_towpathlaw08_ChainPuts_27 : Code := Code.l c_towpathlaw08_ChainPuts_26
noncomputable def c_towpathlaw08_ChainPuts_28 : Code := Code.l c_towpathlaw08_ChainPuts_27
noncomputable def r_towpathlaw08_ChainPuts_28 : Array Oper := Code.ops c_towpathlaw08_ChainPuts_28
noncomputable def c_towpathlaw08_ChainPuts_30 : Code := Code.r c_towpathlaw08_ChainPuts_27
noncomputable def c_towpathlaw08_ChainPuts_31 : Code := Code.r c_towpathlaw08_ChainPuts_26
noncomputable def c_towpathlaw08_ChainPuts_32 : Code := Code.r c_towpathlaw08_ChainPuts_22
noncomputable def c_towpathlaw08_ChainPuts_33 : Code := Code.l c_towpathlaw08_ChainPuts_32
noncomputable def r_towpathlaw08_ChainPuts_33 : Array Oper := Code.ops c_towpathlaw08_ChainPuts_33
noncomputable def c_towpathlaw08_ChainPuts_35 : Code := Code.r c_towpathlaw08_ChainPuts_32
noncomputable def c_towpathlaw08_ChainPuts_36 : Code := Code.l c_towpathlaw08_ChainPuts_35
noncomputable def r_towpathlaw08_ChainPuts_36 : Array Oper := Code.ops c_towpathlaw08_ChainPuts_36
noncomputable def c_towpathlaw08_ChainPuts_38 : Code := Code.r c_towpathlaw08_ChainPuts_35
noncomputable def c_towpathlaw08_ChainPuts_39 : Code := Code.l c_towpathlaw08_ChainPuts_38
noncomputable def r_towpathlaw08_ChainPuts_39 : Array Oper := Code.ops c_towpathlaw08_ChainPuts_39
noncomputable def c_towpathlaw08_ChainPuts_41 : Code := Code.r c_towpathlaw08_ChainPuts_38
noncomputable def c_towpathlaw08_ChainPuts_42 : Code := Code.l c_towpathlaw08_ChainPuts_41
noncomputable def r_towpathlaw08_ChainPuts_42 : Array Oper := Code.ops c_towpathlaw08_ChainPuts_42
noncomputable def c_towpathlaw08_ChainPuts_44 : Code := Code.r c_towpathlaw08_ChainPuts_41
def o_towpathlaw08_ChainPuts_5 : List Nat := [0, 2, 3, 4, 1, 5, 6]

set_option maxRecDepth 100000 in
set_option maxHeartbeats 4000000 in
theorem S_towpathlaw08_ChainPuts {l_ : Slc} {v : T_api_Version} {w : World} {R : Bool → World → Prop} (h : F_towpathlaw08_ChainPuts l_ v R w) : C_towpathlaw08_ChainPuts l_ v w R := by
  unfold F_towpathlaw08_ChainPuts at h
  unfold C_towpathlaw08_ChainPuts
  refine Calls.mono (calls_of_wpE (args := [Value.slice l_.ptr l_.len l_.cap, Value.agg #[Value.int .i64 v.Number, Value.string v.Val, Value.bool v.Drop]]) (R := fun v w' => ∃ (r0 : Bool), v = Value.bool r0 ∧ R r0 w') Tryd.func5 (c := c_towpathlaw08_ChainPuts_0) (by kernel_rfl) 69 (by kernel_rfl) (by kernel_rfl) [(0, Value.slice l_.ptr l_.len l_.cap), (1, Value.agg #[Value.int .i64 v.Number, Value.string v.Val, Value.bool v.Drop])] (by kernel_rfl) ?_) ?_
  · refine wpE_seq (x := c_towpathlaw08_ChainPuts_1) (y := c_towpathlaw08_ChainPuts_3) (by kernel_rfl) ?_
    refine wpE_region (id := 0) (ops := r_towpathlaw08_ChainPuts_1) (by kernel_rfl) ?_
    refine reg_run [] 0 [(0, [], Value.slice l_.ptr l_.len l_.cap), (1, [], Value.agg #[Value.int .i64 v.Number, Value.string v.Val, Value.bool v.Drop])] (by kernel_rfl) (by kernel_rfl) ?_
    refine reg_new (op := (Go.Op.box 27 (Go.Operand.tmp 1))) (ty := 0) (dst := some 3) (fun bb => Value.pointer (some ⟨bb, 0, none⟩)) (Obj.cells ([Value.int .i64 v.Number, Value.string v.Val, Value.bool v.Drop]).toArray ty_api_Version (0, 0)) (by kernel_rfl) (by kernel_rfl) (fun b_ w1 hb hw => ?_)
    replace h := h b_ w1 hb hw
    clear hb hw
    refine reg_run [.plain] 2 [(0, [], Value.slice l_.ptr l_.len l_.cap), (3, [], Value.pointer (some ⟨b_, 0, none⟩))] (by kernel_rfl) (by kernel_rfl) ?_
    refine reg_end [(0, Value.slice l_.ptr l_.len l_.cap), (3, Value.pointer (some ⟨b_, 0, none⟩))] (by kernel_rfl) (by kernel_rfl) ?_
    change WpE _ _ c_towpathlaw08_ChainPuts_3 _ _ _
    refine wpE_seq (x := c_towpathlaw08_ChainPuts_4) (y := c_towpathlaw08_ChainPuts_13) (by kernel_rfl) ?_
    refine wpE_seq (x := c_towpathlaw08_ChainPuts_5) (y := c_towpathlaw08_ChainPuts_7) (by kernel_rfl) ?_
    refine wpE_mixregion (id := 1) (ops := r_towpathlaw08_ChainPuts_5) o_towpathlaw08_ChainPuts_5 (by kernel_rfl) (by kernel_rfl) (by kernel_rfl) (by kernel_rfl) (fun w2 hw => ?_)
    replace h := h w2 hw
    clear hw
    refine mreg_run [.plain, .plain] 2 [(0, [], Value.slice l_.ptr l_.len l_.cap), (3, [], Value.pointer (some ⟨b_, 0, none⟩)), (13, [], Value.slice l_.ptr l_.len l_.cap), (15, [], Value.pointer (some ⟨b_, 1, none⟩))] (by kernel_rfl) (by kernel_rfl) ?_
    obtain ⟨v16, hc, h⟩ := h
    refine mreg_load1 (i := 3) (by kernel_rfl) (t := 9) (a := (Go.Operand.tmp 15)) (b := b_) (o := 1) (ty := 9) (dst := some 16) (by kernel_rfl) (by kernel_rfl) (by kernel_rfl) hc ?_
    refine mreg_run [.plain] 4 [(0, [], Value.slice l_.ptr l_.len l_.cap), (3, [], Value.pointer (some ⟨b_, 0, none⟩)), (13, [], Value.slice l_.ptr l_.len l_.cap), (17, [], Value.int .i64 ((v16.size : Nat) : Int))] (by kernel_rfl) (by kernel_rfl) ?_
    refine mreg_enter (op := (Go.Op.call (Go.Call.mk (Go.Callee.value (Go.Operand.func 7)) #[(Go.Operand.tmp 13)] #[22]))) (ty := 3) (dst := some 14) 1 [0] [(3, fun w' => w'.cell? ⟨b_, 1, none⟩ = some (Value.string v16))] 7 #[Value.slice l_.ptr l_.len l_.cap] (by kernel_rfl) (by kernel_rfl) (by kernel_rfl) (by kernel_rfl) (by kernel_rfl) (fun ww => by kernel_rfl) (Calls.mono h ?_)
    rintro _ w3 ⟨v14, rfl, h⟩
    obtain ⟨hk0, h⟩ := h
    refine ⟨_, rfl, ⟨hk0, trivial⟩, ?_⟩
    refine mreg_run [] 5 [(0, [], Value.slice l_.ptr l_.len l_.cap), (3, [], Value.pointer (some ⟨b_, 0, none⟩)), (14, [], Value.int .i64 v14), (17, [], Value.int .i64 ((v16.size : Nat) : Int))] (by kernel_rfl) (by kernel_rfl) ?_
    refine mreg_new (op := (Go.Op.buildSlice 50 2 #[(0, (Go.Operand.tmp 14)), (1, (Go.Operand.tmp 17))])) (ty := 50) (dst := some 18) 5 [1, 4, 0, 3, 2] [] (fun bb => Value.slice (some ⟨bb, 0, none⟩) 2 2) (Obj.cells ([Value.int .i64 v14, Value.int .i64 ((v16.size : Nat) : Int)]).toArray ty_int (0, 0)) (by kernel_rfl) (by kernel_rfl) (by kernel_rfl) (by kernel_rfl) (by kernel_rfl) (by kernel_rfl) (fun b_1 w4 hb hw => ?_)
    replace h := h b_1 w4 hb hw
    clear hb hw
    refine ⟨trivial, ?_⟩
    refine mreg_run [] 6 [(0, [], Value.slice l_.ptr l_.len l_.cap), (3, [], Value.pointer (some ⟨b_, 0, none⟩)), (18, [], Value.slice (some ⟨b_1, 0, none⟩) 2 2)] (by kernel_rfl) (by kernel_rfl) ?_
    refine mreg_enter (op := (Go.Op.call (Go.Call.mk (Go.Callee.value (Go.Operand.func 6)) #[(Go.Operand.tmp 18)] #[50]))) (ty := 4) (dst := some 19) 6 [1, 5, 0, 4, 3, 2] [] 6 #[Value.slice (some ⟨b_1, 0, none⟩) 2 2] (by kernel_rfl) (by kernel_rfl) (by kernel_rfl) (by kernel_rfl) (by kernel_rfl) (fun ww => by kernel_rfl) (Calls.mono h ?_)
    rintro _ w5 ⟨v19, rfl, h⟩
    refine ⟨_, rfl, trivial, ?_⟩
    refine mreg_end [(0, Value.slice l_.ptr l_.len l_.cap), (3, Value.pointer (some ⟨b_, 0, none⟩)), (19, Value.bool v19)] (by kernel_rfl) (by kernel_rfl) (by kernel_rfl) ?_
    change WpE _ _ c_towpathlaw08_ChainPuts_7 _ _ _
    refine wpE_cond (o := (Operand.tmp 19)) (b := v19) (x := c_towpathlaw08_ChainPuts_8) (y := c_towpathlaw08_ChainPuts_12) (by kernel_rfl) (by kernel_rfl) (fun hb => ?_) (fun hb => ?_)
    · replace h := h.1 hb
      refine wpE_seq (x := c_towpathlaw08_ChainPuts_9) (y := c_towpathlaw08_ChainPuts_11) (by kernel_rfl) ?_
      refine wpE_region (id := 2) (ops := r_towpathlaw08_ChainPuts_9) (by kernel_rfl) ?_
      refine reg_run [.plain] 1 [(4, [], Value.bool true)] (by kernel_rfl) (by kernel_rfl) ?_
      refine reg_end [(4, Value.bool true)] (by kernel_rfl) (by kernel_rfl) ?_
      change WpE _ _ c_towpathlaw08_ChainPuts_11 _ _ _
      refine wpE_ret (by kernel_rfl) ?_
      repeat (first | refine seqQ_ret ?_ | refine blockQ_ret ?_ | refine loopQ_ret ?_ | refine cutQ_ret ?_)
      exact retS (rs := [(Go.ResultVar.tmp 4)]) (v := Value.bool true) (by kernel_rfl) (⟨by kernel_rfl, trivial⟩) ⟨true, rfl, h⟩
    · replace h := h.2 hb
      refine wpE_skip (by kernel_rfl) ?_
      change WpE _ _ c_towpathlaw08_ChainPuts_13 _ _ _
      refine wpE_seq (x := c_towpathlaw08_ChainPuts_14) (y := c_towpathlaw08_ChainPuts_16) (by kernel_rfl) ?_
      refine wpE_region (id := 3) (ops := r_towpathlaw08_ChainPuts_14) (by kernel_rfl) ?_
      refine reg_run [.plain] 1 [(0, [], Value.slice l_.ptr l_.len l_.cap), (3, [], Value.pointer (some ⟨b_, 0, none⟩)), (20, [], Value.slice l_.ptr l_.len l_.cap)] (by kernel_rfl) (by kernel_rfl) ?_
      refine reg_enter (op := (Go.Op.call (Go.Call.mk (Go.Callee.value (Go.Operand.func 8)) #[(Go.Operand.tmp 20)] #[22]))) (ty := 22) (dst := some 21) 8 #[Value.slice l_.ptr l_.len l_.cap] (by kernel_rfl) (fun ww => by kernel_rfl) (Calls.mono h ?_)
      rintro _ w6 ⟨v21, rfl, h⟩
      refine ⟨_, rfl, ?_⟩
      refine reg_run [.plain] 3 [(0, [], Value.slice l_.ptr l_.len l_.cap), (3, [], Value.pointer (some ⟨b_, 0, none⟩)), (5, [], Value.slice v21.ptr v21.len v21.cap)] (by kernel_rfl) (by kernel_rfl) ?_
      refine reg_end [(0, Value.slice l_.ptr l_.len l_.cap), (3, Value.pointer (some ⟨b_, 0, none⟩)), (5, Value.slice v21.ptr v21.len v21.cap)] (by kernel_rfl) (by kernel_rfl) ?_
      change WpE _ _ c_towpathlaw08_ChainPuts_16 _ _ _
      refine wpE_seq (x := c_towpathlaw08_ChainPuts_17) (y := c_towpathlaw08_ChainPuts_19) (by kernel_rfl) ?_
      refine wpE_region (id := 4) (ops := r_towpathlaw08_ChainPuts_17) (by kernel_rfl) ?_
      refine reg_run [.plain] 1 [(0, [], Value.slice l_.ptr l_.len l_.cap), (3, [], Value.pointer (some ⟨b_, 0, none⟩)), (5, [], Value.slice v21.ptr v21.len v21.cap), (23, [], Value.slice v21.ptr v21.len v21.cap)] (by kernel_rfl) (by kernel_rfl) ?_
      obtain ⟨v24, hc, h⟩ := h
      refine reg_loadN (t := 27) (a := (Go.Operand.tmp 3)) (b := b_) (o := 0) (ty := 27) (dst := some 24) [Value.int .i64 v24.Number, Value.string v24.Val, Value.bool v24.Drop] (by kernel_rfl) (by kernel_rfl) (by kernel_rfl) (k := 3) (by kernel_rfl) (by kernel_rfl) hc ?_
      refine reg_run [] 2 [(0, [], Value.slice l_.ptr l_.len l_.cap), (3, [], Value.pointer (some ⟨b_, 0, none⟩)), (5, [], Value.slice v21.ptr v21.len v21.cap), (23, [], Value.slice v21.ptr v21.len v21.cap), (24, [], Value.agg #[Value.int .i64 v24.Number, Value.string v24.Val, Value.bool v24.Drop])] (by kernel_rfl) (by kernel_rfl) ?_
      refine reg_enter (op := (Go.Op.call (Go.Call.mk (Go.Callee.value (Go.Operand.func 22)) #[(Go.Operand.tmp 23), (Go.Operand.tmp 24)] #[22, 27]))) (ty := 57) (dst := some 25) 22 #[Value.slice v21.ptr v21.len v21.cap, Value.agg #[Value.int .i64 v24.Number, Value.string v24.Val, Value.bool v24.Drop]] (by kernel_rfl) (fun ww => by kernel_rfl) (Calls.mono h ?_)
      rintro _ w7 ⟨x, ok, e, rfl, h⟩
      refine ⟨_, rfl, ?_⟩
      refine reg_run [.plain, .plain, .plain, .plain, .plain, .plain, .plain] 10 [(0, [], Value.slice l_.ptr l_.len l_.cap), (3, [], Value.pointer (some ⟨b_, 0, none⟩)), (5, [], Value.slice v21.ptr v21.len v21.cap), (6, [], Value.slice x.ptr x.len x.cap), (7, [], Value.bool ok), (8, [], Value.int .i64 e)] (by kernel_rfl) (by kernel_rfl) ?_
      refine reg_end [(0, Value.slice l_.ptr l_.len l_.cap), (3, Value.pointer (some ⟨b_, 0, none⟩)), (5, Value.slice v21.ptr v21.len v21.cap), (6, Value.slice x.ptr x.len x.cap), (7, Value.bool ok), (8, Value.int .i64 e)] (by kernel_rfl) (by kernel_rfl) ?_
      change WpE _ _ c_towpathlaw08_ChainPuts_19 _ _ _
      refine wpE_seq (x := c_towpathlaw08_ChainPuts_20) (y := c_towpathlaw08_ChainPuts_22) (by kernel_rfl) ?_
      refine wpE_region (id := 5) (ops := r_towpathlaw08_ChainPuts_20) (by kernel_rfl) ?_
      refine reg_run [.plain] 1 [(0, [], Value.slice l_.ptr l_.len l_.cap), (3, [], Value.pointer (some ⟨b_, 0, none⟩)), (5, [], Value.slice v21.ptr v21.len v21.cap), (6, [], Value.slice x.ptr x.len x.cap), (7, [], Value.bool ok), (8, [], Value.int .i64 e), (30, [], Value.slice l_.ptr l_.len l_.cap)] (by kernel_rfl) (by kernel_rfl) ?_
      obtain ⟨v31, hc, h⟩ := h
      refine reg_loadN (t := 27) (a := (Go.Operand.tmp 3)) (b := b_) (o := 0) (ty := 27) (dst := some 31) [Value.int .i64 v31.Number, Value.string v31.Val, Value.bool v31.Drop] (by kernel_rfl) (by kernel_rfl) (by kernel_rfl) (k := 3) (by kernel_rfl) (by kernel_rfl) hc ?_
      refine reg_run [] 2 [(0, [], Value.slice l_.ptr l_.len l_.cap), (5, [], Value.slice v21.ptr v21.len v21.cap), (6, [], Value.slice x.ptr x.len x.cap), (7, [], Value.bool ok), (8, [], Value.int .i64 e), (30, [], Value.slice l_.ptr l_.len l_.cap), (31, [], Value.agg #[Value.int .i64 v31.Number, Value.string v31.Val, Value.bool v31.Drop])] (by kernel_rfl) (by kernel_rfl) ?_
      refine reg_enter (op := (Go.Op.call (Go.Call.mk (Go.Callee.value (Go.Operand.func 23)) #[(Go.Operand.tmp 30), (Go.Operand.tmp 31)] #[22, 27]))) (ty := 57) (dst := some 32) 23 #[Value.slice l_.ptr l_.len l_.cap, Value.agg #[Value.int .i64 v31.Number, Value.string v31.Val, Value.bool v31.Drop]] (by kernel_rfl) (fun ww => by kernel_rfl) (Calls.mono h ?_)
      rintro _ w8 ⟨want, is, f, rfl, h⟩
      refine ⟨_, rfl, ?_⟩
      refine reg_run [.plain, .plain, .plain, .plain, .plain, .plain, .plain] 10 [(0, [], Value.slice l_.ptr l_.len l_.cap), (5, [], Value.slice v21.ptr v21.len v21.cap), (6, [], Value.slice x.ptr x.len x.cap), (7, [], Value.bool ok), (8, [], Value.int .i64 e), (9, [], Value.slice want.ptr want.len want.cap), (10, [], Value.bool is), (11, [], Value.int .i64 f)] (by kernel_rfl) (by kernel_rfl) ?_
      refine reg_end [(0, Value.slice l_.ptr l_.len l_.cap), (5, Value.slice v21.ptr v21.len v21.cap), (6, Value.slice x.ptr x.len x.cap), (7, Value.bool ok), (8, Value.int .i64 e), (9, Value.slice want.ptr want.len want.cap), (10, Value.bool is), (11, Value.int .i64 f)] (by kernel_rfl) (by kernel_rfl) ?_
      change WpE _ _ c_towpathlaw08_ChainPuts_22 _ _ _
      refine wpE_seq (x := c_towpathlaw08_ChainPuts_23) (y := c_towpathlaw08_ChainPuts_32) (by kernel_rfl) ?_
      refine wpE_seq_cut (x := c_towpathlaw08_ChainPuts_24) (y := c_towpathlaw08_ChainPuts_26) (by kernel_rfl) (fun l w => ∃ (t62 : Bool), l = [(5, Value.slice v21.ptr v21.len v21.cap), (6, Value.slice x.ptr x.len x.cap), (62, Value.bool t62)] ∧ F_towpathlaw08_ChainPuts_k0 R v21 x t62 w) ?_ ?_
      · refine wpE_region (id := 6) (ops := r_towpathlaw08_ChainPuts_24) (by kernel_rfl) ?_
        refine reg_run [.plain, .plain, .plain, .plain, .plain, .plain, .plain, .pick, .plain, .plain] 10 [(0, [], Value.slice l_.ptr l_.len l_.cap), (5, [], Value.slice v21.ptr v21.len v21.cap), (6, [], Value.slice x.ptr x.len x.cap), (9, [], Value.slice want.ptr want.len want.cap), (44, [], Value.bool ((e != f) || (!(ok == is)))), (45, [(44, false)], Value.slice v21.ptr v21.len v21.cap)] (by kernel_rfl) (by kernel_rfl) ?_
        refine reg_split 44 ((e != f) || (!(ok == is))) (by kernel_rfl) (fun hb => ?_) (fun hb => ?_)
        · replace h := h.1 hb
          refine reg_run [] 10 [(0, [], Value.slice l_.ptr l_.len l_.cap), (5, [], Value.slice v21.ptr v21.len v21.cap), (6, [], Value.slice x.ptr x.len x.cap), (9, [], Value.slice want.ptr want.len want.cap), (44, [], Value.bool true), (45, [], undef)] (by kernel_rfl) (by kernel_rfl) ?_
          refine reg_run [.skip, .skip, .skip, .skip, .plain, .plain, .skip, .skip, .skip, .skip, .plain, .plain, .skip, .skip, .skip, .skip, .plain] 27 [(5, [], Value.slice v21.ptr v21.len v21.cap), (6, [], Value.slice x.ptr x.len x.cap), (62, [], Value.bool true)] (by kernel_rfl) (by kernel_rfl) ?_
          refine reg_end [(5, Value.slice v21.ptr v21.len v21.cap), (6, Value.slice x.ptr x.len x.cap), (62, Value.bool true)] (by kernel_rfl) (by kernel_rfl) ?_
          exact ⟨[(5, Value.slice v21.ptr v21.len v21.cap), (6, Value.slice x.ptr x.len x.cap), (62, Value.bool true)], Sub.mk (by kernel_rfl), true, rfl, h⟩
        · replace h := h.2 hb
          refine reg_run [] 10 [(0, [], Value.slice l_.ptr l_.len l_.cap), (5, [], Value.slice v21.ptr v21.len v21.cap), (6, [], Value.slice x.ptr x.len x.cap), (9, [], Value.slice want.ptr want.len want.cap), (44, [], Value.bool false), (45, [], Value.slice v21.ptr v21.len v21.cap)] (by kernel_rfl) (by kernel_rfl) ?_
          refine reg_run [] 10 [(0, [], Value.slice l_.ptr l_.len l_.cap), (5, [], Value.slice v21.ptr v21.len v21.cap), (6, [], Value.slice x.ptr x.len x.cap), (9, [], Value.slice want.ptr want.len want.cap), (44, [], Value.bool false), (45, [], Value.slice v21.ptr v21.len v21.cap)] (by kernel_rfl) (by kernel_rfl) ?_
          refine reg_enter (op := (Go.Op.call (Go.Call.mk (Go.Callee.value (Go.Operand.func 24)) #[(Go.Operand.tmp 45)] #[22]))) (ty := 28) (dst := some 46) 24 #[Value.slice v21.ptr v21.len v21.cap] (by kernel_rfl) (fun ww => by kernel_rfl) (Calls.mono h ?_)
          rintro _ w15 ⟨v46, rfl, h⟩
          refine ⟨_, rfl, ?_⟩
          refine reg_run [.sure] 12 [(0, [], Value.slice l_.ptr l_.len l_.cap), (5, [], Value.slice v21.ptr v21.len v21.cap), (6, [], Value.slice x.ptr x.len x.cap), (9, [], Value.slice want.ptr want.len want.cap), (44, [], Value.bool false), (46, [], Value.int .i64 v46), (47, [], Value.slice l_.ptr l_.len l_.cap)] (by kernel_rfl) (by kernel_rfl) ?_
          refine reg_enter (op := (Go.Op.call (Go.Call.mk (Go.Callee.value (Go.Operand.func 25)) #[(Go.Operand.tmp 47)] #[22]))) (ty := 28) (dst := some 48) 25 #[Value.slice l_.ptr l_.len l_.cap] (by kernel_rfl) (fun ww => by kernel_rfl) (Calls.mono h ?_)
          rintro _ w16 ⟨v48, rfl, h⟩
          refine ⟨_, rfl, ?_⟩
          refine reg_run [.sure, .plain, .plain, .plain, .plain] 18 [(0, [], Value.slice l_.ptr l_.len l_.cap), (5, [], Value.slice v21.ptr v21.len v21.cap), (6, [], Value.slice x.ptr x.len x.cap), (51, [], Value.bool (v46 != v48)), (52, [(51, false)], Value.slice x.ptr x.len x.cap), (53, [(51, false)], Value.slice want.ptr want.len want.cap)] (by kernel_rfl) (by kernel_rfl) ?_
          refine reg_split 51 (v46 != v48) (by kernel_rfl) (fun hb => ?_) (fun hb => ?_)
          · replace h := h.1 hb
            refine reg_run [] 18 [(0, [], Value.slice l_.ptr l_.len l_.cap), (5, [], Value.slice v21.ptr v21.len v21.cap), (6, [], Value.slice x.ptr x.len x.cap), (51, [], Value.bool true), (52, [], undef), (53, [], undef)] (by kernel_rfl) (by kernel_rfl) ?_
            refine reg_run [.skip, .skip, .plain, .plain, .skip, .skip, .skip, .skip, .plain] 27 [(5, [], Value.slice v21.ptr v21.len v21.cap), (6, [], Value.slice x.ptr x.len x.cap), (62, [], Value.bool true)] (by kernel_rfl) (by kernel_rfl) ?_
            refine reg_end [(5, Value.slice v21.ptr v21.len v21.cap), (6, Value.slice x.ptr x.len x.cap), (62, Value.bool true)] (by kernel_rfl) (by kernel_rfl) ?_
            exact ⟨[(5, Value.slice v21.ptr v21.len v21.cap), (6, Value.slice x.ptr x.len x.cap), (62, Value.bool true)], Sub.mk (by kernel_rfl), true, rfl, h⟩
          · replace h := h.2 hb
            refine reg_run [] 18 [(0, [], Value.slice l_.ptr l_.len l_.cap), (5, [], Value.slice v21.ptr v21.len v21.cap), (6, [], Value.slice x.ptr x.len x.cap), (51, [], Value.bool false), (52, [], Value.slice x.ptr x.len x.cap), (53, [], Value.slice want.ptr want.len want.cap)] (by kernel_rfl) (by kernel_rfl) ?_
            refine reg_run [] 18 [(0, [], Value.slice l_.ptr l_.len l_.cap), (5, [], Value.slice v21.ptr v21.len v21.cap), (6, [], Value.slice x.ptr x.len x.cap), (51, [], Value.bool false), (52, [], Value.slice x.ptr x.len x.cap), (53, [], Value.slice want.ptr want.len want.cap)] (by kernel_rfl) (by kernel_rfl) ?_
            refine reg_enter (op := (Go.Op.call (Go.Call.mk (Go.Callee.value (Go.Operand.func 13)) #[(Go.Operand.tmp 52), (Go.Operand.tmp 53)] #[22, 22]))) (ty := 4) (dst := some 54) 13 #[Value.slice x.ptr x.len x.cap, Value.slice want.ptr want.len want.cap] (by kernel_rfl) (fun ww => by kernel_rfl) (Calls.mono h ?_)
            rintro _ w17 ⟨v54, rfl, h⟩
            refine ⟨_, rfl, ?_⟩
            refine reg_run [.sure, .plain, .plain, .plain, .plain] 24 [(5, [], Value.slice v21.ptr v21.len v21.cap), (6, [], Value.slice x.ptr x.len x.cap), (57, [], Value.bool (!v54)), (58, [(57, false)], Value.slice v21.ptr v21.len v21.cap), (59, [(57, false)], Value.slice l_.ptr l_.len l_.cap)] (by kernel_rfl) (by kernel_rfl) ?_
            refine reg_split 57 (!v54) (by kernel_rfl) (fun hb => ?_) (fun hb => ?_)
            · replace h := h.1 hb
              refine reg_run [] 24 [(5, [], Value.slice v21.ptr v21.len v21.cap), (6, [], Value.slice x.ptr x.len x.cap), (57, [], Value.bool true), (58, [], undef), (59, [], undef)] (by kernel_rfl) (by kernel_rfl) ?_
              refine reg_run [.skip, .skip, .plain] 27 [(5, [], Value.slice v21.ptr v21.len v21.cap), (6, [], Value.slice x.ptr x.len x.cap), (62, [], Value.bool true)] (by kernel_rfl) (by kernel_rfl) ?_
              refine reg_end [(5, Value.slice v21.ptr v21.len v21.cap), (6, Value.slice x.ptr x.len x.cap), (62, Value.bool true)] (by kernel_rfl) (by kernel_rfl) ?_
              exact ⟨[(5, Value.slice v21.ptr v21.len v21.cap), (6, Value.slice x.ptr x.len x.cap), (62, Value.bool true)], Sub.mk (by kernel_rfl), true, rfl, h⟩
            · replace h := h.2 hb
              refine reg_run [] 24 [(5, [], Value.slice v21.ptr v21.len v21.cap), (6, [], Value.slice x.ptr x.len x.cap), (57, [], Value.bool false), (58, [], Value.slice v21.ptr v21.len v21.cap), (59, [], Value.slice l_.ptr l_.len l_.cap)] (by kernel_rfl) (by kernel_rfl) ?_
              refine reg_run [] 24 [(5, [], Value.slice v21.ptr v21.len v21.cap), (6, [], Value.slice x.ptr x.len x.cap), (57, [], Value.bool false), (58, [], Value.slice v21.ptr v21.len v21.cap), (59, [], Value.slice l_.ptr l_.len l_.cap)] (by kernel_rfl) (by kernel_rfl) ?_
              refine reg_enter (op := (Go.Op.call (Go.Call.mk (Go.Callee.value (Go.Operand.func 14)) #[(Go.Operand.tmp 58), (Go.Operand.tmp 59)] #[22, 22]))) (ty := 4) (dst := some 60) 14 #[Value.slice v21.ptr v21.len v21.cap, Value.slice l_.ptr l_.len l_.cap] (by kernel_rfl) (fun ww => by kernel_rfl) (Calls.mono h ?_)
              rintro _ w18 ⟨v60, rfl, h⟩
              refine ⟨_, rfl, ?_⟩
              refine reg_run [.sure, .plain] 27 [(5, [], Value.slice v21.ptr v21.len v21.cap), (6, [], Value.slice x.ptr x.len x.cap), (62, [], Value.bool (!v60))] (by kernel_rfl) (by kernel_rfl) ?_
              refine reg_end [(5, Value.slice v21.ptr v21.len v21.cap), (6, Value.slice x.ptr x.len x.cap), (62, Value.bool (!v60))] (by kernel_rfl) (by kernel_rfl) ?_
              exact ⟨[(5, Value.slice v21.ptr v21.len v21.cap), (6, Value.slice x.ptr x.len x.cap), (62, Value.bool (!v60))], Sub.mk (by kernel_rfl), (!v60), rfl, h⟩
      · rintro _ w9 ⟨t62, rfl, h⟩
        unfold F_towpathlaw08_ChainPuts_k0 at h
        refine wpE_cond (o := (Operand.tmp 62)) (b := t62) (x := c_towpathlaw08_ChainPuts_27) (y := c_towpathlaw08_ChainPuts_31) (by kernel_rfl) (by kernel_rfl) (fun hb => ?_) (fun hb => ?_)
        · replace h := h.1 hb
          refine wpE_seq (x := c_towpathlaw08_ChainPuts_28) (y := c_towpathlaw08_ChainPuts_30) (by kernel_rfl) ?_
          refine wpE_region (id := 7) (ops := r_towpathlaw08_ChainPuts_28) (by kernel_rfl) ?_
          refine reg_run [.plain] 1 [(4, [], Value.bool false)] (by kernel_rfl) (by kernel_rfl) ?_
          refine reg_end [(4, Value.bool false)] (by kernel_rfl) (by kernel_rfl) ?_
          change WpE _ _ c_towpathlaw08_ChainPuts_30 _ _ _
          refine wpE_ret (by kernel_rfl) ?_
          repeat (first | refine seqQ_ret ?_ | refine blockQ_ret ?_ | refine loopQ_ret ?_ | refine cutQ_ret ?_)
          exact retS (rs := [(Go.ResultVar.tmp 4)]) (v := Value.bool false) (by kernel_rfl) (⟨by kernel_rfl, trivial⟩) ⟨false, rfl, h⟩
        · replace h := h.2 hb
          refine wpE_skip (by kernel_rfl) ?_
          change WpE _ _ c_towpathlaw08_ChainPuts_32 _ _ _
          refine wpE_seq (x := c_towpathlaw08_ChainPuts_33) (y := c_towpathlaw08_ChainPuts_35) (by kernel_rfl) ?_
          refine wpE_region (id := 8) (ops := r_towpathlaw08_ChainPuts_33) (by kernel_rfl) ?_
          refine reg_run [.plain] 1 [(5, [], Value.slice v21.ptr v21.len v21.cap), (6, [], Value.slice x.ptr x.len x.cap), (63, [], Value.agg #[Value.int .i64 0, Value.slice none 0 0, Value.slice none 0 0, Value.slice none 0 0, Value.slice none 0 0, Value.slice none 0 0, Value.slice none 0 0, Value.slice none 0 0, Value.slice none 0 0, Value.slice none 0 0, Value.slice none 0 0, Value.slice none 0 0])] (by kernel_rfl) (by kernel_rfl) ?_
          refine reg_new (op := (Go.Op.alloc 46)) (ty := 0) (dst := some 12) (fun bb => Value.pointer (some ⟨bb, 0, none⟩)) (Obj.cells ([Value.int .i64 0, Value.slice none 0 0, Value.slice none 0 0, Value.slice none 0 0, Value.slice none 0 0, Value.slice none 0 0, Value.slice none 0 0, Value.slice none 0 0, Value.slice none 0 0, Value.slice none 0 0, Value.slice none 0 0, Value.slice none 0 0]).toArray ty_towpathlaw01_Book (0, 0)) (by kernel_rfl) (by kernel_rfl) (fun b_2 w10 hb hw => ?_)
          replace h := h b_2 w10 hb hw
          clear hb hw
          refine reg_run [] 2 [(5, [], Value.slice v21.ptr v21.len v21.cap), (6, [], Value.slice x.ptr x.len x.cap), (12, [], Value.pointer (some ⟨b_2, 0, none⟩)), (63, [], Value.agg #[Value.int .i64 0, Value.slice none 0 0, Value.slice none 0 0, Value.slice none 0 0, Value.slice none 0 0, Value.slice none 0 0, Value.slice none 0 0, Value.slice none 0 0, Value.slice none 0 0, Value.slice none 0 0, Value.slice none 0 0, Value.slice none 0 0])] (by kernel_rfl) (by kernel_rfl) ?_
          obtain ⟨hc, h⟩ := h
          refine reg_store (t := 46) (a := (Go.Operand.tmp 12)) (x := (Go.Operand.tmp 63)) (b := b_2) (o := 0) (ty := 0) (dst := none) [Value.int .i64 0, Value.slice none 0 0, Value.slice none 0 0, Value.slice none 0 0, Value.slice none 0 0, Value.slice none 0 0, Value.slice none 0 0, Value.slice none 0 0, Value.slice none 0 0, Value.slice none 0 0, Value.slice none 0 0, Value.slice none 0 0] (by kernel_rfl) (by kernel_rfl) (by kernel_rfl) (k := 12) (by kernel_rfl) (by kernel_rfl) (by kernel_rfl) hc (fun w11 hw => ?_)
          replace h := h w11 hw
          clear hw
          refine reg_end [(5, Value.slice v21.ptr v21.len v21.cap), (6, Value.slice x.ptr x.len x.cap), (12, Value.pointer (some ⟨b_2, 0, none⟩))] (by kernel_rfl) (by kernel_rfl) ?_
          change WpE _ _ c_towpathlaw08_ChainPuts_35 _ _ _
          refine wpE_seq (x := c_towpathlaw08_ChainPuts_36) (y := c_towpathlaw08_ChainPuts_38) (by kernel_rfl) ?_
          refine wpE_region (id := 9) (ops := r_towpathlaw08_ChainPuts_36) (by kernel_rfl) ?_
          refine reg_run [.plain] 1 [(6, [], Value.slice x.ptr x.len x.cap), (12, [], Value.pointer (some ⟨b_2, 0, none⟩)), (64, [], Value.slice v21.ptr v21.len v21.cap)] (by kernel_rfl) (by kernel_rfl) ?_
          refine reg_enter (op := (Go.Op.call (Go.Call.mk (Go.Callee.value (Go.Operand.func 15)) #[(Go.Operand.tmp 12), (Go.Operand.tmp 64)] #[46, 22]))) (ty := 0) (dst := some 65) 15 #[Value.pointer (some ⟨b_2, 0, none⟩), Value.slice v21.ptr v21.len v21.cap] (by kernel_rfl) (fun ww => by kernel_rfl) (Calls.mono h ?_)
          rintro _ w12 ⟨rfl, h⟩
          refine ⟨_, rfl, ?_⟩
          refine reg_end [(6, Value.slice x.ptr x.len x.cap), (12, Value.pointer (some ⟨b_2, 0, none⟩))] (by kernel_rfl) (by kernel_rfl) ?_
          change WpE _ _ c_towpathlaw08_ChainPuts_38 _ _ _
          refine wpE_seq (x := c_towpathlaw08_ChainPuts_39) (y := c_towpathlaw08_ChainPuts_41) (by kernel_rfl) ?_
          refine wpE_region (id := 10) (ops := r_towpathlaw08_ChainPuts_39) (by kernel_rfl) ?_
          refine reg_run [.plain] 1 [(12, [], Value.pointer (some ⟨b_2, 0, none⟩)), (66, [], Value.slice x.ptr x.len x.cap)] (by kernel_rfl) (by kernel_rfl) ?_
          refine reg_enter (op := (Go.Op.call (Go.Call.mk (Go.Callee.value (Go.Operand.func 15)) #[(Go.Operand.tmp 12), (Go.Operand.tmp 66)] #[46, 22]))) (ty := 0) (dst := some 67) 15 #[Value.pointer (some ⟨b_2, 0, none⟩), Value.slice x.ptr x.len x.cap] (by kernel_rfl) (fun ww => by kernel_rfl) (Calls.mono h ?_)
          rintro _ w13 ⟨rfl, h⟩
          refine ⟨_, rfl, ?_⟩
          refine reg_end [(12, Value.pointer (some ⟨b_2, 0, none⟩))] (by kernel_rfl) (by kernel_rfl) ?_
          change WpE _ _ c_towpathlaw08_ChainPuts_41 _ _ _
          refine wpE_seq (x := c_towpathlaw08_ChainPuts_42) (y := c_towpathlaw08_ChainPuts_44) (by kernel_rfl) ?_
          refine wpE_region (id := 11) (ops := r_towpathlaw08_ChainPuts_42) (by kernel_rfl) ?_
          refine reg_run [] 0 [(12, [], Value.pointer (some ⟨b_2, 0, none⟩))] (by kernel_rfl) (by kernel_rfl) ?_
          refine reg_enter (op := (Go.Op.call (Go.Call.mk (Go.Callee.value (Go.Operand.func 16)) #[(Go.Operand.tmp 12)] #[46]))) (ty := 4) (dst := some 68) 16 #[Value.pointer (some ⟨b_2, 0, none⟩)] (by kernel_rfl) (fun ww => by kernel_rfl) (Calls.mono h ?_)
          rintro _ w14 ⟨v68, rfl, h⟩
          refine ⟨_, rfl, ?_⟩
          refine reg_run [.plain] 2 [(4, [], Value.bool v68)] (by kernel_rfl) (by kernel_rfl) ?_
          refine reg_end [(4, Value.bool v68)] (by kernel_rfl) (by kernel_rfl) ?_
          change WpE _ _ c_towpathlaw08_ChainPuts_44 _ _ _
          refine wpE_ret (by kernel_rfl) ?_
          repeat (first | refine seqQ_ret ?_ | refine blockQ_ret ?_ | refine loopQ_ret ?_ | refine cutQ_ret ?_)
          exact retS (rs := [(Go.ResultVar.tmp 4)]) (v := Value.bool v68) (by kernel_rfl) (⟨by kernel_rfl, trivial⟩) ⟨v68, rfl, h⟩
  · rintro e w' ⟨v, rfl, r0, rfl, h⟩; exact ⟨r0, rfl, h⟩
end Go.Proofs.YtcgfmkpddhhmgaaDoor
