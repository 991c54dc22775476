/- WRITTEN BY PROGRAM (dec.py): for each Go function the clean formula F, the call's contract C, and the proof S that F gives C. -/
import Derived.Test.YtchcljkflklddaaRows
import Derived.Test.YtchcljkflklddaaGF
namespace Go.Proofs.Ytchcljkflklddaa
open Go
set_option linter.unusedVariables false

/-! ### towpath/ring.New[int] (function 22) -/
noncomputable def c_ring_New_int_0 : Code := (Try.f22.body).getD Code.skip
noncomputable def c_ring_New_int_1 : Code := Code.l c_ring_New_int_0
noncomputable def r_ring_New_int_1 : Array Oper := Code.ops c_ring_New_int_1
noncomputable def c_ring_New_int_3 : Code := Code.r c_ring_New_int_0
noncomputable def c_ring_New_int_4 : Code := Code.l c_ring_New_int_3
noncomputable def c_ring_New_int_5 : Code := Code.l c_ring_New_int_4
noncomputable def r_ring_New_int_5 : Array Oper := Code.ops c_ring_New_int_5
noncomputable def c_ring_New_int_7 : Code := Code.r c_ring_New_int_4
noncomputable def c_ring_New_int_8 : Code := Code.l c_ring_New_int_7
noncomputable def c_ring_New_int_9 : Code := Code.l c_ring_New_int_8
noncomputable def r_ring_New_int_9 : Array Oper := Code.ops c_ring_New_int_9
noncomputable def c_ring_New_int_11 : Code := Code.r c_ring_New_int_8
noncomputable def c_ring_New_int_12 : Code := Code.r c_ring_New_int_7
noncomputable def c_ring_New_int_13 : Code := Code.r c_ring_New_int_3
noncomputable def c_ring_New_int_14 : Code := Code.l c_ring_New_int_13
noncomputable def r_ring_New_int_14 : Array Oper := Code.ops c_ring_New_int_14
noncomputable def c_ring_New_int_16 : Code := Code.r c_ring_New_int_13

set_option maxRecDepth 100000 in
set_option maxHeartbeats 4000000 in
theorem S_ring_New_int {capacity : Int} {w : World} {R : Option Addr → Int → World → Prop} (h : F_ring_New_int capacity R w) : C_ring_New_int capacity w R := by
  unfold F_ring_New_int at h
  unfold C_ring_New_int
  refine Calls.mono (calls_of_wpE (args := [Value.int .i64 capacity]) (R := fun v w' => ∃ (r0 : Option Addr) (r1 : Int), v = Value.tuple #[Value.pointer r0, Value.int .i64 r1] ∧ R r0 r1 w') Try.func22 (c := c_ring_New_int_0) (by kernel_rfl) 14 (by kernel_rfl) (by kernel_rfl) [(0, Value.int .i64 capacity)] (by kernel_rfl) ?_) ?_
  · refine wpE_seq (x := c_ring_New_int_1) (y := c_ring_New_int_3) (by kernel_rfl) ?_
    refine wpE_region (id := 0) (ops := r_ring_New_int_1) (by kernel_rfl) ?_
    refine reg_run [.plain, .plain] 2 [(0, [], Value.int .i64 capacity)] (by kernel_rfl) (by kernel_rfl) ?_
    refine reg_end [(0, Value.int .i64 capacity)] (by kernel_rfl) (by kernel_rfl) ?_
    change WpE _ _ c_ring_New_int_3 _ _ _
    refine wpE_seq (x := c_ring_New_int_4) (y := c_ring_New_int_13) (by kernel_rfl) ?_
    refine wpE_seq (x := c_ring_New_int_5) (y := c_ring_New_int_7) (by kernel_rfl) ?_
    refine wpE_region (id := 1) (ops := r_ring_New_int_5) (by kernel_rfl) ?_
    refine reg_run [.plain, .plain, .plain, .plain, .plain, .pick] 6 [(0, [], Value.int .i64 capacity), (9, [], Value.bool ((decide (capacity < 1)) || (decide (capacity > 65536))))] (by kernel_rfl) (by kernel_rfl) ?_
    refine reg_end [(0, Value.int .i64 capacity), (9, Value.bool ((decide (capacity < 1)) || (decide (capacity > 65536))))] (by kernel_rfl) (by kernel_rfl) ?_
    change WpE _ _ c_ring_New_int_7 _ _ _
    refine wpE_cond (o := (Operand.tmp 9)) (b := ((decide (capacity < 1)) || (decide (capacity > 65536)))) (x := c_ring_New_int_8) (y := c_ring_New_int_12) (by kernel_rfl) (by kernel_rfl) (fun hb => ?_) (fun hb => ?_)
    · replace h := h.1 hb
      refine wpE_seq (x := c_ring_New_int_9) (y := c_ring_New_int_11) (by kernel_rfl) ?_
      refine wpE_region (id := 2) (ops := r_ring_New_int_9) (by kernel_rfl) ?_
      refine reg_run [.plain, .plain] 2 [(2, [], Value.pointer none), (3, [], Value.int .i64 1)] (by kernel_rfl) (by kernel_rfl) ?_
      refine reg_end [(2, Value.pointer none), (3, Value.int .i64 1)] (by kernel_rfl) (by kernel_rfl) ?_
      change WpE _ _ c_ring_New_int_11 _ _ _
      refine wpE_ret (by kernel_rfl) ?_
      repeat (first | refine seqQ_ret ?_ | refine blockQ_ret ?_ | refine loopQ_ret ?_ | refine cutQ_ret ?_)
      exact retT (rs := [(Go.ResultVar.tmp 2), (Go.ResultVar.tmp 3)]) (vs := [Value.pointer none, Value.int .i64 1]) (by kernel_rfl) (⟨by kernel_rfl, ⟨by kernel_rfl, trivial⟩⟩) (by kernel_rfl) ⟨none, 1, rfl, h⟩
    · replace h := h.2 hb
      refine wpE_skip (by kernel_rfl) ?_
      change WpE _ _ c_ring_New_int_13 _ _ _
      refine wpE_seq (x := c_ring_New_int_14) (y := c_ring_New_int_16) (by kernel_rfl) ?_
      refine wpE_region (id := 3) (ops := r_ring_New_int_14) (by kernel_rfl) ?_
      refine reg_run [.plain] 1 [(10, [], Value.int .i64 capacity)] (by kernel_rfl) (by kernel_rfl) ?_
      obtain ⟨h0, h1, h2, h⟩ := h
      refine reg_makeSlice (t := 49) (e := 3) (lo := (Go.Operand.tmp 10)) (co := (Go.Operand.tmp 10)) (l := capacity) (c := capacity) (sz := 1) (by_ := 8) (zs := [Value.int .i64 0]) (ty := 49) (dst := some 11) (by kernel_rfl) (by kernel_rfl) (by kernel_rfl) (by kernel_rfl) (by kernel_rfl) (by kernel_rfl) (by kernel_rfl) (by kernel_rfl) (by kernel_rfl) h0 h1 h2 (fun b_ w1 hb hw => ?_)
      replace h := h b_ w1 hb hw
      clear hb hw
      refine reg_run [.plain] 3 [(12, [], Value.agg #[Value.slice (some ⟨b_, 0, none⟩) capacity.toNat capacity.toNat, Value.int .i64 0, Value.int .i64 0, Value.bool false])] (by kernel_rfl) (by kernel_rfl) ?_
      refine reg_new (op := (Go.Op.box 64 (Go.Operand.tmp 12))) (ty := 36) (dst := some 13) (fun bb => Value.pointer (some ⟨bb, 0, none⟩)) (Obj.cells ([Value.slice (some ⟨b_, 0, none⟩) capacity.toNat capacity.toNat, Value.int .i64 0, Value.int .i64 0, Value.bool false]).toArray ty_ring_Ring_int (0, 0)) (by kernel_rfl) (by kernel_rfl) (fun b_1 w2 hb hw => ?_)
      replace h := h b_1 w2 hb hw
      clear hb hw
      refine reg_run [.plain, .plain] 6 [(2, [], Value.pointer (some ⟨b_1, 0, none⟩)), (3, [], Value.int .i64 0)] (by kernel_rfl) (by kernel_rfl) ?_
      refine reg_end [(2, Value.pointer (some ⟨b_1, 0, none⟩)), (3, Value.int .i64 0)] (by kernel_rfl) (by kernel_rfl) ?_
      change WpE _ _ c_ring_New_int_16 _ _ _
      refine wpE_ret (by kernel_rfl) ?_
      repeat (first | refine seqQ_ret ?_ | refine blockQ_ret ?_ | refine loopQ_ret ?_ | refine cutQ_ret ?_)
      exact retT (rs := [(Go.ResultVar.tmp 2), (Go.ResultVar.tmp 3)]) (vs := [Value.pointer (some ⟨b_1, 0, none⟩), Value.int .i64 0]) (by kernel_rfl) (⟨by kernel_rfl, ⟨by kernel_rfl, trivial⟩⟩) (by kernel_rfl) ⟨(some ⟨b_1, 0, none⟩), 0, rfl, h⟩
  · rintro e w' ⟨v, rfl, r0, r1, rfl, h⟩; exact ⟨r0, r1, rfl, h⟩

/-! ### (*towpath/ring.Ring[int]).Put (function 23) -/
noncomputable def c_ring_Ring_int_Put_0 : Code := (Try.f23.body).getD Code.skip
noncomputable def c_ring_Ring_int_Put_1 : Code := Code.l c_ring_Ring_int_Put_0
noncomputable def r_ring_Ring_int_Put_1 : Array Oper := Code.ops c_ring_Ring_int_Put_1
noncomputable def c_ring_Ring_int_Put_3 : Code := Code.r c_ring_Ring_int_Put_0
noncomputable def c_ring_Ring_int_Put_4 : Code := Code.l c_ring_Ring_int_Put_3
noncomputable def c_ring_Ring_int_Put_5 : Code := Code.l c_ring_Ring_int_Put_4
noncomputable def r_ring_Ring_int_Put_5 : Array Oper := Code.ops c_ring_Ring_int_Put_5
noncomputable def c_ring_Ring_int_Put_7 : Code := Code.r c_ring_Ring_int_Put_4
noncomputable def c_ring_Ring_int_Put_8 : Code := Code.l c_ring_Ring_int_Put_7
noncomputable def c_ring_Ring_int_Put_9 : Code := Code.l c_ring_Ring_int_Put_8
noncomputable def r_ring_Ring_int_Put_9 : Array Oper := Code.ops c_ring_Ring_int_Put_9
noncomputable def c_ring_Ring_int_Put_11 : Code := Code.r c_ring_Ring_int_Put_8
noncomputable def c_ring_Ring_int_Put_12 : Code := Code.r c_ring_Ring_int_Put_7
noncomputable def c_ring_Ring_int_Put_13 : Code := Code.r c_ring_Ring_int_Put_3
noncomputable def c_ring_Ring_int_Put_14 : Code := Code.l c_ring_Ring_int_Put_13
noncomputable def r_ring_Ring_int_Put_14 : Array Oper := Code.ops c_ring_Ring_int_Put_14
noncomputable def c_ring_Ring_int_Put_16 : Code := Code.r c_ring_Ring_int_Put_13
noncomputable def c_ring_Ring_int_Put_17 : Code := Code.l c_ring_Ring_int_Put_16
noncomputable def r_ring_Ring_int_Put_17 : Array Oper := Code.ops c_ring_Ring_int_Put_17
noncomputable def c_ring_Ring_int_Put_19 : Code := Code.r c_ring_Ring_int_Put_16
noncomputable def c_ring_Ring_int_Put_20 : Code := Code.l c_ring_Ring_int_Put_19
noncomputable def r_ring_Ring_int_Put_20 : Array Oper := Code.ops c_ring_Ring_int_Put_20
noncomputable def c_ring_Ring_int_Put_22 : Code := Code.r c_ring_Ring_int_Put_19

set_option maxRecDepth 100000 in
set_option maxHeartbeats 4000000 in
theorem S_ring_Ring_int_Put {r : Option Addr} {x : Int} {w : World} {R : Bool → World → Prop} (h : F_ring_Ring_int_Put r x R w) : C_ring_Ring_int_Put r x w R := by
  unfold F_ring_Ring_int_Put at h
  unfold C_ring_Ring_int_Put
  refine Calls.mono (calls_of_wpE (args := [Value.pointer r, Value.int .i64 x]) (R := fun v w' => ∃ (r0 : Bool), v = Value.bool r0 ∧ R r0 w') Try.func23 (c := c_ring_Ring_int_Put_0) (by kernel_rfl) 36 (by kernel_rfl) (by kernel_rfl) [(0, Value.pointer r), (1, Value.int .i64 x)] (by kernel_rfl) ?_) ?_
  · refine wpE_seq (x := c_ring_Ring_int_Put_1) (y := c_ring_Ring_int_Put_3) (by kernel_rfl) ?_
    refine wpE_region (id := 0) (ops := r_ring_Ring_int_Put_1) (by kernel_rfl) ?_
    refine reg_run [.plain] 1 [(0, [], Value.pointer r), (1, [], Value.int .i64 x)] (by kernel_rfl) (by kernel_rfl) ?_
    refine reg_end [(0, Value.pointer r), (1, Value.int .i64 x)] (by kernel_rfl) (by kernel_rfl) ?_
    change WpE _ _ c_ring_Ring_int_Put_3 _ _ _
    refine wpE_seq (x := c_ring_Ring_int_Put_4) (y := c_ring_Ring_int_Put_13) (by kernel_rfl) ?_
    refine wpE_seq (x := c_ring_Ring_int_Put_5) (y := c_ring_Ring_int_Put_7) (by kernel_rfl) ?_
    refine wpE_region (id := 1) (ops := r_ring_Ring_int_Put_5) (by kernel_rfl) ?_
    refine reg_run [.plain] 1 [(0, [], Value.pointer r), (1, [], Value.int .i64 x), (5, [], Value.pointer r)] (by kernel_rfl) (by kernel_rfl) ?_
    refine reg_enter (op := (Go.Op.call (Go.Call.mk (Go.Callee.value (Go.Operand.func 26)) #[(Go.Operand.tmp 5)] #[36]))) (ty := 3) (dst := some 6) 26 #[Value.pointer r] (by kernel_rfl) (fun ww => by kernel_rfl) (Calls.mono h ?_)
    rintro _ w1 ⟨v6, rfl, h⟩
    refine ⟨_, rfl, ?_⟩
    refine reg_run [.plain] 3 [(0, [], Value.pointer r), (1, [], Value.int .i64 x), (7, [], Value.bool (v6 == 0))] (by kernel_rfl) (by kernel_rfl) ?_
    refine reg_end [(0, Value.pointer r), (1, Value.int .i64 x), (7, Value.bool (v6 == 0))] (by kernel_rfl) (by kernel_rfl) ?_
    change WpE _ _ c_ring_Ring_int_Put_7 _ _ _
    refine wpE_cond (o := (Operand.tmp 7)) (b := (v6 == 0)) (x := c_ring_Ring_int_Put_8) (y := c_ring_Ring_int_Put_12) (by kernel_rfl) (by kernel_rfl) (fun hb => ?_) (fun hb => ?_)
    · replace h := h.1 hb
      refine wpE_seq (x := c_ring_Ring_int_Put_9) (y := c_ring_Ring_int_Put_11) (by kernel_rfl) ?_
      refine wpE_region (id := 2) (ops := r_ring_Ring_int_Put_9) (by kernel_rfl) ?_
      refine reg_run [.plain] 1 [(4, [], Value.bool false)] (by kernel_rfl) (by kernel_rfl) ?_
      refine reg_end [(4, Value.bool false)] (by kernel_rfl) (by kernel_rfl) ?_
      change WpE _ _ c_ring_Ring_int_Put_11 _ _ _
      refine wpE_ret (by kernel_rfl) ?_
      repeat (first | refine seqQ_ret ?_ | refine blockQ_ret ?_ | refine loopQ_ret ?_ | refine cutQ_ret ?_)
      exact retS (rs := [(Go.ResultVar.tmp 4)]) (v := Value.bool false) (by kernel_rfl) (⟨by kernel_rfl, trivial⟩) ⟨false, rfl, h⟩
    · replace h := h.2 hb
      refine wpE_skip (by kernel_rfl) ?_
      change WpE _ _ c_ring_Ring_int_Put_13 _ _ _
      refine wpE_seq (x := c_ring_Ring_int_Put_14) (y := c_ring_Ring_int_Put_16) (by kernel_rfl) ?_
      refine wpE_tailregion (id := 3) (ops := r_ring_Ring_int_Put_14) (by kernel_rfl) 21 (by kernel_rfl) (by kernel_rfl) (fun w2 hw => ?_)
      replace h := h w2 hw
      clear hw
      refine qreg_run [.plain] 1 [(0, [], Value.pointer r), (1, [], Value.int .i64 x), (8, [], Value.pointer r)] (by kernel_rfl) (by kernel_rfl) ?_
      obtain ⟨hp_5, h⟩ := h
      refine qreg_conv [(0, [], Value.pointer r), (1, [], Value.int .i64 x), (8, [], Value.pointer (some ⟨(pblk r), (poff r), none⟩))] (congrArg (fun pp => ([(0, [], Value.pointer r), (1, [], Value.int .i64 x), (8, [], Value.pointer pp)] : GEnv)) hp_5) ?_
      refine qreg_run [.plain] 2 [(0, [], Value.pointer r), (1, [], Value.int .i64 x), (8, [], Value.pointer (some ⟨(pblk r), (poff r), none⟩)), (9, [], Value.pointer (some ⟨(pblk r), (poff r), none⟩))] (by kernel_rfl) (by kernel_rfl) ?_
      refine qreg_run [.plain] 3 [(0, [], Value.pointer r), (1, [], Value.int .i64 x), (10, [], Value.pointer (some ⟨(pblk r), (poff r), none⟩))] (by kernel_rfl) (by kernel_rfl) ?_
      obtain ⟨v11, hc, h⟩ := h
      refine qreg_load1 (t := 49) (a := (Go.Operand.tmp 10)) (b := (pblk r)) (o := (poff r)) (ty := 49) (dst := some 11) (by kernel_rfl) (by kernel_rfl) (by kernel_rfl) hc ?_
      refine qreg_run [.plain] 5 [(0, [], Value.pointer r), (1, [], Value.int .i64 x), (11, [], Value.slice v11.ptr v11.len v11.cap), (12, [], Value.pointer r)] (by kernel_rfl) (by kernel_rfl) ?_
      obtain ⟨hp_6, h⟩ := h
      refine qreg_conv [(0, [], Value.pointer r), (1, [], Value.int .i64 x), (11, [], Value.slice v11.ptr v11.len v11.cap), (12, [], Value.pointer (some ⟨(pblk r), (poff r), none⟩))] (congrArg (fun pp => ([(0, [], Value.pointer r), (1, [], Value.int .i64 x), (11, [], Value.slice v11.ptr v11.len v11.cap), (12, [], Value.pointer pp)] : GEnv)) hp_6) ?_
      refine qreg_run [.plain] 6 [(0, [], Value.pointer r), (1, [], Value.int .i64 x), (11, [], Value.slice v11.ptr v11.len v11.cap), (12, [], Value.pointer (some ⟨(pblk r), (poff r), none⟩)), (13, [], Value.pointer (some ⟨(pblk r), (poff r), none⟩))] (by kernel_rfl) (by kernel_rfl) ?_
      refine qreg_run [.plain] 7 [(0, [], Value.pointer r), (1, [], Value.int .i64 x), (11, [], Value.slice v11.ptr v11.len v11.cap), (14, [], Value.pointer (some ⟨(pblk r), (poff r) + 1, none⟩))] (by kernel_rfl) (by kernel_rfl) ?_
      obtain ⟨v15, hc, h⟩ := h
      refine qreg_load1 (t := 3) (a := (Go.Operand.tmp 14)) (b := (pblk r)) (o := ((poff r) + 1)) (ty := 3) (dst := some 15) (by kernel_rfl) (by kernel_rfl) (by kernel_rfl) hc ?_
      refine qreg_run [.plain] 9 [(0, [], Value.pointer r), (1, [], Value.int .i64 x), (11, [], Value.slice v11.ptr v11.len v11.cap), (15, [], Value.int .i64 v15), (16, [], Value.pointer r)] (by kernel_rfl) (by kernel_rfl) ?_
      obtain ⟨hp_7, h⟩ := h
      refine qreg_conv [(0, [], Value.pointer r), (1, [], Value.int .i64 x), (11, [], Value.slice v11.ptr v11.len v11.cap), (15, [], Value.int .i64 v15), (16, [], Value.pointer (some ⟨(pblk r), (poff r), none⟩))] (congrArg (fun pp => ([(0, [], Value.pointer r), (1, [], Value.int .i64 x), (11, [], Value.slice v11.ptr v11.len v11.cap), (15, [], Value.int .i64 v15), (16, [], Value.pointer pp)] : GEnv)) hp_7) ?_
      refine qreg_run [.plain] 10 [(0, [], Value.pointer r), (1, [], Value.int .i64 x), (11, [], Value.slice v11.ptr v11.len v11.cap), (15, [], Value.int .i64 v15), (16, [], Value.pointer (some ⟨(pblk r), (poff r), none⟩)), (17, [], Value.pointer (some ⟨(pblk r), (poff r), none⟩))] (by kernel_rfl) (by kernel_rfl) ?_
      refine qreg_run [.plain] 11 [(0, [], Value.pointer r), (1, [], Value.int .i64 x), (11, [], Value.slice v11.ptr v11.len v11.cap), (15, [], Value.int .i64 v15), (18, [], Value.pointer (some ⟨(pblk r), (poff r) + 2, none⟩))] (by kernel_rfl) (by kernel_rfl) ?_
      obtain ⟨v19, hc, h⟩ := h
      refine qreg_load1 (t := 3) (a := (Go.Operand.tmp 18)) (b := (pblk r)) (o := ((poff r) + 2)) (ty := 3) (dst := some 19) (by kernel_rfl) (by kernel_rfl) (by kernel_rfl) hc ?_
      refine qreg_run [.plain, .plain] 14 [(0, [], Value.pointer r), (1, [], Value.int .i64 x), (11, [], Value.slice v11.ptr v11.len v11.cap), (20, [], Value.int .i64 (IntKind.i64.wrap (v15 + v19))), (21, [], Value.pointer r)] (by kernel_rfl) (by kernel_rfl) ?_
      obtain ⟨hp_8, h⟩ := h
      refine qreg_conv [(0, [], Value.pointer r), (1, [], Value.int .i64 x), (11, [], Value.slice v11.ptr v11.len v11.cap), (20, [], Value.int .i64 (IntKind.i64.wrap (v15 + v19))), (21, [], Value.pointer (some ⟨(pblk r), (poff r), none⟩))] (congrArg (fun pp => ([(0, [], Value.pointer r), (1, [], Value.int .i64 x), (11, [], Value.slice v11.ptr v11.len v11.cap), (20, [], Value.int .i64 (IntKind.i64.wrap (v15 + v19))), (21, [], Value.pointer pp)] : GEnv)) hp_8) ?_
      refine qreg_run [.plain] 15 [(0, [], Value.pointer r), (1, [], Value.int .i64 x), (11, [], Value.slice v11.ptr v11.len v11.cap), (20, [], Value.int .i64 (IntKind.i64.wrap (v15 + v19))), (21, [], Value.pointer (some ⟨(pblk r), (poff r), none⟩)), (22, [], Value.pointer (some ⟨(pblk r), (poff r), none⟩))] (by kernel_rfl) (by kernel_rfl) ?_
      refine qreg_run [.plain] 16 [(0, [], Value.pointer r), (1, [], Value.int .i64 x), (11, [], Value.slice v11.ptr v11.len v11.cap), (20, [], Value.int .i64 (IntKind.i64.wrap (v15 + v19))), (23, [], Value.pointer (some ⟨(pblk r), (poff r), none⟩))] (by kernel_rfl) (by kernel_rfl) ?_
      obtain ⟨v24, hc, h⟩ := h
      refine qreg_load1 (t := 49) (a := (Go.Operand.tmp 23)) (b := (pblk r)) (o := (poff r)) (ty := 49) (dst := some 24) (by kernel_rfl) (by kernel_rfl) (by kernel_rfl) hc ?_
      refine qreg_run [.plain] 18 [(0, [], Value.pointer r), (1, [], Value.int .i64 x), (11, [], Value.slice v11.ptr v11.len v11.cap), (20, [], Value.int .i64 (IntKind.i64.wrap (v15 + v19))), (25, [], Value.int .i64 ((v24.len : Nat) : Int))] (by kernel_rfl) (by kernel_rfl) ?_
      obtain ⟨h0, h⟩ := h
      refine qreg_val (op := (Go.Op.binOp Go.BinOp.rem 3 (Go.Operand.tmp 20) (Go.Operand.tmp 25) 3)) (ty := 3) (dst := some 26) (Value.int .i64 (Int.tmod (IntKind.i64.wrap (v15 + v19)) ((v24.len : Nat) : Int))) (by kernel_rfl) (fun ww => run_rem (by kernel_rfl) (by kernel_rfl) h0 ww) ?_
      refine qreg_run [.plain] 20 [(0, [], Value.pointer r), (11, [], Value.slice v11.ptr v11.len v11.cap), (26, [], Value.int .i64 (Int.tmod (IntKind.i64.wrap (v15 + v19)) ((v24.len : Nat) : Int))), (27, [], Value.int .i64 x)] (by kernel_rfl) (by kernel_rfl) ?_
      obtain ⟨hp_9, h⟩ := h
      refine qreg_conv [(0, [], Value.pointer r), (11, [], Value.slice (some ⟨(pblk v11.ptr), (poff v11.ptr), none⟩) v11.len v11.cap), (26, [], Value.int .i64 (Int.tmod (IntKind.i64.wrap (v15 + v19)) ((v24.len : Nat) : Int))), (27, [], Value.int .i64 x)] (congrArg (fun pp => ([(0, [], Value.pointer r), (11, [], Value.slice pp v11.len v11.cap), (26, [], Value.int .i64 (Int.tmod (IntKind.i64.wrap (v15 + v19)) ((v24.len : Nat) : Int))), (27, [], Value.int .i64 x)] : GEnv)) hp_9) ?_
      obtain ⟨h0, h1, h⟩ := h
      refine qreg_indexS1 (t := 49) (e := 3) (x := (Go.Operand.tmp 11)) (ix := (Go.Operand.tmp 26)) (b := (pblk v11.ptr)) (o := (poff v11.ptr)) (l := v11.len) (c := v11.cap) (k := .i64) (j := (Int.tmod (IntKind.i64.wrap (v15 + v19)) ((v24.len : Nat) : Int))) (ty := 0) (dst := some 28) (by kernel_rfl) (by kernel_rfl) (by kernel_rfl) (by kernel_rfl) (by kernel_rfl) h0 h1 ?_
      refine qreg_run [] 21 [(0, [], Value.pointer r), (27, [], Value.int .i64 x), (28, [], Value.pointer (some ⟨(pblk v11.ptr), (poff v11.ptr) + (Int.tmod (IntKind.i64.wrap (v15 + v19)) ((v24.len : Nat) : Int)).toNat, none⟩))] (by kernel_rfl) (by kernel_rfl) ?_
      refine qreg_tail (by kernel_rfl) ?_
      refine reg_run [] 21 [(0, [], Value.pointer r), (27, [], Value.int .i64 x), (28, [], Value.pointer (some ⟨(pblk v11.ptr), (poff v11.ptr) + (Int.tmod (IntKind.i64.wrap (v15 + v19)) ((v24.len : Nat) : Int)).toNat, none⟩))] (by kernel_rfl) (by kernel_rfl) ?_
      obtain ⟨hc, h⟩ := h
      refine reg_store (t := 3) (a := (Go.Operand.tmp 28)) (x := (Go.Operand.tmp 27)) (b := (pblk v11.ptr)) (o := ((poff v11.ptr) + (Int.tmod (IntKind.i64.wrap (v15 + v19)) ((v24.len : Nat) : Int)).toNat)) (ty := 0) (dst := none) [Value.int .i64 x] (by kernel_rfl) (by kernel_rfl) (by kernel_rfl) (k := 1) (by kernel_rfl) (by kernel_rfl) (by kernel_rfl) hc (fun w3 hw => ?_)
      replace h := h w3 hw
      clear hw
      refine reg_end [(0, Value.pointer r)] (by kernel_rfl) (by kernel_rfl) ?_
      change WpE _ _ c_ring_Ring_int_Put_16 _ _ _
      refine wpE_seq (x := c_ring_Ring_int_Put_17) (y := c_ring_Ring_int_Put_19) (by kernel_rfl) ?_
      refine wpE_region (id := 4) (ops := r_ring_Ring_int_Put_17) (by kernel_rfl) ?_
      refine reg_run [.plain] 1 [(29, [], Value.pointer r)] (by kernel_rfl) (by kernel_rfl) ?_
      obtain ⟨hp_11, h⟩ := h
      refine reg_conv [(29, [], Value.pointer (some ⟨(pblk r), (poff r), none⟩))] (congrArg (fun pp => ([(29, [], Value.pointer pp)] : GEnv)) hp_11) ?_
      refine reg_run [.plain] 2 [(29, [], Value.pointer (some ⟨(pblk r), (poff r), none⟩)), (30, [], Value.pointer (some ⟨(pblk r), (poff r), none⟩))] (by kernel_rfl) (by kernel_rfl) ?_
      refine reg_run [.plain] 3 [(29, [], Value.pointer (some ⟨(pblk r), (poff r), none⟩)), (31, [], Value.pointer (some ⟨(pblk r), (poff r) + 2, none⟩))] (by kernel_rfl) (by kernel_rfl) ?_
      obtain ⟨v32, hc, h⟩ := h
      refine reg_load1 (t := 3) (a := (Go.Operand.tmp 31)) (b := (pblk r)) (o := ((poff r) + 2)) (ty := 3) (dst := some 32) (by kernel_rfl) (by kernel_rfl) (by kernel_rfl) hc ?_
      refine reg_run [.plain, .plain, .plain] 7 [(33, [], Value.int .i64 (IntKind.i64.wrap (v32 + 1))), (35, [], Value.pointer (some ⟨(pblk r), (poff r) + 2, none⟩))] (by kernel_rfl) (by kernel_rfl) ?_
      obtain ⟨hc, h⟩ := h
      refine reg_store (t := 3) (a := (Go.Operand.tmp 35)) (x := (Go.Operand.tmp 33)) (b := (pblk r)) (o := ((poff r) + 2)) (ty := 0) (dst := none) [Value.int .i64 (IntKind.i64.wrap (v32 + 1))] (by kernel_rfl) (by kernel_rfl) (by kernel_rfl) (k := 1) (by kernel_rfl) (by kernel_rfl) (by kernel_rfl) hc (fun w4 hw => ?_)
      replace h := h w4 hw
      clear hw
      refine reg_end [] (by kernel_rfl) (by kernel_rfl) ?_
      change WpE _ _ c_ring_Ring_int_Put_19 _ _ _
      refine wpE_seq (x := c_ring_Ring_int_Put_20) (y := c_ring_Ring_int_Put_22) (by kernel_rfl) ?_
      refine wpE_region (id := 5) (ops := r_ring_Ring_int_Put_20) (by kernel_rfl) ?_
      refine reg_run [.plain] 1 [(4, [], Value.bool true)] (by kernel_rfl) (by kernel_rfl) ?_
      refine reg_end [(4, Value.bool true)] (by kernel_rfl) (by kernel_rfl) ?_
      change WpE _ _ c_ring_Ring_int_Put_22 _ _ _
      refine wpE_ret (by kernel_rfl) ?_
      repeat (first | refine seqQ_ret ?_ | refine blockQ_ret ?_ | refine loopQ_ret ?_ | refine cutQ_ret ?_)
      exact retS (rs := [(Go.ResultVar.tmp 4)]) (v := Value.bool true) (by kernel_rfl) (⟨by kernel_rfl, trivial⟩) ⟨true, rfl, h⟩
  · rintro e w' ⟨v, rfl, r0, rfl, h⟩; exact ⟨r0, rfl, h⟩

/-! ### (*towpath/ring.Ring[int]).Take (function 24) -/
noncomputable def c_ring_Ring_int_Take_0 : Code := (Try.f24.body).getD Code.skip
noncomputable def c_ring_Ring_int_Take_1 : Code := Code.l c_ring_Ring_int_Take_0
noncomputable def r_ring_Ring_int_Take_1 : Array Oper := Code.ops c_ring_Ring_int_Take_1
noncomputable def c_ring_Ring_int_Take_3 : Code := Code.r c_ring_Ring_int_Take_0
noncomputable def c_ring_Ring_int_Take_4 : Code := Code.l c_ring_Ring_int_Take_3
noncomputable def c_ring_Ring_int_Take_5 : Code := Code.l c_ring_Ring_int_Take_4
noncomputable def r_ring_Ring_int_Take_5 : Array Oper := Code.ops c_ring_Ring_int_Take_5
noncomputable def c_ring_Ring_int_Take_7 : Code := Code.r c_ring_Ring_int_Take_4
noncomputable def c_ring_Ring_int_Take_8 : Code := Code.l c_ring_Ring_int_Take_7
noncomputable def r_ring_Ring_int_Take_8 : Array Oper := Code.ops c_ring_Ring_int_Take_8
noncomputable def c_ring_Ring_int_Take_10 : Code := Code.r c_ring_Ring_int_Take_7
noncomputable def c_ring_Ring_int_Take_11 : Code := Code.l c_ring_Ring_int_Take_10
noncomputable def c_ring_Ring_int_Take_12 : Code := Code.l c_ring_Ring_int_Take_11
noncomputable def r_ring_Ring_int_Take_12 : Array Oper := Code.ops c_ring_Ring_int_Take_12
noncomputable def c_ring_Ring_int_Take_14 : Code := Code.r c_ring_Ring_int_Take_11
noncomputable def c_ring_Ring_int_Take_15 : Code := Code.l c_ring_Ring_int_Take_14
noncomputable def r_ring_Ring_int_Take_15 : Array Oper := Code.ops c_ring_Ring_int_Take_15
noncomputable def c_ring_Ring_int_Take_17 : Code := Code.r c_ring_Ring_int_Take_14
noncomputable def c_ring_Ring_int_Take_18 : Code := Code.l c_ring_Ring_int_Take_17
noncomputable def r_ring_Ring_int_Take_18 : Array Oper := Code.ops c_ring_Ring_int_Take_18
noncomputable def c_ring_Ring_int_Take_20 : Code := Code.r c_ring_Ring_int_Take_17
noncomputable def r_ring_Ring_int_Take_20 : Array Oper := Code.ops c_ring_Ring_int_Take_20
noncomputable def c_ring_Ring_int_Take_22 : Code := Code.r c_ring_Ring_int_Take_10
noncomputable def c_ring_Ring_int_Take_23 : Code := Code.r c_ring_Ring_int_Take_3
noncomputable def c_ring_Ring_int_Take_24 : Code := Code.l c_ring_Ring_int_Take_23
noncomputable def r_ring_Ring_int_Take_24 : Array Oper := Code.ops c_ring_Ring_int_Take_24
noncomputable def c_ring_Ring_int_Take_26 : Code := Code.r c_ring_Ring_int_Take_23

set_option maxRecDepth 100000 in
set_option maxHeartbeats 4000000 in
theorem S_ring_Ring_int_Take {r : Option Addr} {w : World} {R : Int → Bool → World → Prop} (h : F_ring_Ring_int_Take r R w) : C_ring_Ring_int_Take r w R := by
  unfold F_ring_Ring_int_Take at h
  unfold C_ring_Ring_int_Take
  refine Calls.mono (calls_of_wpE (args := [Value.pointer r]) (R := fun v w' => ∃ (r0 : Int) (r1 : Bool), v = Value.tuple #[Value.int .i64 r0, Value.bool r1] ∧ R r0 r1 w') Try.func24 (c := c_ring_Ring_int_Take_0) (by kernel_rfl) 44 (by kernel_rfl) (by kernel_rfl) [(0, Value.pointer r)] (by kernel_rfl) ?_) ?_
  · refine wpE_seq (x := c_ring_Ring_int_Take_1) (y := c_ring_Ring_int_Take_3) (by kernel_rfl) ?_
    refine wpE_region (id := 0) (ops := r_ring_Ring_int_Take_1) (by kernel_rfl) ?_
    refine reg_run [.plain, .plain] 2 [(0, [], Value.pointer r)] (by kernel_rfl) (by kernel_rfl) ?_
    refine reg_end [(0, Value.pointer r)] (by kernel_rfl) (by kernel_rfl) ?_
    change WpE _ _ c_ring_Ring_int_Take_3 _ _ _
    refine wpE_seq_cut (x := c_ring_Ring_int_Take_4) (y := c_ring_Ring_int_Take_23) (by kernel_rfl) (fun l w => ∃ (x : Int) (ok : Bool), l = [(2, Value.int .i64 x), (3, Value.bool ok)] ∧ F_ring_Ring_int_Take_k0 R x ok w) ?_ ?_
    · refine wpE_seq (x := c_ring_Ring_int_Take_5) (y := c_ring_Ring_int_Take_7) (by kernel_rfl) ?_
      refine wpE_region (id := 1) (ops := r_ring_Ring_int_Take_5) (by kernel_rfl) ?_
      refine reg_run [.plain] 1 [(0, [], Value.pointer r), (6, [], Value.pointer r)] (by kernel_rfl) (by kernel_rfl) ?_
      refine reg_enter (op := (Go.Op.call (Go.Call.mk (Go.Callee.value (Go.Operand.func 47)) #[(Go.Operand.tmp 6)] #[36]))) (ty := 40) (dst := some 7) 47 #[Value.pointer r] (by kernel_rfl) (fun ww => by kernel_rfl) (Calls.mono h ?_)
      rintro _ w2 ⟨x1, ok1, rfl, h⟩
      refine ⟨_, rfl, ?_⟩
      refine reg_run [.plain, .plain, .plain, .plain, .plain] 7 [(0, [], Value.pointer r), (2, [], Value.int .i64 x1), (3, [], Value.bool ok1)] (by kernel_rfl) (by kernel_rfl) ?_
      refine reg_end [(0, Value.pointer r), (2, Value.int .i64 x1), (3, Value.bool ok1)] (by kernel_rfl) (by kernel_rfl) ?_
      change WpE _ _ c_ring_Ring_int_Take_7 _ _ _
      refine wpE_seq (x := c_ring_Ring_int_Take_8) (y := c_ring_Ring_int_Take_10) (by kernel_rfl) ?_
      refine wpE_region (id := 2) (ops := r_ring_Ring_int_Take_8) (by kernel_rfl) ?_
      refine reg_run [.plain] 1 [(0, [], Value.pointer r), (2, [], Value.int .i64 x1), (3, [], Value.bool ok1), (10, [], Value.bool ok1)] (by kernel_rfl) (by kernel_rfl) ?_
      refine reg_end [(0, Value.pointer r), (2, Value.int .i64 x1), (3, Value.bool ok1), (10, Value.bool ok1)] (by kernel_rfl) (by kernel_rfl) ?_
      change WpE _ _ c_ring_Ring_int_Take_10 _ _ _
      refine wpE_cond (o := (Operand.tmp 10)) (b := ok1) (x := c_ring_Ring_int_Take_11) (y := c_ring_Ring_int_Take_22) (by kernel_rfl) (by kernel_rfl) (fun hb => ?_) (fun hb => ?_)
      · replace h := h.1 hb
        refine wpE_seq (x := c_ring_Ring_int_Take_12) (y := c_ring_Ring_int_Take_14) (by kernel_rfl) ?_
        refine wpE_region (id := 3) (ops := r_ring_Ring_int_Take_12) (by kernel_rfl) ?_
        refine reg_run [.plain] 1 [(0, [], Value.pointer r), (2, [], Value.int .i64 x1), (3, [], Value.bool ok1), (4, [], Value.int .i64 0)] (by kernel_rfl) (by kernel_rfl) ?_
        refine reg_end [(0, Value.pointer r), (2, Value.int .i64 x1), (3, Value.bool ok1), (4, Value.int .i64 0)] (by kernel_rfl) (by kernel_rfl) ?_
        change WpE _ _ c_ring_Ring_int_Take_14 _ _ _
        refine wpE_seq (x := c_ring_Ring_int_Take_15) (y := c_ring_Ring_int_Take_17) (by kernel_rfl) ?_
        refine wpE_tailregion (id := 4) (ops := r_ring_Ring_int_Take_15) (by kernel_rfl) 10 (by kernel_rfl) (by kernel_rfl) (fun w3 hw => ?_)
        replace h := h w3 hw
        clear hw
        refine qreg_run [.plain] 1 [(0, [], Value.pointer r), (2, [], Value.int .i64 x1), (3, [], Value.bool ok1), (4, [], Value.int .i64 0), (11, [], Value.pointer r)] (by kernel_rfl) (by kernel_rfl) ?_
        obtain ⟨hp_16, h⟩ := h
        refine qreg_conv [(0, [], Value.pointer r), (2, [], Value.int .i64 x1), (3, [], Value.bool ok1), (4, [], Value.int .i64 0), (11, [], Value.pointer (some ⟨(pblk r), (poff r), none⟩))] (congrArg (fun pp => ([(0, [], Value.pointer r), (2, [], Value.int .i64 x1), (3, [], Value.bool ok1), (4, [], Value.int .i64 0), (11, [], Value.pointer pp)] : GEnv)) hp_16) ?_
        refine qreg_run [.plain] 2 [(0, [], Value.pointer r), (2, [], Value.int .i64 x1), (3, [], Value.bool ok1), (4, [], Value.int .i64 0), (11, [], Value.pointer (some ⟨(pblk r), (poff r), none⟩)), (12, [], Value.pointer (some ⟨(pblk r), (poff r), none⟩))] (by kernel_rfl) (by kernel_rfl) ?_
        refine qreg_run [.plain] 3 [(0, [], Value.pointer r), (2, [], Value.int .i64 x1), (3, [], Value.bool ok1), (4, [], Value.int .i64 0), (13, [], Value.pointer (some ⟨(pblk r), (poff r), none⟩))] (by kernel_rfl) (by kernel_rfl) ?_
        obtain ⟨v14, hc, h⟩ := h
        refine qreg_load1 (t := 49) (a := (Go.Operand.tmp 13)) (b := (pblk r)) (o := (poff r)) (ty := 49) (dst := some 14) (by kernel_rfl) (by kernel_rfl) (by kernel_rfl) hc ?_
        refine qreg_run [.plain] 5 [(0, [], Value.pointer r), (2, [], Value.int .i64 x1), (3, [], Value.bool ok1), (4, [], Value.int .i64 0), (14, [], Value.slice v14.ptr v14.len v14.cap), (15, [], Value.pointer r)] (by kernel_rfl) (by kernel_rfl) ?_
        obtain ⟨hp_17, h⟩ := h
        refine qreg_conv [(0, [], Value.pointer r), (2, [], Value.int .i64 x1), (3, [], Value.bool ok1), (4, [], Value.int .i64 0), (14, [], Value.slice v14.ptr v14.len v14.cap), (15, [], Value.pointer (some ⟨(pblk r), (poff r), none⟩))] (congrArg (fun pp => ([(0, [], Value.pointer r), (2, [], Value.int .i64 x1), (3, [], Value.bool ok1), (4, [], Value.int .i64 0), (14, [], Value.slice v14.ptr v14.len v14.cap), (15, [], Value.pointer pp)] : GEnv)) hp_17) ?_
        refine qreg_run [.plain] 6 [(0, [], Value.pointer r), (2, [], Value.int .i64 x1), (3, [], Value.bool ok1), (4, [], Value.int .i64 0), (14, [], Value.slice v14.ptr v14.len v14.cap), (15, [], Value.pointer (some ⟨(pblk r), (poff r), none⟩)), (16, [], Value.pointer (some ⟨(pblk r), (poff r), none⟩))] (by kernel_rfl) (by kernel_rfl) ?_
        refine qreg_run [.plain] 7 [(0, [], Value.pointer r), (2, [], Value.int .i64 x1), (3, [], Value.bool ok1), (4, [], Value.int .i64 0), (14, [], Value.slice v14.ptr v14.len v14.cap), (17, [], Value.pointer (some ⟨(pblk r), (poff r) + 1, none⟩))] (by kernel_rfl) (by kernel_rfl) ?_
        obtain ⟨v18, hc, h⟩ := h
        refine qreg_load1 (t := 3) (a := (Go.Operand.tmp 17)) (b := (pblk r)) (o := ((poff r) + 1)) (ty := 3) (dst := some 18) (by kernel_rfl) (by kernel_rfl) (by kernel_rfl) hc ?_
        refine qreg_run [.plain] 9 [(0, [], Value.pointer r), (2, [], Value.int .i64 x1), (3, [], Value.bool ok1), (14, [], Value.slice v14.ptr v14.len v14.cap), (18, [], Value.int .i64 v18), (19, [], Value.int .i64 0)] (by kernel_rfl) (by kernel_rfl) ?_
        obtain ⟨hp_18, h⟩ := h
        refine qreg_conv [(0, [], Value.pointer r), (2, [], Value.int .i64 x1), (3, [], Value.bool ok1), (14, [], Value.slice (some ⟨(pblk v14.ptr), (poff v14.ptr), none⟩) v14.len v14.cap), (18, [], Value.int .i64 v18), (19, [], Value.int .i64 0)] (congrArg (fun pp => ([(0, [], Value.pointer r), (2, [], Value.int .i64 x1), (3, [], Value.bool ok1), (14, [], Value.slice pp v14.len v14.cap), (18, [], Value.int .i64 v18), (19, [], Value.int .i64 0)] : GEnv)) hp_18) ?_
        obtain ⟨h0, h1, h⟩ := h
        refine qreg_indexS1 (t := 49) (e := 3) (x := (Go.Operand.tmp 14)) (ix := (Go.Operand.tmp 18)) (b := (pblk v14.ptr)) (o := (poff v14.ptr)) (l := v14.len) (c := v14.cap) (k := .i64) (j := v18) (ty := 0) (dst := some 20) (by kernel_rfl) (by kernel_rfl) (by kernel_rfl) (by kernel_rfl) (by kernel_rfl) h0 h1 ?_
        refine qreg_run [] 10 [(0, [], Value.pointer r), (2, [], Value.int .i64 x1), (3, [], Value.bool ok1), (19, [], Value.int .i64 0), (20, [], Value.pointer (some ⟨(pblk v14.ptr), (poff v14.ptr) + v18.toNat, none⟩))] (by kernel_rfl) (by kernel_rfl) ?_
        refine qreg_tail (by kernel_rfl) ?_
        refine reg_run [] 10 [(0, [], Value.pointer r), (2, [], Value.int .i64 x1), (3, [], Value.bool ok1), (19, [], Value.int .i64 0), (20, [], Value.pointer (some ⟨(pblk v14.ptr), (poff v14.ptr) + v18.toNat, none⟩))] (by kernel_rfl) (by kernel_rfl) ?_
        obtain ⟨hc, h⟩ := h
        refine reg_store (t := 3) (a := (Go.Operand.tmp 20)) (x := (Go.Operand.tmp 19)) (b := (pblk v14.ptr)) (o := ((poff v14.ptr) + v18.toNat)) (ty := 0) (dst := none) [Value.int .i64 0] (by kernel_rfl) (by kernel_rfl) (by kernel_rfl) (k := 1) (by kernel_rfl) (by kernel_rfl) (by kernel_rfl) hc (fun w4 hw => ?_)
        replace h := h w4 hw
        clear hw
        refine reg_end [(0, Value.pointer r), (2, Value.int .i64 x1), (3, Value.bool ok1)] (by kernel_rfl) (by kernel_rfl) ?_
        change WpE _ _ c_ring_Ring_int_Take_17 _ _ _
        refine wpE_seq (x := c_ring_Ring_int_Take_18) (y := c_ring_Ring_int_Take_20) (by kernel_rfl) ?_
        refine wpE_tailregion (id := 5) (ops := r_ring_Ring_int_Take_18) (by kernel_rfl) 14 (by kernel_rfl) (by kernel_rfl) (fun w5 hw => ?_)
        replace h := h w5 hw
        clear hw
        refine qreg_run [.plain, .plain] 2 [(0, [], Value.pointer r), (2, [], Value.int .i64 x1), (3, [], Value.bool ok1), (21, [], Value.pointer r), (22, [], Value.pointer r)] (by kernel_rfl) (by kernel_rfl) ?_
        obtain ⟨hp_22, h⟩ := h
        refine qreg_conv [(0, [], Value.pointer r), (2, [], Value.int .i64 x1), (3, [], Value.bool ok1), (21, [], Value.pointer r), (22, [], Value.pointer (some ⟨(pblk r), (poff r), none⟩))] (congrArg (fun pp => ([(0, [], Value.pointer r), (2, [], Value.int .i64 x1), (3, [], Value.bool ok1), (21, [], Value.pointer r), (22, [], Value.pointer pp)] : GEnv)) hp_22) ?_
        refine qreg_run [.plain] 3 [(0, [], Value.pointer r), (2, [], Value.int .i64 x1), (3, [], Value.bool ok1), (21, [], Value.pointer r), (22, [], Value.pointer (some ⟨(pblk r), (poff r), none⟩)), (23, [], Value.pointer (some ⟨(pblk r), (poff r), none⟩))] (by kernel_rfl) (by kernel_rfl) ?_
        refine qreg_run [.plain] 4 [(0, [], Value.pointer r), (2, [], Value.int .i64 x1), (3, [], Value.bool ok1), (21, [], Value.pointer r), (24, [], Value.pointer (some ⟨(pblk r), (poff r) + 1, none⟩))] (by kernel_rfl) (by kernel_rfl) ?_
        obtain ⟨v25, hc, h⟩ := h
        refine qreg_load1 (t := 3) (a := (Go.Operand.tmp 24)) (b := (pblk r)) (o := ((poff r) + 1)) (ty := 3) (dst := some 25) (by kernel_rfl) (by kernel_rfl) (by kernel_rfl) hc ?_
        refine qreg_run [.plain, .plain] 7 [(0, [], Value.pointer r), (2, [], Value.int .i64 x1), (3, [], Value.bool ok1), (21, [], Value.pointer r), (26, [], Value.int .i64 (IntKind.i64.wrap (v25 + 1))), (27, [], Value.pointer r)] (by kernel_rfl) (by kernel_rfl) ?_
        obtain ⟨hp_23, h⟩ := h
        refine qreg_conv [(0, [], Value.pointer r), (2, [], Value.int .i64 x1), (3, [], Value.bool ok1), (21, [], Value.pointer r), (26, [], Value.int .i64 (IntKind.i64.wrap (v25 + 1))), (27, [], Value.pointer (some ⟨(pblk r), (poff r), none⟩))] (congrArg (fun pp => ([(0, [], Value.pointer r), (2, [], Value.int .i64 x1), (3, [], Value.bool ok1), (21, [], Value.pointer r), (26, [], Value.int .i64 (IntKind.i64.wrap (v25 + 1))), (27, [], Value.pointer pp)] : GEnv)) hp_23) ?_
        refine qreg_run [.plain] 8 [(0, [], Value.pointer r), (2, [], Value.int .i64 x1), (3, [], Value.bool ok1), (21, [], Value.pointer r), (26, [], Value.int .i64 (IntKind.i64.wrap (v25 + 1))), (27, [], Value.pointer (some ⟨(pblk r), (poff r), none⟩)), (28, [], Value.pointer (some ⟨(pblk r), (poff r), none⟩))] (by kernel_rfl) (by kernel_rfl) ?_
        refine qreg_run [.plain] 9 [(0, [], Value.pointer r), (2, [], Value.int .i64 x1), (3, [], Value.bool ok1), (21, [], Value.pointer r), (26, [], Value.int .i64 (IntKind.i64.wrap (v25 + 1))), (29, [], Value.pointer (some ⟨(pblk r), (poff r), none⟩))] (by kernel_rfl) (by kernel_rfl) ?_
        obtain ⟨v30, hc, h⟩ := h
        refine qreg_load1 (t := 49) (a := (Go.Operand.tmp 29)) (b := (pblk r)) (o := (poff r)) (ty := 49) (dst := some 30) (by kernel_rfl) (by kernel_rfl) (by kernel_rfl) hc ?_
        refine qreg_run [.plain] 11 [(0, [], Value.pointer r), (2, [], Value.int .i64 x1), (3, [], Value.bool ok1), (21, [], Value.pointer r), (26, [], Value.int .i64 (IntKind.i64.wrap (v25 + 1))), (31, [], Value.int .i64 ((v30.len : Nat) : Int))] (by kernel_rfl) (by kernel_rfl) ?_
        obtain ⟨h0, h⟩ := h
        refine qreg_val (op := (Go.Op.binOp Go.BinOp.rem 3 (Go.Operand.tmp 26) (Go.Operand.tmp 31) 3)) (ty := 3) (dst := some 32) (Value.int .i64 (Int.tmod (IntKind.i64.wrap (v25 + 1)) ((v30.len : Nat) : Int))) (by kernel_rfl) (fun ww => run_rem (by kernel_rfl) (by kernel_rfl) h0 ww) ?_
        refine qreg_run [] 12 [(0, [], Value.pointer r), (2, [], Value.int .i64 x1), (3, [], Value.bool ok1), (21, [], Value.pointer r), (32, [], Value.int .i64 (Int.tmod (IntKind.i64.wrap (v25 + 1)) ((v30.len : Nat) : Int)))] (by kernel_rfl) (by kernel_rfl) ?_
        obtain ⟨hp_24, h⟩ := h
        refine qreg_conv [(0, [], Value.pointer r), (2, [], Value.int .i64 x1), (3, [], Value.bool ok1), (21, [], Value.pointer (some ⟨(pblk r), (poff r), none⟩)), (32, [], Value.int .i64 (Int.tmod (IntKind.i64.wrap (v25 + 1)) ((v30.len : Nat) : Int)))] (congrArg (fun pp => ([(0, [], Value.pointer r), (2, [], Value.int .i64 x1), (3, [], Value.bool ok1), (21, [], Value.pointer pp), (32, [], Value.int .i64 (Int.tmod (IntKind.i64.wrap (v25 + 1)) ((v30.len : Nat) : Int)))] : GEnv)) hp_24) ?_
        refine qreg_run [.plain] 13 [(0, [], Value.pointer r), (2, [], Value.int .i64 x1), (3, [], Value.bool ok1), (21, [], Value.pointer (some ⟨(pblk r), (poff r), none⟩)), (32, [], Value.int .i64 (Int.tmod (IntKind.i64.wrap (v25 + 1)) ((v30.len : Nat) : Int))), (33, [], Value.pointer (some ⟨(pblk r), (poff r), none⟩))] (by kernel_rfl) (by kernel_rfl) ?_
        refine qreg_run [.plain] 14 [(0, [], Value.pointer r), (2, [], Value.int .i64 x1), (3, [], Value.bool ok1), (32, [], Value.int .i64 (Int.tmod (IntKind.i64.wrap (v25 + 1)) ((v30.len : Nat) : Int))), (34, [], Value.pointer (some ⟨(pblk r), (poff r) + 1, none⟩))] (by kernel_rfl) (by kernel_rfl) ?_
        refine qreg_tail (by kernel_rfl) ?_
        refine reg_run [] 14 [(0, [], Value.pointer r), (2, [], Value.int .i64 x1), (3, [], Value.bool ok1), (32, [], Value.int .i64 (Int.tmod (IntKind.i64.wrap (v25 + 1)) ((v30.len : Nat) : Int))), (34, [], Value.pointer (some ⟨(pblk r), (poff r) + 1, none⟩))] (by kernel_rfl) (by kernel_rfl) ?_
        obtain ⟨hc, h⟩ := h
        refine reg_store (t := 3) (a := (Go.Operand.tmp 34)) (x := (Go.Operand.tmp 32)) (b := (pblk r)) (o := ((poff r) + 1)) (ty := 0) (dst := none) [Value.int .i64 (Int.tmod (IntKind.i64.wrap (v25 + 1)) ((v30.len : Nat) : Int))] (by kernel_rfl) (by kernel_rfl) (by kernel_rfl) (k := 1) (by kernel_rfl) (by kernel_rfl) (by kernel_rfl) hc (fun w6 hw => ?_)
        replace h := h w6 hw
        clear hw
        refine reg_end [(0, Value.pointer r), (2, Value.int .i64 x1), (3, Value.bool ok1)] (by kernel_rfl) (by kernel_rfl) ?_
        change WpE _ _ c_ring_Ring_int_Take_20 _ _ _
        refine wpE_region (id := 6) (ops := r_ring_Ring_int_Take_20) (by kernel_rfl) ?_
        refine reg_run [.plain] 1 [(2, [], Value.int .i64 x1), (3, [], Value.bool ok1), (35, [], Value.pointer r)] (by kernel_rfl) (by kernel_rfl) ?_
        obtain ⟨hp_25, h⟩ := h
        refine reg_conv [(2, [], Value.int .i64 x1), (3, [], Value.bool ok1), (35, [], Value.pointer (some ⟨(pblk r), (poff r), none⟩))] (congrArg (fun pp => ([(2, [], Value.int .i64 x1), (3, [], Value.bool ok1), (35, [], Value.pointer pp)] : GEnv)) hp_25) ?_
        refine reg_run [.plain] 2 [(2, [], Value.int .i64 x1), (3, [], Value.bool ok1), (35, [], Value.pointer (some ⟨(pblk r), (poff r), none⟩)), (36, [], Value.pointer (some ⟨(pblk r), (poff r), none⟩))] (by kernel_rfl) (by kernel_rfl) ?_
        refine reg_run [.plain] 3 [(2, [], Value.int .i64 x1), (3, [], Value.bool ok1), (35, [], Value.pointer (some ⟨(pblk r), (poff r), none⟩)), (37, [], Value.pointer (some ⟨(pblk r), (poff r) + 2, none⟩))] (by kernel_rfl) (by kernel_rfl) ?_
        obtain ⟨v38, hc, h⟩ := h
        refine reg_load1 (t := 3) (a := (Go.Operand.tmp 37)) (b := (pblk r)) (o := ((poff r) + 2)) (ty := 3) (dst := some 38) (by kernel_rfl) (by kernel_rfl) (by kernel_rfl) hc ?_
        refine reg_run [.plain, .plain, .plain] 7 [(2, [], Value.int .i64 x1), (3, [], Value.bool ok1), (39, [], Value.int .i64 (IntKind.i64.wrap (v38 - 1))), (41, [], Value.pointer (some ⟨(pblk r), (poff r) + 2, none⟩))] (by kernel_rfl) (by kernel_rfl) ?_
        obtain ⟨hc, h⟩ := h
        refine reg_store (t := 3) (a := (Go.Operand.tmp 41)) (x := (Go.Operand.tmp 39)) (b := (pblk r)) (o := ((poff r) + 2)) (ty := 0) (dst := none) [Value.int .i64 (IntKind.i64.wrap (v38 - 1))] (by kernel_rfl) (by kernel_rfl) (by kernel_rfl) (k := 1) (by kernel_rfl) (by kernel_rfl) (by kernel_rfl) hc (fun w7 hw => ?_)
        replace h := h w7 hw
        clear hw
        refine reg_end [(2, Value.int .i64 x1), (3, Value.bool ok1)] (by kernel_rfl) (by kernel_rfl) ?_
        exact ⟨[(2, Value.int .i64 x1), (3, Value.bool ok1)], Sub.mk (by kernel_rfl), x1, ok1, rfl, h⟩
      · replace h := h.2 hb
        refine wpE_skip (by kernel_rfl) ?_
        exact ⟨[(2, Value.int .i64 x1), (3, Value.bool ok1)], Sub.mk (by kernel_rfl), x1, ok1, rfl, h⟩
    · rintro _ w1 ⟨x, ok, rfl, h⟩
      unfold F_ring_Ring_int_Take_k0 at h
      refine wpE_seq (x := c_ring_Ring_int_Take_24) (y := c_ring_Ring_int_Take_26) (by kernel_rfl) ?_
      refine wpE_region (id := 7) (ops := r_ring_Ring_int_Take_24) (by kernel_rfl) ?_
      refine reg_run [.plain, .plain, .plain, .plain] 4 [(2, [], Value.int .i64 x), (3, [], Value.bool ok)] (by kernel_rfl) (by kernel_rfl) ?_
      refine reg_end [(2, Value.int .i64 x), (3, Value.bool ok)] (by kernel_rfl) (by kernel_rfl) ?_
      change WpE _ _ c_ring_Ring_int_Take_26 _ _ _
      refine wpE_ret (by kernel_rfl) ?_
      repeat (first | refine seqQ_ret ?_ | refine blockQ_ret ?_ | refine loopQ_ret ?_ | refine cutQ_ret ?_)
      exact retT (rs := [(Go.ResultVar.tmp 2), (Go.ResultVar.tmp 3)]) (vs := [Value.int .i64 x, Value.bool ok]) (by kernel_rfl) (⟨by kernel_rfl, ⟨by kernel_rfl, trivial⟩⟩) (by kernel_rfl) ⟨x, ok, rfl, h⟩
  · rintro e w' ⟨v, rfl, r0, r1, rfl, h⟩; exact ⟨r0, r1, rfl, h⟩

/-! ### (*towpath/ring.Ring[int]).Len (function 25) -/
noncomputable def c_ring_Ring_int_Len_0 : Code := (Try.f25.body).getD Code.skip
noncomputable def c_ring_Ring_int_Len_1 : Code := Code.l c_ring_Ring_int_Len_0
noncomputable def r_ring_Ring_int_Len_1 : Array Oper := Code.ops c_ring_Ring_int_Len_1
noncomputable def c_ring_Ring_int_Len_3 : Code := Code.r c_ring_Ring_int_Len_0
noncomputable def c_ring_Ring_int_Len_4 : Code := Code.l c_ring_Ring_int_Len_3
noncomputable def c_ring_Ring_int_Len_5 : Code := Code.l c_ring_Ring_int_Len_4
noncomputable def r_ring_Ring_int_Len_5 : Array Oper := Code.ops c_ring_Ring_int_Len_5
noncomputable def c_ring_Ring_int_Len_7 : Code := Code.r c_ring_Ring_int_Len_4
noncomputable def c_ring_Ring_int_Len_8 : Code := Code.l c_ring_Ring_int_Len_7
noncomputable def c_ring_Ring_int_Len_9 : Code := Code.l c_ring_Ring_int_Len_8
noncomputable def r_ring_Ring_int_Len_9 : Array Oper := Code.ops c_ring_Ring_int_Len_9
noncomputable def c_ring_Ring_int_Len_11 : Code := Code.r c_ring_Ring_int_Len_8
noncomputable def c_ring_Ring_int_Len_12 : Code := Code.r c_ring_Ring_int_Len_7
noncomputable def c_ring_Ring_int_Len_13 : Code := Code.r c_ring_Ring_int_Len_3
noncomputable def c_ring_Ring_int_Len_14 : Code := Code.l c_ring_Ring_int_Len_13
noncomputable def r_ring_Ring_int_Len_14 : Array Oper := Code.ops c_ring_Ring_int_Len_14
noncomputable def c_ring_Ring_int_Len_16 : Code := Code.r c_ring_Ring_int_Len_13

set_option maxRecDepth 100000 in
set_option maxHeartbeats 4000000 in
theorem S_ring_Ring_int_Len {r : Option Addr} {w : World} {R : Int → World → Prop} (h : F_ring_Ring_int_Len r R w) : C_ring_Ring_int_Len r w R := by
  unfold F_ring_Ring_int_Len at h
  unfold C_ring_Ring_int_Len
  refine Calls.mono (calls_of_wpE (args := [Value.pointer r]) (R := fun v w' => ∃ (r0 : Int), v = Value.int .i64 r0 ∧ R r0 w') Try.func25 (c := c_ring_Ring_int_Len_0) (by kernel_rfl) 9 (by kernel_rfl) (by kernel_rfl) [(0, Value.pointer r)] (by kernel_rfl) ?_) ?_
  · refine wpE_seq (x := c_ring_Ring_int_Len_1) (y := c_ring_Ring_int_Len_3) (by kernel_rfl) ?_
    refine wpE_region (id := 0) (ops := r_ring_Ring_int_Len_1) (by kernel_rfl) ?_
    refine reg_run [.plain] 1 [(0, [], Value.pointer r)] (by kernel_rfl) (by kernel_rfl) ?_
    refine reg_end [(0, Value.pointer r)] (by kernel_rfl) (by kernel_rfl) ?_
    change WpE _ _ c_ring_Ring_int_Len_3 _ _ _
    refine wpE_seq (x := c_ring_Ring_int_Len_4) (y := c_ring_Ring_int_Len_13) (by kernel_rfl) ?_
    refine wpE_seq (x := c_ring_Ring_int_Len_5) (y := c_ring_Ring_int_Len_7) (by kernel_rfl) ?_
    refine wpE_region (id := 1) (ops := r_ring_Ring_int_Len_5) (by kernel_rfl) ?_
    refine reg_run [.plain] 1 [(0, [], Value.pointer r), (3, [], Value.pointer r)] (by kernel_rfl) (by kernel_rfl) ?_
    refine reg_enter (op := (Go.Op.call (Go.Call.mk (Go.Callee.value (Go.Operand.func 48)) #[(Go.Operand.tmp 3)] #[36]))) (ty := 4) (dst := some 4) 48 #[Value.pointer r] (by kernel_rfl) (fun ww => by kernel_rfl) (Calls.mono h ?_)
    rintro _ w1 ⟨v4, rfl, h⟩
    refine ⟨_, rfl, ?_⟩
    refine reg_end [(0, Value.pointer r), (4, Value.bool v4)] (by kernel_rfl) (by kernel_rfl) ?_
    change WpE _ _ c_ring_Ring_int_Len_7 _ _ _
    refine wpE_cond (o := (Operand.tmp 4)) (b := v4) (x := c_ring_Ring_int_Len_8) (y := c_ring_Ring_int_Len_12) (by kernel_rfl) (by kernel_rfl) (fun hb => ?_) (fun hb => ?_)
    · replace h := h.1 hb
      refine wpE_seq (x := c_ring_Ring_int_Len_9) (y := c_ring_Ring_int_Len_11) (by kernel_rfl) ?_
      refine wpE_region (id := 2) (ops := r_ring_Ring_int_Len_9) (by kernel_rfl) ?_
      refine reg_run [.plain] 1 [(2, [], Value.int .i64 0)] (by kernel_rfl) (by kernel_rfl) ?_
      refine reg_end [(2, Value.int .i64 0)] (by kernel_rfl) (by kernel_rfl) ?_
      change WpE _ _ c_ring_Ring_int_Len_11 _ _ _
      refine wpE_ret (by kernel_rfl) ?_
      repeat (first | refine seqQ_ret ?_ | refine blockQ_ret ?_ | refine loopQ_ret ?_ | refine cutQ_ret ?_)
      exact retS (rs := [(Go.ResultVar.tmp 2)]) (v := Value.int .i64 0) (by kernel_rfl) (⟨by kernel_rfl, trivial⟩) ⟨0, rfl, h⟩
    · replace h := h.2 hb
      refine wpE_skip (by kernel_rfl) ?_
      change WpE _ _ c_ring_Ring_int_Len_13 _ _ _
      refine wpE_seq (x := c_ring_Ring_int_Len_14) (y := c_ring_Ring_int_Len_16) (by kernel_rfl) ?_
      refine wpE_region (id := 3) (ops := r_ring_Ring_int_Len_14) (by kernel_rfl) ?_
      refine reg_run [.plain] 1 [(5, [], Value.pointer r)] (by kernel_rfl) (by kernel_rfl) ?_
      obtain ⟨hp_0, h⟩ := h
      refine reg_conv [(5, [], Value.pointer (some ⟨(pblk r), (poff r), none⟩))] (congrArg (fun pp => ([(5, [], Value.pointer pp)] : GEnv)) hp_0) ?_
      refine reg_run [.plain] 2 [(5, [], Value.pointer (some ⟨(pblk r), (poff r), none⟩)), (6, [], Value.pointer (some ⟨(pblk r), (poff r), none⟩))] (by kernel_rfl) (by kernel_rfl) ?_
      refine reg_run [.plain] 3 [(7, [], Value.pointer (some ⟨(pblk r), (poff r) + 2, none⟩))] (by kernel_rfl) (by kernel_rfl) ?_
      obtain ⟨v8, hc, h⟩ := h
      refine reg_load1 (t := 3) (a := (Go.Operand.tmp 7)) (b := (pblk r)) (o := ((poff r) + 2)) (ty := 3) (dst := some 8) (by kernel_rfl) (by kernel_rfl) (by kernel_rfl) hc ?_
      refine reg_run [.plain] 5 [(2, [], Value.int .i64 v8)] (by kernel_rfl) (by kernel_rfl) ?_
      refine reg_end [(2, Value.int .i64 v8)] (by kernel_rfl) (by kernel_rfl) ?_
      change WpE _ _ c_ring_Ring_int_Len_16 _ _ _
      refine wpE_ret (by kernel_rfl) ?_
      repeat (first | refine seqQ_ret ?_ | refine blockQ_ret ?_ | refine loopQ_ret ?_ | refine cutQ_ret ?_)
      exact retS (rs := [(Go.ResultVar.tmp 2)]) (v := Value.int .i64 v8) (by kernel_rfl) (⟨by kernel_rfl, trivial⟩) ⟨v8, rfl, h⟩
  · rintro e w' ⟨v, rfl, r0, rfl, h⟩; exact ⟨r0, rfl, h⟩

/-! ### (*towpath/ring.Ring[int]).Room (function 26) -/
noncomputable def c_ring_Ring_int_Room_0 : Code := (Try.f26.body).getD Code.skip
noncomputable def c_ring_Ring_int_Room_1 : Code := Code.l c_ring_Ring_int_Room_0
noncomputable def r_ring_Ring_int_Room_1 : Array Oper := Code.ops c_ring_Ring_int_Room_1
noncomputable def c_ring_Ring_int_Room_3 : Code := Code.r c_ring_Ring_int_Room_0
noncomputable def c_ring_Ring_int_Room_4 : Code := Code.l c_ring_Ring_int_Room_3
noncomputable def c_ring_Ring_int_Room_5 : Code := Code.l c_ring_Ring_int_Room_4
noncomputable def r_ring_Ring_int_Room_5 : Array Oper := Code.ops c_ring_Ring_int_Room_5
noncomputable def c_ring_Ring_int_Room_7 : Code := Code.r c_ring_Ring_int_Room_4
noncomputable def c_ring_Ring_int_Room_8 : Code := Code.l c_ring_Ring_int_Room_7
noncomputable def c_ring_Ring_int_Room_9 : Code := Code.l c_ring_Ring_int_Room_8
noncomputable def r_ring_Ring_int_Room_9 : Array Oper := Code.ops c_ring_Ring_int_Room_9
noncomputable def c_ring_Ring_int_Room_11 : Code := Code.r c_ring_Ring_int_Room_8
noncomputable def c_ring_Ring_int_Room_12 : Code := Code.r c_ring_Ring_int_Room_7
noncomputable def c_ring_Ring_int_Room_13 : Code := Code.r c_ring_Ring_int_Room_3
noncomputable def c_ring_Ring_int_Room_14 : Code := Code.l c_ring_Ring_int_Room_13
noncomputable def r_ring_Ring_int_Room_14 : Array Oper := Code.ops c_ring_Ring_int_Room_14
noncomputable def c_ring_Ring_int_Room_16 : Code := Code.r c_ring_Ring_int_Room_13

set_option maxRecDepth 100000 in
set_option maxHeartbeats 4000000 in
theorem S_ring_Ring_int_Room {r : Option Addr} {w : World} {R : Int → World → Prop} (h : F_ring_Ring_int_Room r R w) : C_ring_Ring_int_Room r w R := by
  unfold F_ring_Ring_int_Room at h
  unfold C_ring_Ring_int_Room
  refine Calls.mono (calls_of_wpE (args := [Value.pointer r]) (R := fun v w' => ∃ (r0 : Int), v = Value.int .i64 r0 ∧ R r0 w') Try.func26 (c := c_ring_Ring_int_Room_0) (by kernel_rfl) 21 (by kernel_rfl) (by kernel_rfl) [(0, Value.pointer r)] (by kernel_rfl) ?_) ?_
  · refine wpE_seq (x := c_ring_Ring_int_Room_1) (y := c_ring_Ring_int_Room_3) (by kernel_rfl) ?_
    refine wpE_region (id := 0) (ops := r_ring_Ring_int_Room_1) (by kernel_rfl) ?_
    refine reg_run [.plain] 1 [(0, [], Value.pointer r)] (by kernel_rfl) (by kernel_rfl) ?_
    refine reg_end [(0, Value.pointer r)] (by kernel_rfl) (by kernel_rfl) ?_
    change WpE _ _ c_ring_Ring_int_Room_3 _ _ _
    refine wpE_seq (x := c_ring_Ring_int_Room_4) (y := c_ring_Ring_int_Room_13) (by kernel_rfl) ?_
    refine wpE_seq_cut (x := c_ring_Ring_int_Room_5) (y := c_ring_Ring_int_Room_7) (by kernel_rfl) (fun l w => ∃ (t10 : Bool), l = [(0, Value.pointer r), (10, Value.bool t10)] ∧ F_ring_Ring_int_Room_k0 r R t10 w) ?_ ?_
    · refine wpE_region (id := 1) (ops := r_ring_Ring_int_Room_5) (by kernel_rfl) ?_
      refine reg_run [.plain] 1 [(0, [], Value.pointer r), (3, [], Value.pointer r)] (by kernel_rfl) (by kernel_rfl) ?_
      refine reg_enter (op := (Go.Op.call (Go.Call.mk (Go.Callee.value (Go.Operand.func 48)) #[(Go.Operand.tmp 3)] #[36]))) (ty := 4) (dst := some 4) 48 #[Value.pointer r] (by kernel_rfl) (fun ww => by kernel_rfl) (Calls.mono h ?_)
      rintro _ w3 ⟨v4, rfl, h⟩
      refine ⟨_, rfl, ?_⟩
      refine reg_run [.plain, .plain] 4 [(0, [], Value.pointer r), (5, [], Value.bool v4), (6, [(5, false)], Value.pointer r)] (by kernel_rfl) (by kernel_rfl) ?_
      refine reg_split 5 v4 (by kernel_rfl) (fun hb => ?_) (fun hb => ?_)
      · replace h := h.1 hb
        refine reg_run [] 4 [(0, [], Value.pointer r), (5, [], Value.bool true), (6, [], undef)] (by kernel_rfl) (by kernel_rfl) ?_
        refine reg_run [.skip, .skip, .skip, .plain] 8 [(0, [], Value.pointer r), (10, [], Value.bool true)] (by kernel_rfl) (by kernel_rfl) ?_
        refine reg_end [(0, Value.pointer r), (10, Value.bool true)] (by kernel_rfl) (by kernel_rfl) ?_
        exact ⟨[(0, Value.pointer r), (10, Value.bool true)], Sub.mk (by kernel_rfl), true, rfl, h⟩
      · replace h := h.2 hb
        refine reg_run [] 4 [(0, [], Value.pointer r), (5, [], Value.bool false), (6, [], Value.pointer r)] (by kernel_rfl) (by kernel_rfl) ?_
        refine reg_run [] 4 [(0, [], Value.pointer r), (5, [], Value.bool false), (6, [], Value.pointer r)] (by kernel_rfl) (by kernel_rfl) ?_
        obtain ⟨hp_5, h⟩ := h
        refine reg_conv [(0, [], Value.pointer r), (5, [], Value.bool false), (6, [], Value.pointer (some ⟨(pblk r), (poff r), none⟩))] (congrArg (fun pp => ([(0, [], Value.pointer r), (5, [], Value.bool false), (6, [], Value.pointer pp)] : GEnv)) hp_5) ?_
        refine reg_run [.sure] 5 [(0, [], Value.pointer r), (5, [], Value.bool false), (6, [], Value.pointer (some ⟨(pblk r), (poff r), none⟩)), (7, [], Value.pointer (some ⟨(pblk r), (poff r), none⟩))] (by kernel_rfl) (by kernel_rfl) ?_
        refine reg_run [.sure] 6 [(0, [], Value.pointer r), (5, [], Value.bool false), (8, [], Value.pointer (some ⟨(pblk r), (poff r) + 3, none⟩))] (by kernel_rfl) (by kernel_rfl) ?_
        obtain ⟨v9, hc, h⟩ := h
        refine reg_load1 (t := 4) (a := (Go.Operand.tmp 8)) (b := (pblk r)) (o := ((poff r) + 3)) (ty := 4) (dst := some 9) (by kernel_rfl) (by kernel_rfl) (by kernel_rfl) hc ?_
        refine reg_run [.plain] 8 [(0, [], Value.pointer r), (10, [], Value.bool v9)] (by kernel_rfl) (by kernel_rfl) ?_
        refine reg_end [(0, Value.pointer r), (10, Value.bool v9)] (by kernel_rfl) (by kernel_rfl) ?_
        exact ⟨[(0, Value.pointer r), (10, Value.bool v9)], Sub.mk (by kernel_rfl), v9, rfl, h⟩
    · rintro _ w1 ⟨t10, rfl, h⟩
      unfold F_ring_Ring_int_Room_k0 at h
      refine wpE_cond (o := (Operand.tmp 10)) (b := t10) (x := c_ring_Ring_int_Room_8) (y := c_ring_Ring_int_Room_12) (by kernel_rfl) (by kernel_rfl) (fun hb => ?_) (fun hb => ?_)
      · replace h := h.1 hb
        refine wpE_seq (x := c_ring_Ring_int_Room_9) (y := c_ring_Ring_int_Room_11) (by kernel_rfl) ?_
        refine wpE_region (id := 2) (ops := r_ring_Ring_int_Room_9) (by kernel_rfl) ?_
        refine reg_run [.plain] 1 [(2, [], Value.int .i64 0)] (by kernel_rfl) (by kernel_rfl) ?_
        refine reg_end [(2, Value.int .i64 0)] (by kernel_rfl) (by kernel_rfl) ?_
        change WpE _ _ c_ring_Ring_int_Room_11 _ _ _
        refine wpE_ret (by kernel_rfl) ?_
        repeat (first | refine seqQ_ret ?_ | refine blockQ_ret ?_ | refine loopQ_ret ?_ | refine cutQ_ret ?_)
        exact retS (rs := [(Go.ResultVar.tmp 2)]) (v := Value.int .i64 0) (by kernel_rfl) (⟨by kernel_rfl, trivial⟩) ⟨0, rfl, h⟩
      · replace h := h.2 hb
        refine wpE_skip (by kernel_rfl) ?_
        change WpE _ _ c_ring_Ring_int_Room_13 _ _ _
        refine wpE_seq (x := c_ring_Ring_int_Room_14) (y := c_ring_Ring_int_Room_16) (by kernel_rfl) ?_
        refine wpE_drawregion (id := 3) (ops := r_ring_Ring_int_Room_14) (by kernel_rfl) (by kernel_rfl) (by kernel_rfl) ?_
        refine qreg_run [.plain] 1 [(0, [], Value.pointer r), (11, [], Value.pointer r)] (by kernel_rfl) (by kernel_rfl) ?_
        obtain ⟨hp_3, h⟩ := h
        refine qreg_conv [(0, [], Value.pointer r), (11, [], Value.pointer (some ⟨(pblk r), (poff r), none⟩))] (congrArg (fun pp => ([(0, [], Value.pointer r), (11, [], Value.pointer pp)] : GEnv)) hp_3) ?_
        refine qreg_run [.plain] 2 [(0, [], Value.pointer r), (11, [], Value.pointer (some ⟨(pblk r), (poff r), none⟩)), (12, [], Value.pointer (some ⟨(pblk r), (poff r), none⟩))] (by kernel_rfl) (by kernel_rfl) ?_
        refine qreg_run [.plain] 3 [(0, [], Value.pointer r), (13, [], Value.pointer (some ⟨(pblk r), (poff r), none⟩))] (by kernel_rfl) (by kernel_rfl) ?_
        obtain ⟨v14, hc, h⟩ := h
        refine qreg_load1 (t := 49) (a := (Go.Operand.tmp 13)) (b := (pblk r)) (o := (poff r)) (ty := 49) (dst := some 14) (by kernel_rfl) (by kernel_rfl) (by kernel_rfl) hc ?_
        refine qreg_run [.plain, .plain] 6 [(15, [], Value.int .i64 ((v14.len : Nat) : Int)), (16, [], Value.pointer r)] (by kernel_rfl) (by kernel_rfl) ?_
        obtain ⟨hp_4, h⟩ := h
        refine qreg_conv [(15, [], Value.int .i64 ((v14.len : Nat) : Int)), (16, [], Value.pointer (some ⟨(pblk r), (poff r), none⟩))] (congrArg (fun pp => ([(15, [], Value.int .i64 ((v14.len : Nat) : Int)), (16, [], Value.pointer pp)] : GEnv)) hp_4) ?_
        refine qreg_run [.plain] 7 [(15, [], Value.int .i64 ((v14.len : Nat) : Int)), (16, [], Value.pointer (some ⟨(pblk r), (poff r), none⟩)), (17, [], Value.pointer (some ⟨(pblk r), (poff r), none⟩))] (by kernel_rfl) (by kernel_rfl) ?_
        refine qreg_run [.plain] 8 [(15, [], Value.int .i64 ((v14.len : Nat) : Int)), (18, [], Value.pointer (some ⟨(pblk r), (poff r) + 2, none⟩))] (by kernel_rfl) (by kernel_rfl) ?_
        obtain ⟨v19, hc, h⟩ := h
        refine qreg_load1 (t := 3) (a := (Go.Operand.tmp 18)) (b := (pblk r)) (o := ((poff r) + 2)) (ty := 3) (dst := some 19) (by kernel_rfl) (by kernel_rfl) (by kernel_rfl) hc ?_
        refine qreg_run [.plain, .plain] 11 [(2, [], Value.int .i64 (IntKind.i64.wrap (((v14.len : Nat) : Int) - v19)))] (by kernel_rfl) (by kernel_rfl) ?_
        refine qreg_end [(2, Value.int .i64 (IntKind.i64.wrap (((v14.len : Nat) : Int) - v19)))] (by kernel_rfl) (by kernel_rfl) (fun w2 hw => ?_)
        replace h := h w2 hw
        clear hw
        change WpE _ _ c_ring_Ring_int_Room_16 _ _ _
        refine wpE_ret (by kernel_rfl) ?_
        repeat (first | refine seqQ_ret ?_ | refine blockQ_ret ?_ | refine loopQ_ret ?_ | refine cutQ_ret ?_)
        exact retS (rs := [(Go.ResultVar.tmp 2)]) (v := Value.int .i64 (IntKind.i64.wrap (((v14.len : Nat) : Int) - v19))) (by kernel_rfl) (⟨by kernel_rfl, trivial⟩) ⟨(IntKind.i64.wrap (((v14.len : Nat) : Int) - v19)), rfl, h⟩
  · rintro e w' ⟨v, rfl, r0, rfl, h⟩; exact ⟨r0, rfl, h⟩

/-! ### (*towpath/ring.Ring[int]).Close (function 27) -/
noncomputable def c_ring_Ring_int_Close_0 : Code := (Try.f27.body).getD Code.skip
noncomputable def c_ring_Ring_int_Close_1 : Code := Code.l c_ring_Ring_int_Close_0
noncomputable def r_ring_Ring_int_Close_1 : Array Oper := Code.ops c_ring_Ring_int_Close_1
noncomputable def c_ring_Ring_int_Close_3 : Code := Code.r c_ring_Ring_int_Close_0
noncomputable def c_ring_Ring_int_Close_4 : Code := Code.l c_ring_Ring_int_Close_3
noncomputable def r_ring_Ring_int_Close_4 : Array Oper := Code.ops c_ring_Ring_int_Close_4
noncomputable def c_ring_Ring_int_Close_6 : Code := Code.r c_ring_Ring_int_Close_3

set_option maxRecDepth 100000 in
set_option maxHeartbeats 4000000 in
theorem S_ring_Ring_int_Close {r : Option Addr} {w : World} {R : World → Prop} (h : F_ring_Ring_int_Close r R w) : C_ring_Ring_int_Close r w R := by
  unfold F_ring_Ring_int_Close at h
  unfold C_ring_Ring_int_Close
  refine Calls.mono (calls_of_wpE (args := [Value.pointer r]) (R := fun v w' => v = Value.tuple #[] ∧ R w') Try.func27 (c := c_ring_Ring_int_Close_0) (by kernel_rfl) 8 (by kernel_rfl) (by kernel_rfl) [(0, Value.pointer r)] (by kernel_rfl) ?_) ?_
  · refine wpE_seq (x := c_ring_Ring_int_Close_1) (y := c_ring_Ring_int_Close_3) (by kernel_rfl) ?_
    refine wpE_region (id := 0) (ops := r_ring_Ring_int_Close_1) (by kernel_rfl) ?_
    refine reg_run [.plain] 1 [(0, [], Value.pointer r), (2, [], Value.pointer r)] (by kernel_rfl) (by kernel_rfl) ?_
    refine reg_enter (op := (Go.Op.call (Go.Call.mk (Go.Callee.value (Go.Operand.func 48)) #[(Go.Operand.tmp 2)] #[36]))) (ty := 4) (dst := some 3) 48 #[Value.pointer r] (by kernel_rfl) (fun ww => by kernel_rfl) (Calls.mono h ?_)
    rintro _ w1 ⟨v3, rfl, h⟩
    refine ⟨_, rfl, ?_⟩
    refine reg_run [.plain] 3 [(0, [], Value.pointer r), (4, [], Value.bool (!v3))] (by kernel_rfl) (by kernel_rfl) ?_
    refine reg_end [(0, Value.pointer r), (4, Value.bool (!v3))] (by kernel_rfl) (by kernel_rfl) ?_
    change WpE _ _ c_ring_Ring_int_Close_3 _ _ _
    refine wpE_cond (o := (Operand.tmp 4)) (b := (!v3)) (x := c_ring_Ring_int_Close_4) (y := c_ring_Ring_int_Close_6) (by kernel_rfl) (by kernel_rfl) (fun hb => ?_) (fun hb => ?_)
    · replace h := h.1 hb
      refine wpE_region (id := 1) (ops := r_ring_Ring_int_Close_4) (by kernel_rfl) ?_
      refine reg_run [.plain] 1 [(5, [], Value.pointer r)] (by kernel_rfl) (by kernel_rfl) ?_
      obtain ⟨hp_0, h⟩ := h
      refine reg_conv [(5, [], Value.pointer (some ⟨(pblk r), (poff r), none⟩))] (congrArg (fun pp => ([(5, [], Value.pointer pp)] : GEnv)) hp_0) ?_
      refine reg_run [.plain] 2 [(5, [], Value.pointer (some ⟨(pblk r), (poff r), none⟩)), (6, [], Value.pointer (some ⟨(pblk r), (poff r), none⟩))] (by kernel_rfl) (by kernel_rfl) ?_
      refine reg_run [.plain] 3 [(7, [], Value.pointer (some ⟨(pblk r), (poff r) + 3, none⟩))] (by kernel_rfl) (by kernel_rfl) ?_
      obtain ⟨hc, h⟩ := h
      refine reg_store (t := 4) (a := (Go.Operand.tmp 7)) (x := (Go.Operand.const (Go.Value.bool true))) (b := (pblk r)) (o := ((poff r) + 3)) (ty := 0) (dst := none) [Value.bool true] (by kernel_rfl) (by kernel_rfl) (by kernel_rfl) (k := 1) (by kernel_rfl) (by kernel_rfl) (by kernel_rfl) hc (fun w2 hw => ?_)
      replace h := h w2 hw
      clear hw
      refine reg_end [] (by kernel_rfl) (by kernel_rfl) ?_
      repeat (first | refine seqQ_exit ?_ | refine loopQ_exit ?_ | refine cutQ_exit ?_ | refine blockQ_hit ?_ | refine blockQ_miss (by kernel_rfl) ?_)
      refine retQ_normal ?_
      repeat (first | refine seqQ_ret ?_ | refine blockQ_ret ?_ | refine loopQ_ret ?_ | refine cutQ_ret ?_)
      exact retT (rs := []) (vs := []) (by kernel_rfl) (trivial) (by kernel_rfl) ⟨rfl, h⟩
    · replace h := h.2 hb
      refine wpE_skip (by kernel_rfl) ?_
      repeat (first | refine seqQ_exit ?_ | refine loopQ_exit ?_ | refine cutQ_exit ?_ | refine blockQ_hit ?_ | refine blockQ_miss (by kernel_rfl) ?_)
      refine retQ_normal ?_
      repeat (first | refine seqQ_ret ?_ | refine blockQ_ret ?_ | refine loopQ_ret ?_ | refine cutQ_ret ?_)
      exact retT (rs := []) (vs := []) (by kernel_rfl) (trivial) (by kernel_rfl) ⟨rfl, h⟩
  · rintro e w' ⟨v, rfl, rfl, h⟩; exact ⟨rfl, h⟩

/-! ### (*towpath/ring.Ring[int]).Over (function 28) -/
noncomputable def c_ring_Ring_int_Over_0 : Code := (Try.f28.body).getD Code.skip
noncomputable def c_ring_Ring_int_Over_1 : Code := Code.l c_ring_Ring_int_Over_0
noncomputable def r_ring_Ring_int_Over_1 : Array Oper := Code.ops c_ring_Ring_int_Over_1
noncomputable def c_ring_Ring_int_Over_3 : Code := Code.r c_ring_Ring_int_Over_0
noncomputable def c_ring_Ring_int_Over_4 : Code := Code.l c_ring_Ring_int_Over_3
noncomputable def r_ring_Ring_int_Over_4 : Array Oper := Code.ops c_ring_Ring_int_Over_4
noncomputable def c_ring_Ring_int_Over_6 : Code := Code.r c_ring_Ring_int_Over_3

set_option maxRecDepth 100000 in
set_option maxHeartbeats 4000000 in
theorem S_ring_Ring_int_Over {r : Option Addr} {w : World} {R : Bool → World → Prop} (h : F_ring_Ring_int_Over r R w) : C_ring_Ring_int_Over r w R := by
  unfold F_ring_Ring_int_Over at h
  unfold C_ring_Ring_int_Over
  refine Calls.mono (calls_of_wpE (args := [Value.pointer r]) (R := fun v w' => ∃ (r0 : Bool), v = Value.bool r0 ∧ R r0 w') Try.func28 (c := c_ring_Ring_int_Over_0) (by kernel_rfl) 19 (by kernel_rfl) (by kernel_rfl) [(0, Value.pointer r)] (by kernel_rfl) ?_) ?_
  · refine wpE_seq (x := c_ring_Ring_int_Over_1) (y := c_ring_Ring_int_Over_3) (by kernel_rfl) ?_
    refine wpE_region (id := 0) (ops := r_ring_Ring_int_Over_1) (by kernel_rfl) ?_
    refine reg_run [.plain] 1 [(0, [], Value.pointer r)] (by kernel_rfl) (by kernel_rfl) ?_
    refine reg_end [(0, Value.pointer r)] (by kernel_rfl) (by kernel_rfl) ?_
    change WpE _ _ c_ring_Ring_int_Over_3 _ _ _
    refine wpE_seq (x := c_ring_Ring_int_Over_4) (y := c_ring_Ring_int_Over_6) (by kernel_rfl) ?_
    refine wpE_region (id := 1) (ops := r_ring_Ring_int_Over_4) (by kernel_rfl) ?_
    refine reg_run [.plain] 1 [(0, [], Value.pointer r), (3, [], Value.pointer r)] (by kernel_rfl) (by kernel_rfl) ?_
    refine reg_enter (op := (Go.Op.call (Go.Call.mk (Go.Callee.value (Go.Operand.func 48)) #[(Go.Operand.tmp 3)] #[36]))) (ty := 4) (dst := some 4) 48 #[Value.pointer r] (by kernel_rfl) (fun ww => by kernel_rfl) (Calls.mono h ?_)
    rintro _ w1 ⟨v4, rfl, h⟩
    refine ⟨_, rfl, ?_⟩
    refine reg_run [.plain, .plain, .plain] 5 [(0, [], Value.pointer r), (6, [], Value.bool (!v4)), (7, [(6, true)], Value.pointer r)] (by kernel_rfl) (by kernel_rfl) ?_
    refine reg_split 6 (!v4) (by kernel_rfl) (fun hb => ?_) (fun hb => ?_)
    · replace h := h.1 hb
      refine reg_run [] 5 [(0, [], Value.pointer r), (6, [], Value.bool true), (7, [], Value.pointer r)] (by kernel_rfl) (by kernel_rfl) ?_
      refine reg_run [] 5 [(0, [], Value.pointer r), (6, [], Value.bool true), (7, [], Value.pointer r)] (by kernel_rfl) (by kernel_rfl) ?_
      obtain ⟨hp_0, h⟩ := h
      refine reg_conv [(0, [], Value.pointer r), (6, [], Value.bool true), (7, [], Value.pointer (some ⟨(pblk r), (poff r), none⟩))] (congrArg (fun pp => ([(0, [], Value.pointer r), (6, [], Value.bool true), (7, [], Value.pointer pp)] : GEnv)) hp_0) ?_
      refine reg_run [.sure] 6 [(0, [], Value.pointer r), (6, [], Value.bool true), (7, [], Value.pointer (some ⟨(pblk r), (poff r), none⟩)), (8, [], Value.pointer (some ⟨(pblk r), (poff r), none⟩))] (by kernel_rfl) (by kernel_rfl) ?_
      refine reg_run [.sure] 7 [(0, [], Value.pointer r), (6, [], Value.bool true), (9, [], Value.pointer (some ⟨(pblk r), (poff r) + 3, none⟩))] (by kernel_rfl) (by kernel_rfl) ?_
      obtain ⟨v10, hc, h⟩ := h
      refine reg_load1 (t := 4) (a := (Go.Operand.tmp 9)) (b := (pblk r)) (o := ((poff r) + 3)) (ty := 4) (dst := some 10) (by kernel_rfl) (by kernel_rfl) (by kernel_rfl) hc ?_
      refine reg_run [.plain, .plain, .plain] 11 [(12, [], Value.bool v10), (13, [(12, true)], Value.pointer r)] (by kernel_rfl) (by kernel_rfl) ?_
      refine reg_split 12 v10 (by kernel_rfl) (fun hb => ?_) (fun hb => ?_)
      · replace h := h.1 hb
        refine reg_run [] 11 [(12, [], Value.bool true), (13, [], Value.pointer r)] (by kernel_rfl) (by kernel_rfl) ?_
        refine reg_run [] 11 [(12, [], Value.bool true), (13, [], Value.pointer r)] (by kernel_rfl) (by kernel_rfl) ?_
        obtain ⟨hp_1, h⟩ := h
        refine reg_conv [(12, [], Value.bool true), (13, [], Value.pointer (some ⟨(pblk r), (poff r), none⟩))] (congrArg (fun pp => ([(12, [], Value.bool true), (13, [], Value.pointer pp)] : GEnv)) hp_1) ?_
        refine reg_run [.sure] 12 [(12, [], Value.bool true), (13, [], Value.pointer (some ⟨(pblk r), (poff r), none⟩)), (14, [], Value.pointer (some ⟨(pblk r), (poff r), none⟩))] (by kernel_rfl) (by kernel_rfl) ?_
        refine reg_run [.sure] 13 [(12, [], Value.bool true), (15, [], Value.pointer (some ⟨(pblk r), (poff r) + 2, none⟩))] (by kernel_rfl) (by kernel_rfl) ?_
        obtain ⟨v16, hc, h⟩ := h
        refine reg_load1 (t := 3) (a := (Go.Operand.tmp 15)) (b := (pblk r)) (o := ((poff r) + 2)) (ty := 3) (dst := some 16) (by kernel_rfl) (by kernel_rfl) (by kernel_rfl) hc ?_
        refine reg_run [.sure, .plain, .plain] 17 [(2, [], Value.bool (v16 == 0))] (by kernel_rfl) (by kernel_rfl) ?_
        refine reg_end [(2, Value.bool (v16 == 0))] (by kernel_rfl) (by kernel_rfl) ?_
        change WpE _ _ c_ring_Ring_int_Over_6 _ _ _
        refine wpE_ret (by kernel_rfl) ?_
        repeat (first | refine seqQ_ret ?_ | refine blockQ_ret ?_ | refine loopQ_ret ?_ | refine cutQ_ret ?_)
        exact retS (rs := [(Go.ResultVar.tmp 2)]) (v := Value.bool (v16 == 0)) (by kernel_rfl) (⟨by kernel_rfl, trivial⟩) ⟨(v16 == 0), rfl, h⟩
      · replace h := h.2 hb
        refine reg_run [] 11 [(12, [], Value.bool false), (13, [], undef)] (by kernel_rfl) (by kernel_rfl) ?_
        refine reg_run [.skip, .skip, .skip, .skip, .plain, .plain] 17 [(2, [], Value.bool false)] (by kernel_rfl) (by kernel_rfl) ?_
        refine reg_end [(2, Value.bool false)] (by kernel_rfl) (by kernel_rfl) ?_
        change WpE _ _ c_ring_Ring_int_Over_6 _ _ _
        refine wpE_ret (by kernel_rfl) ?_
        repeat (first | refine seqQ_ret ?_ | refine blockQ_ret ?_ | refine loopQ_ret ?_ | refine cutQ_ret ?_)
        exact retS (rs := [(Go.ResultVar.tmp 2)]) (v := Value.bool false) (by kernel_rfl) (⟨by kernel_rfl, trivial⟩) ⟨false, rfl, h⟩
    · replace h := h.2 hb
      refine reg_run [] 5 [(0, [], Value.pointer r), (6, [], Value.bool false), (7, [], undef)] (by kernel_rfl) (by kernel_rfl) ?_
      refine reg_run [.skip, .skip, .skip, .plain, .plain, .skip, .skip, .skip, .skip, .skip, .plain, .plain] 17 [(2, [], Value.bool false)] (by kernel_rfl) (by kernel_rfl) ?_
      refine reg_end [(2, Value.bool false)] (by kernel_rfl) (by kernel_rfl) ?_
      change WpE _ _ c_ring_Ring_int_Over_6 _ _ _
      refine wpE_ret (by kernel_rfl) ?_
      repeat (first | refine seqQ_ret ?_ | refine blockQ_ret ?_ | refine loopQ_ret ?_ | refine cutQ_ret ?_)
      exact retS (rs := [(Go.ResultVar.tmp 2)]) (v := Value.bool false) (by kernel_rfl) (⟨by kernel_rfl, trivial⟩) ⟨false, rfl, h⟩
  · rintro e w' ⟨v, rfl, r0, rfl, h⟩; exact ⟨r0, rfl, h⟩

/-! ### (*towpath/ring.Ring[int]).All (function 42) -/
noncomputable def c_ring_Ring_int_All_0 : Code := (Try.f42.body).getD Code.skip
noncomputable def c_ring_Ring_int_All_1 : Code := Code.l c_ring_Ring_int_All_0
noncomputable def r_ring_Ring_int_All_1 : Array Oper := Code.ops c_ring_Ring_int_All_1
noncomputable def c_ring_Ring_int_All_3 : Code := Code.r c_ring_Ring_int_All_0
noncomputable def c_ring_Ring_int_All_4 : Code := Code.l c_ring_Ring_int_All_3
noncomputable def r_ring_Ring_int_All_4 : Array Oper := Code.ops c_ring_Ring_int_All_4
noncomputable def c_ring_Ring_int_All_6 : Code := Code.r c_ring_Ring_int_All_3

set_option maxRecDepth 100000 in
set_option maxHeartbeats 4000000 in
theorem S_ring_Ring_int_All {r : Option Addr} {w : World} {R : Value → World → Prop} (h : F_ring_Ring_int_All r R w) : C_ring_Ring_int_All r w R := by
  unfold F_ring_Ring_int_All at h
  unfold C_ring_Ring_int_All
  refine Calls.mono (calls_of_wpE (args := [Value.pointer r]) (R := fun v w' => ∃ (r0 : Value), v = r0 ∧ R r0 w') Try.func42 (c := c_ring_Ring_int_All_0) (by kernel_rfl) 4 (by kernel_rfl) (by kernel_rfl) [(0, Value.pointer r)] (by kernel_rfl) ?_) ?_
  · refine wpE_seq (x := c_ring_Ring_int_All_1) (y := c_ring_Ring_int_All_3) (by kernel_rfl) ?_
    refine wpE_region (id := 0) (ops := r_ring_Ring_int_All_1) (by kernel_rfl) ?_
    refine reg_run [] 0 [(0, [], Value.pointer r)] (by kernel_rfl) (by kernel_rfl) ?_
    refine reg_new (op := (Go.Op.box 36 (Go.Operand.tmp 0))) (ty := 0) (dst := some 1) (fun bb => Value.pointer (some ⟨bb, 0, none⟩)) (Obj.cells ([Value.pointer r]).toArray ty_ptr_ring_Ring_int (0, 0)) (by kernel_rfl) (by kernel_rfl) (fun b_ w1 hb hw => ?_)
    replace h := h b_ w1 hb hw
    clear hb hw
    refine reg_run [.plain] 2 [(1, [], Value.pointer (some ⟨b_, 0, none⟩))] (by kernel_rfl) (by kernel_rfl) ?_
    refine reg_end [(1, Value.pointer (some ⟨b_, 0, none⟩))] (by kernel_rfl) (by kernel_rfl) ?_
    change WpE _ _ c_ring_Ring_int_All_3 _ _ _
    refine wpE_seq (x := c_ring_Ring_int_All_4) (y := c_ring_Ring_int_All_6) (by kernel_rfl) ?_
    refine wpE_region (id := 1) (ops := r_ring_Ring_int_All_4) (by kernel_rfl) ?_
    refine reg_run [.plain, .plain] 2 [(2, [], Value.func (.func 59) #[] #[Value.pointer (some ⟨b_, 0, none⟩)])] (by kernel_rfl) (by kernel_rfl) ?_
    refine reg_end [(2, Value.func (.func 59) #[] #[Value.pointer (some ⟨b_, 0, none⟩)])] (by kernel_rfl) (by kernel_rfl) ?_
    change WpE _ _ c_ring_Ring_int_All_6 _ _ _
    refine wpE_ret (by kernel_rfl) ?_
    repeat (first | refine seqQ_ret ?_ | refine blockQ_ret ?_ | refine loopQ_ret ?_ | refine cutQ_ret ?_)
    exact retS (rs := [(Go.ResultVar.tmp 2)]) (v := Value.func (.func 59) #[] #[Value.pointer (some ⟨b_, 0, none⟩)]) (by kernel_rfl) (⟨by kernel_rfl, trivial⟩) ⟨(Value.func (.func 59) #[] #[Value.pointer (some ⟨b_, 0, none⟩)]), rfl, h⟩
  · rintro e w' ⟨v, rfl, r0, rfl, h⟩; exact ⟨_, rfl, h⟩

/-! ### (*towpath/ring.Ring[int]).First (function 47) -/
noncomputable def c_ring_Ring_int_First_0 : Code := (Try.f47.body).getD Code.skip
noncomputable def c_ring_Ring_int_First_1 : Code := Code.l c_ring_Ring_int_First_0
noncomputable def r_ring_Ring_int_First_1 : Array Oper := Code.ops c_ring_Ring_int_First_1
noncomputable def c_ring_Ring_int_First_3 : Code := Code.r c_ring_Ring_int_First_0
noncomputable def c_ring_Ring_int_First_4 : Code := Code.l c_ring_Ring_int_First_3
noncomputable def c_ring_Ring_int_First_5 : Code := Code.l c_ring_Ring_int_First_4
noncomputable def r_ring_Ring_int_First_5 : Array Oper := Code.ops c_ring_Ring_int_First_5
noncomputable def c_ring_Ring_int_First_7 : Code := Code.r c_ring_Ring_int_First_4
noncomputable def c_ring_Ring_int_First_8 : Code := Code.l c_ring_Ring_int_First_7
noncomputable def c_ring_Ring_int_First_9 : Code := Code.l c_ring_Ring_int_First_8
noncomputable def r_ring_Ring_int_First_9 : Array Oper := Code.ops c_ring_Ring_int_First_9
noncomputable def c_ring_Ring_int_First_11 : Code := Code.r c_ring_Ring_int_First_8
noncomputable def c_ring_Ring_int_First_12 : Code := Code.r c_ring_Ring_int_First_7
noncomputable def c_ring_Ring_int_First_13 : Code := Code.r c_ring_Ring_int_First_3
noncomputable def c_ring_Ring_int_First_14 : Code := Code.l c_ring_Ring_int_First_13
noncomputable def r_ring_Ring_int_First_14 : Array Oper := Code.ops c_ring_Ring_int_First_14
noncomputable def c_ring_Ring_int_First_16 : Code := Code.r c_ring_Ring_int_First_13

set_option maxRecDepth 100000 in
set_option maxHeartbeats 4000000 in
theorem S_ring_Ring_int_First {r : Option Addr} {w : World} {R : Int → Bool → World → Prop} (h : F_ring_Ring_int_First r R w) : C_ring_Ring_int_First r w R := by
  unfold F_ring_Ring_int_First at h
  unfold C_ring_Ring_int_First
  refine Calls.mono (calls_of_wpE (args := [Value.pointer r]) (R := fun v w' => ∃ (r0 : Int) (r1 : Bool), v = Value.tuple #[Value.int .i64 r0, Value.bool r1] ∧ R r0 r1 w') Try.func47 (c := c_ring_Ring_int_First_0) (by kernel_rfl) 18 (by kernel_rfl) (by kernel_rfl) [(0, Value.pointer r)] (by kernel_rfl) ?_) ?_
  · refine wpE_seq (x := c_ring_Ring_int_First_1) (y := c_ring_Ring_int_First_3) (by kernel_rfl) ?_
    refine wpE_region (id := 0) (ops := r_ring_Ring_int_First_1) (by kernel_rfl) ?_
    refine reg_run [.plain, .plain] 2 [(0, [], Value.pointer r), (2, [], Value.int .i64 0)] (by kernel_rfl) (by kernel_rfl) ?_
    refine reg_end [(0, Value.pointer r), (2, Value.int .i64 0)] (by kernel_rfl) (by kernel_rfl) ?_
    change WpE _ _ c_ring_Ring_int_First_3 _ _ _
    refine wpE_seq (x := c_ring_Ring_int_First_4) (y := c_ring_Ring_int_First_13) (by kernel_rfl) ?_
    refine wpE_seq (x := c_ring_Ring_int_First_5) (y := c_ring_Ring_int_First_7) (by kernel_rfl) ?_
    refine wpE_region (id := 1) (ops := r_ring_Ring_int_First_5) (by kernel_rfl) ?_
    refine reg_run [.plain] 1 [(0, [], Value.pointer r), (2, [], Value.int .i64 0), (4, [], Value.pointer r)] (by kernel_rfl) (by kernel_rfl) ?_
    refine reg_enter (op := (Go.Op.call (Go.Call.mk (Go.Callee.value (Go.Operand.func 25)) #[(Go.Operand.tmp 4)] #[36]))) (ty := 3) (dst := some 5) 25 #[Value.pointer r] (by kernel_rfl) (fun ww => by kernel_rfl) (Calls.mono h ?_)
    rintro _ w1 ⟨v5, rfl, h⟩
    refine ⟨_, rfl, ?_⟩
    refine reg_run [.plain] 3 [(0, [], Value.pointer r), (2, [], Value.int .i64 0), (6, [], Value.bool (v5 == 0))] (by kernel_rfl) (by kernel_rfl) ?_
    refine reg_end [(0, Value.pointer r), (2, Value.int .i64 0), (6, Value.bool (v5 == 0))] (by kernel_rfl) (by kernel_rfl) ?_
    change WpE _ _ c_ring_Ring_int_First_7 _ _ _
    refine wpE_cond (o := (Operand.tmp 6)) (b := (v5 == 0)) (x := c_ring_Ring_int_First_8) (y := c_ring_Ring_int_First_12) (by kernel_rfl) (by kernel_rfl) (fun hb => ?_) (fun hb => ?_)
    · replace h := h.1 hb
      refine wpE_seq (x := c_ring_Ring_int_First_9) (y := c_ring_Ring_int_First_11) (by kernel_rfl) ?_
      refine wpE_region (id := 2) (ops := r_ring_Ring_int_First_9) (by kernel_rfl) ?_
      refine reg_run [.plain, .plain, .plain] 3 [(2, [], Value.int .i64 0), (3, [], Value.bool false)] (by kernel_rfl) (by kernel_rfl) ?_
      refine reg_end [(2, Value.int .i64 0), (3, Value.bool false)] (by kernel_rfl) (by kernel_rfl) ?_
      change WpE _ _ c_ring_Ring_int_First_11 _ _ _
      refine wpE_ret (by kernel_rfl) ?_
      repeat (first | refine seqQ_ret ?_ | refine blockQ_ret ?_ | refine loopQ_ret ?_ | refine cutQ_ret ?_)
      exact retT (rs := [(Go.ResultVar.tmp 2), (Go.ResultVar.tmp 3)]) (vs := [Value.int .i64 0, Value.bool false]) (by kernel_rfl) (⟨by kernel_rfl, ⟨by kernel_rfl, trivial⟩⟩) (by kernel_rfl) ⟨0, false, rfl, h⟩
    · replace h := h.2 hb
      refine wpE_skip (by kernel_rfl) ?_
      change WpE _ _ c_ring_Ring_int_First_13 _ _ _
      refine wpE_seq (x := c_ring_Ring_int_First_14) (y := c_ring_Ring_int_First_16) (by kernel_rfl) ?_
      refine wpE_drawregion (id := 3) (ops := r_ring_Ring_int_First_14) (by kernel_rfl) (by kernel_rfl) (by kernel_rfl) ?_
      refine qreg_run [.plain] 1 [(0, [], Value.pointer r), (2, [], Value.int .i64 0), (8, [], Value.pointer r)] (by kernel_rfl) (by kernel_rfl) ?_
      obtain ⟨hp_0, h⟩ := h
      refine qreg_conv [(0, [], Value.pointer r), (2, [], Value.int .i64 0), (8, [], Value.pointer (some ⟨(pblk r), (poff r), none⟩))] (congrArg (fun pp => ([(0, [], Value.pointer r), (2, [], Value.int .i64 0), (8, [], Value.pointer pp)] : GEnv)) hp_0) ?_
      refine qreg_run [.plain] 2 [(0, [], Value.pointer r), (2, [], Value.int .i64 0), (8, [], Value.pointer (some ⟨(pblk r), (poff r), none⟩)), (9, [], Value.pointer (some ⟨(pblk r), (poff r), none⟩))] (by kernel_rfl) (by kernel_rfl) ?_
      refine qreg_run [.plain] 3 [(0, [], Value.pointer r), (2, [], Value.int .i64 0), (10, [], Value.pointer (some ⟨(pblk r), (poff r), none⟩))] (by kernel_rfl) (by kernel_rfl) ?_
      obtain ⟨v11, hc, h⟩ := h
      refine qreg_load1 (t := 49) (a := (Go.Operand.tmp 10)) (b := (pblk r)) (o := (poff r)) (ty := 49) (dst := some 11) (by kernel_rfl) (by kernel_rfl) (by kernel_rfl) hc ?_
      refine qreg_run [.plain] 5 [(2, [], Value.int .i64 0), (11, [], Value.slice v11.ptr v11.len v11.cap), (12, [], Value.pointer r)] (by kernel_rfl) (by kernel_rfl) ?_
      obtain ⟨hp_1, h⟩ := h
      refine qreg_conv [(2, [], Value.int .i64 0), (11, [], Value.slice v11.ptr v11.len v11.cap), (12, [], Value.pointer (some ⟨(pblk r), (poff r), none⟩))] (congrArg (fun pp => ([(2, [], Value.int .i64 0), (11, [], Value.slice v11.ptr v11.len v11.cap), (12, [], Value.pointer pp)] : GEnv)) hp_1) ?_
      refine qreg_run [.plain] 6 [(2, [], Value.int .i64 0), (11, [], Value.slice v11.ptr v11.len v11.cap), (12, [], Value.pointer (some ⟨(pblk r), (poff r), none⟩)), (13, [], Value.pointer (some ⟨(pblk r), (poff r), none⟩))] (by kernel_rfl) (by kernel_rfl) ?_
      refine qreg_run [.plain] 7 [(2, [], Value.int .i64 0), (11, [], Value.slice v11.ptr v11.len v11.cap), (14, [], Value.pointer (some ⟨(pblk r), (poff r) + 1, none⟩))] (by kernel_rfl) (by kernel_rfl) ?_
      obtain ⟨v15, hc, h⟩ := h
      refine qreg_load1 (t := 3) (a := (Go.Operand.tmp 14)) (b := (pblk r)) (o := ((poff r) + 1)) (ty := 3) (dst := some 15) (by kernel_rfl) (by kernel_rfl) (by kernel_rfl) hc ?_
      refine qreg_run [] 8 [(2, [], Value.int .i64 0), (11, [], Value.slice v11.ptr v11.len v11.cap), (15, [], Value.int .i64 v15)] (by kernel_rfl) (by kernel_rfl) ?_
      obtain ⟨hp_2, h⟩ := h
      refine qreg_conv [(2, [], Value.int .i64 0), (11, [], Value.slice (some ⟨(pblk v11.ptr), (poff v11.ptr), none⟩) v11.len v11.cap), (15, [], Value.int .i64 v15)] (congrArg (fun pp => ([(2, [], Value.int .i64 0), (11, [], Value.slice pp v11.len v11.cap), (15, [], Value.int .i64 v15)] : GEnv)) hp_2) ?_
      obtain ⟨h0, h1, h⟩ := h
      refine qreg_indexS1 (t := 49) (e := 3) (x := (Go.Operand.tmp 11)) (ix := (Go.Operand.tmp 15)) (b := (pblk v11.ptr)) (o := (poff v11.ptr)) (l := v11.len) (c := v11.cap) (k := .i64) (j := v15) (ty := 0) (dst := some 16) (by kernel_rfl) (by kernel_rfl) (by kernel_rfl) (by kernel_rfl) (by kernel_rfl) h0 h1 ?_
      refine qreg_run [] 9 [(2, [], Value.int .i64 0), (16, [], Value.pointer (some ⟨(pblk v11.ptr), (poff v11.ptr) + v15.toNat, none⟩))] (by kernel_rfl) (by kernel_rfl) ?_
      obtain ⟨x, hc, h⟩ := h
      refine qreg_load1 (t := 3) (a := (Go.Operand.tmp 16)) (b := (pblk v11.ptr)) (o := ((poff v11.ptr) + v15.toNat)) (ty := 3) (dst := some 17) (by kernel_rfl) (by kernel_rfl) (by kernel_rfl) hc ?_
      refine qreg_run [.plain, .plain] 12 [(2, [], Value.int .i64 x), (3, [], Value.bool true)] (by kernel_rfl) (by kernel_rfl) ?_
      refine qreg_end [(2, Value.int .i64 x), (3, Value.bool true)] (by kernel_rfl) (by kernel_rfl) (fun w2 hw => ?_)
      replace h := h w2 hw
      clear hw
      change WpE _ _ c_ring_Ring_int_First_16 _ _ _
      refine wpE_ret (by kernel_rfl) ?_
      repeat (first | refine seqQ_ret ?_ | refine blockQ_ret ?_ | refine loopQ_ret ?_ | refine cutQ_ret ?_)
      exact retT (rs := [(Go.ResultVar.tmp 2), (Go.ResultVar.tmp 3)]) (vs := [Value.int .i64 x, Value.bool true]) (by kernel_rfl) (⟨by kernel_rfl, ⟨by kernel_rfl, trivial⟩⟩) (by kernel_rfl) ⟨x, true, rfl, h⟩
  · rintro e w' ⟨v, rfl, r0, r1, rfl, h⟩; exact ⟨r0, r1, rfl, h⟩

/-! ### (*towpath/ring.Ring[int]).gone (function 48) -/
noncomputable def c_ring_Ring_int_gone_0 : Code := (Try.f48.body).getD Code.skip
noncomputable def c_ring_Ring_int_gone_1 : Code := Code.l c_ring_Ring_int_gone_0
noncomputable def r_ring_Ring_int_gone_1 : Array Oper := Code.ops c_ring_Ring_int_gone_1
noncomputable def c_ring_Ring_int_gone_3 : Code := Code.r c_ring_Ring_int_gone_0
noncomputable def c_ring_Ring_int_gone_4 : Code := Code.l c_ring_Ring_int_gone_3
noncomputable def r_ring_Ring_int_gone_4 : Array Oper := Code.ops c_ring_Ring_int_gone_4
noncomputable def c_ring_Ring_int_gone_6 : Code := Code.r c_ring_Ring_int_gone_3

set_option maxRecDepth 100000 in
set_option maxHeartbeats 4000000 in
theorem S_ring_Ring_int_gone {r : Option Addr} {w : World} {R : Bool → World → Prop} (h : F_ring_Ring_int_gone r R w) : C_ring_Ring_int_gone r w R := by
  unfold F_ring_Ring_int_gone at h
  unfold C_ring_Ring_int_gone
  refine Calls.mono (calls_of_wpE (args := [Value.pointer r]) (R := fun v w' => ∃ (r0 : Bool), v = Value.bool r0 ∧ R r0 w') Try.func48 (c := c_ring_Ring_int_gone_0) (by kernel_rfl) 12 (by kernel_rfl) (by kernel_rfl) [(0, Value.pointer r)] (by kernel_rfl) ?_) ?_
  · refine wpE_seq (x := c_ring_Ring_int_gone_1) (y := c_ring_Ring_int_gone_3) (by kernel_rfl) ?_
    refine wpE_region (id := 0) (ops := r_ring_Ring_int_gone_1) (by kernel_rfl) ?_
    refine reg_run [.plain] 1 [(0, [], Value.pointer r)] (by kernel_rfl) (by kernel_rfl) ?_
    refine reg_end [(0, Value.pointer r)] (by kernel_rfl) (by kernel_rfl) ?_
    change WpE _ _ c_ring_Ring_int_gone_3 _ _ _
    refine wpE_seq (x := c_ring_Ring_int_gone_4) (y := c_ring_Ring_int_gone_6) (by kernel_rfl) ?_
    refine wpE_region (id := 1) (ops := r_ring_Ring_int_gone_4) (by kernel_rfl) ?_
    refine reg_run [.plain] 1 [(0, [], Value.pointer r), (3, [], Value.pointer r)] (by kernel_rfl) (by kernel_rfl) ?_
    refine reg_val (op := (Go.Op.binOp Go.BinOp.eql 36 (Go.Operand.tmp 3) (Go.Operand.const (Go.Value.pointer none)) 36)) (ty := 4) (dst := some 4) (Value.bool r.isNone) (by kernel_rfl) (fun ww => run_ptr_eql_R (p := r) (by kernel_rfl) (by kernel_rfl) (by kernel_rfl) ww) ?_
    refine reg_run [.plain, .plain] 4 [(5, [], Value.bool r.isNone), (6, [(5, false)], Value.pointer r)] (by kernel_rfl) (by kernel_rfl) ?_
    refine reg_split 5 r.isNone (by kernel_rfl) (fun hb => ?_) (fun hb => ?_)
    · replace h := h.1 hb
      refine reg_run [] 4 [(5, [], Value.bool true), (6, [], undef)] (by kernel_rfl) (by kernel_rfl) ?_
      refine reg_run [.skip, .skip, .skip, .skip, .plain, .plain] 10 [(2, [], Value.bool true)] (by kernel_rfl) (by kernel_rfl) ?_
      refine reg_end [(2, Value.bool true)] (by kernel_rfl) (by kernel_rfl) ?_
      change WpE _ _ c_ring_Ring_int_gone_6 _ _ _
      refine wpE_ret (by kernel_rfl) ?_
      repeat (first | refine seqQ_ret ?_ | refine blockQ_ret ?_ | refine loopQ_ret ?_ | refine cutQ_ret ?_)
      exact retS (rs := [(Go.ResultVar.tmp 2)]) (v := Value.bool true) (by kernel_rfl) (⟨by kernel_rfl, trivial⟩) ⟨true, rfl, h⟩
    · replace h := h.2 hb
      refine reg_run [] 4 [(5, [], Value.bool false), (6, [], Value.pointer r)] (by kernel_rfl) (by kernel_rfl) ?_
      refine reg_run [] 4 [(5, [], Value.bool false), (6, [], Value.pointer r)] (by kernel_rfl) (by kernel_rfl) ?_
      obtain ⟨hp_0, h⟩ := h
      refine reg_conv [(5, [], Value.bool false), (6, [], Value.pointer (some ⟨(pblk r), (poff r), none⟩))] (congrArg (fun pp => ([(5, [], Value.bool false), (6, [], Value.pointer pp)] : GEnv)) hp_0) ?_
      refine reg_run [.sure] 5 [(5, [], Value.bool false), (6, [], Value.pointer (some ⟨(pblk r), (poff r), none⟩)), (7, [], Value.pointer (some ⟨(pblk r), (poff r), none⟩))] (by kernel_rfl) (by kernel_rfl) ?_
      refine reg_run [.sure] 6 [(5, [], Value.bool false), (8, [], Value.pointer (some ⟨(pblk r), (poff r), none⟩))] (by kernel_rfl) (by kernel_rfl) ?_
      obtain ⟨v9, hc, h⟩ := h
      refine reg_load1 (t := 49) (a := (Go.Operand.tmp 8)) (b := (pblk r)) (o := (poff r)) (ty := 49) (dst := some 9) (by kernel_rfl) (by kernel_rfl) (by kernel_rfl) hc ?_
      refine reg_run [] 7 [(5, [], Value.bool false), (9, [], Value.slice v9.ptr v9.len v9.cap)] (by kernel_rfl) (by kernel_rfl) ?_
      refine reg_val (op := (Go.Op.binOp Go.BinOp.eql 49 (Go.Operand.tmp 9) (Go.Operand.const (Go.Value.slice none 0 0)) 49)) (ty := 4) (dst := some 10) (Value.bool v9.ptr.isNone) (by kernel_rfl) (fun ww => run_slice_eql_R (p := v9.ptr) (l := v9.len) (c := v9.cap) (by kernel_rfl) (by kernel_rfl) (by kernel_rfl) ww) ?_
      refine reg_run [.plain, .plain] 10 [(2, [], Value.bool v9.ptr.isNone)] (by kernel_rfl) (by kernel_rfl) ?_
      refine reg_end [(2, Value.bool v9.ptr.isNone)] (by kernel_rfl) (by kernel_rfl) ?_
      change WpE _ _ c_ring_Ring_int_gone_6 _ _ _
      refine wpE_ret (by kernel_rfl) ?_
      repeat (first | refine seqQ_ret ?_ | refine blockQ_ret ?_ | refine loopQ_ret ?_ | refine cutQ_ret ?_)
      exact retS (rs := [(Go.ResultVar.tmp 2)]) (v := Value.bool v9.ptr.isNone) (by kernel_rfl) (⟨by kernel_rfl, trivial⟩) ⟨v9.ptr.isNone, rfl, h⟩
  · rintro e w' ⟨v, rfl, r0, rfl, h⟩; exact ⟨r0, rfl, h⟩

/-! ### (*towpath/ring.Ring[int]).All$1 (function 59) -/
noncomputable def c_ring_Ring_int_All_1_0 : Code := (Try.f59.body).getD Code.skip
noncomputable def c_ring_Ring_int_All_1_1 : Code := Code.l c_ring_Ring_int_All_1_0
noncomputable def r_ring_Ring_int_All_1_1 : Array Oper := Code.ops c_ring_Ring_int_All_1_1
noncomputable def c_ring_Ring_int_All_1_3 : Code := Code.r c_ring_Ring_int_All_1_0
noncomputable def c_ring_Ring_int_All_1_4 : Code := Code.l c_ring_Ring_int_All_1_3
noncomputable def c_ring_Ring_int_All_1_5 : Code := Code.l c_ring_Ring_int_All_1_4
noncomputable def c_ring_Ring_int_All_1_6 : Code := Code.l c_ring_Ring_int_All_1_5
noncomputable def r_ring_Ring_int_All_1_6 : Array Oper := Code.ops c_ring_Ring_int_All_1_6
noncomputable def c_ring_Ring_int_All_1_8 : Code := Code.r c_ring_Ring_int_All_1_5
noncomputable def c_ring_Ring_int_All_1_9 : Code := Code.l c_ring_Ring_int_All_1_8
noncomputable def c_ring_Ring_int_All_1_10 : Code := Code.l c_ring_Ring_int_All_1_9
noncomputable def c_ring_Ring_int_All_1_11 : Code := Code.r c_ring_Ring_int_All_1_9
noncomputable def c_ring_Ring_int_All_1_12 : Code := Code.r c_ring_Ring_int_All_1_8
noncomputable def c_ring_Ring_int_All_1_13 : Code := Code.l c_ring_Ring_int_All_1_12
noncomputable def c_ring_Ring_int_All_1_14 : Code := Code.l c_ring_Ring_int_All_1_13
noncomputable def c_ring_Ring_int_All_1_15 : Code := Code.l c_ring_Ring_int_All_1_14
noncomputable def r_ring_Ring_int_All_1_15 : Array Oper := Code.ops c_ring_Ring_int_All_1_15
noncomputable def c_ring_Ring_int_All_1_17 : Code := Code.r c_ring_Ring_int_All_1_14
noncomputable def c_ring_Ring_int_All_1_18 : Code := Code.l c_ring_Ring_int_All_1_17
noncomputable def r_ring_Ring_int_All_1_18 : Array Oper := Code.ops c_ring_Ring_int_All_1_18
noncomputable def c_ring_Ring_int_All_1_20 : Code := Code.r c_ring_Ring_int_All_1_17
noncomputable def c_ring_Ring_int_All_1_21 : Code := Code.l c_ring_Ring_int_All_1_20
noncomputable def c_ring_Ring_int_All_1_22 : Code := Code.r c_ring_Ring_int_All_1_20
noncomputable def c_ring_Ring_int_All_1_23 : Code := Code.r c_ring_Ring_int_All_1_12
noncomputable def r_ring_Ring_int_All_1_23 : Array Oper := Code.ops c_ring_Ring_int_All_1_23

set_option maxRecDepth 100000 in
set_option maxHeartbeats 4000000 in
theorem S_ring_Ring_int_All_1 {yield : Value} {t1 : Option Addr} {w : World} {R : World → Prop} (h : F_ring_Ring_int_All_1 yield t1 R w) : C_ring_Ring_int_All_1 yield t1 w R := by
  unfold F_ring_Ring_int_All_1 at h
  unfold C_ring_Ring_int_All_1
  refine Calls.mono (calls_of_wpY (args := [yield, Value.pointer t1]) (R := fun v w' => v = Value.tuple #[] ∧ R w') Try.func59 (c := c_ring_Ring_int_All_1_0) (by kernel_rfl) 17 (by kernel_rfl) (by kernel_rfl) [(0, yield), (1, Value.pointer t1)] (by kernel_rfl) ?_) ?_
  · letI : Rnd := rndY Try.prog Try.f59 (fun v w' => v = Value.tuple #[] ∧ R w')
    refine wpE_seq (x := c_ring_Ring_int_All_1_1) (y := c_ring_Ring_int_All_1_3) (by kernel_rfl) ?_
    refine wpE_region (id := 0) (ops := r_ring_Ring_int_All_1_1) (by kernel_rfl) ?_
    refine reg_run [] 0 [(0, [], yield), (1, [], Value.pointer t1)] (by kernel_rfl) (by kernel_rfl) ?_
    obtain ⟨hp_1, h⟩ := h
    refine reg_conv [(0, [], yield), (1, [], Value.pointer (some ⟨(pblk t1), (poff t1), none⟩))] (congrArg (fun pp => ([(0, [], yield), (1, [], Value.pointer pp)] : GEnv)) hp_1) ?_
    obtain ⟨v5, hc, h⟩ := h
    refine reg_load1 (t := 36) (a := (Go.Operand.tmp 1)) (b := (pblk t1)) (o := (poff t1)) (ty := 36) (dst := some 5) (by kernel_rfl) (by kernel_rfl) (by kernel_rfl) hc ?_
    refine reg_run [] 1 [(0, [], yield), (5, [], Value.pointer v5)] (by kernel_rfl) (by kernel_rfl) ?_
    refine reg_enter (op := (Go.Op.call (Go.Call.mk (Go.Callee.value (Go.Operand.func 60)) #[(Go.Operand.tmp 5)] #[36]))) (ty := 49) (dst := some 6) 60 #[Value.pointer v5] (by kernel_rfl) (fun ww => by kernel_rfl) (Calls.mono h ?_)
    rintro _ w1 ⟨v6, rfl, h⟩
    refine ⟨_, rfl, ?_⟩
    refine reg_run [.plain, .plain] 4 [(0, [], yield), (6, [], Value.slice v6.ptr v6.len v6.cap), (7, [], Value.int .i64 ((v6.len : Nat) : Int)), (8, [], Value.int .i64 0)] (by kernel_rfl) (by kernel_rfl) ?_
    refine reg_end [(0, yield), (6, Value.slice v6.ptr v6.len v6.cap), (7, Value.int .i64 ((v6.len : Nat) : Int)), (8, Value.int .i64 0)] (by kernel_rfl) (by kernel_rfl) ?_
    change WpE _ _ c_ring_Ring_int_All_1_3 _ _ _
    refine wpE_block (id := 0) (x := c_ring_Ring_int_All_1_4) (by kernel_rfl) ?_
    obtain ⟨I, μ, h0, hr⟩ := h
    refine wpE_loop (x := c_ring_Ring_int_All_1_5) (by kernel_rfl) (fun m l w => ∃ (t8 : Int), l = [(0, yield), (6, Value.slice v6.ptr v6.len v6.cap), (7, Value.int .i64 ((v6.len : Nat) : Int)), (8, Value.int .i64 t8)] ∧ I t8 w ∧ μ t8 w = m) (l' := [(0, yield), (6, Value.slice v6.ptr v6.len v6.cap), (7, Value.int .i64 ((v6.len : Nat) : Int)), (8, Value.int .i64 0)]) (Sub.mk (by kernel_rfl)) ⟨0, rfl, h0, rfl⟩ ?_
    rintro _ _ w2 ⟨t8, rfl, hI, rfl⟩
    obtain ⟨again_, again__h, h⟩ : ∃ again_ : Int → World → Prop, (∀ t8' w', again_ t8' w' → I t8' w' ∧ μ t8' w' < μ t8 w2) ∧ F_ring_Ring_int_All_1_L0 yield R v6 again_ t8 w2 := ⟨_, fun _ _ h => h, hr t8 w2 hI⟩
    clear h0 hI
    unfold F_ring_Ring_int_All_1_L0 at h
    refine wpE_seq (x := c_ring_Ring_int_All_1_6) (y := c_ring_Ring_int_All_1_8) (by kernel_rfl) ?_
    refine wpE_region (id := 1) (ops := r_ring_Ring_int_All_1_6) (by kernel_rfl) ?_
    refine reg_run [.plain] 1 [(0, [], yield), (6, [], Value.slice v6.ptr v6.len v6.cap), (7, [], Value.int .i64 ((v6.len : Nat) : Int)), (8, [], Value.int .i64 t8), (9, [], Value.bool (decide (t8 < ((v6.len : Nat) : Int))))] (by kernel_rfl) (by kernel_rfl) ?_
    refine reg_end [(0, yield), (6, Value.slice v6.ptr v6.len v6.cap), (7, Value.int .i64 ((v6.len : Nat) : Int)), (8, Value.int .i64 t8), (9, Value.bool (decide (t8 < ((v6.len : Nat) : Int))))] (by kernel_rfl) (by kernel_rfl) ?_
    change WpE _ _ c_ring_Ring_int_All_1_8 _ _ _
    refine wpE_seq (x := c_ring_Ring_int_All_1_9) (y := c_ring_Ring_int_All_1_12) (by kernel_rfl) ?_
    refine wpE_cond (o := (Operand.tmp 9)) (b := (decide (t8 < ((v6.len : Nat) : Int)))) (x := c_ring_Ring_int_All_1_10) (y := c_ring_Ring_int_All_1_11) (by kernel_rfl) (by kernel_rfl) (fun hb => ?_) (fun hb => ?_)
    · replace h := h.1 hb
      refine wpE_skip (by kernel_rfl) ?_
      change WpE _ _ c_ring_Ring_int_All_1_12 _ _ _
      refine wpE_seq (x := c_ring_Ring_int_All_1_13) (y := c_ring_Ring_int_All_1_23) (by kernel_rfl) ?_
      refine wpE_block (id := 1) (x := c_ring_Ring_int_All_1_14) (by kernel_rfl) ?_
      refine wpE_seq (x := c_ring_Ring_int_All_1_15) (y := c_ring_Ring_int_All_1_17) (by kernel_rfl) ?_
      refine wpE_region (id := 2) (ops := r_ring_Ring_int_All_1_15) (by kernel_rfl) ?_
      refine reg_run [] 0 [(0, [], yield), (6, [], Value.slice v6.ptr v6.len v6.cap), (7, [], Value.int .i64 ((v6.len : Nat) : Int)), (8, [], Value.int .i64 t8)] (by kernel_rfl) (by kernel_rfl) ?_
      obtain ⟨hp_5, h⟩ := h
      refine reg_conv [(0, [], yield), (6, [], Value.slice (some ⟨(pblk v6.ptr), (poff v6.ptr), none⟩) v6.len v6.cap), (7, [], Value.int .i64 ((v6.len : Nat) : Int)), (8, [], Value.int .i64 t8)] (congrArg (fun pp => ([(0, [], yield), (6, [], Value.slice pp v6.len v6.cap), (7, [], Value.int .i64 ((v6.len : Nat) : Int)), (8, [], Value.int .i64 t8)] : GEnv)) hp_5) ?_
      obtain ⟨h0, h1, h⟩ := h
      refine reg_indexS1 (t := 49) (e := 3) (x := (Go.Operand.tmp 6)) (ix := (Go.Operand.tmp 8)) (b := (pblk v6.ptr)) (o := (poff v6.ptr)) (l := v6.len) (c := v6.cap) (k := .i64) (j := t8) (ty := 0) (dst := some 10) (by kernel_rfl) (by kernel_rfl) (by kernel_rfl) (by kernel_rfl) (by kernel_rfl) h0 h1 ?_
      refine reg_run [] 1 [(0, [], yield), (6, [], Value.slice (some ⟨(pblk v6.ptr), (poff v6.ptr), none⟩) v6.len v6.cap), (7, [], Value.int .i64 ((v6.len : Nat) : Int)), (8, [], Value.int .i64 t8), (10, [], Value.pointer (some ⟨(pblk v6.ptr), (poff v6.ptr) + t8.toNat, none⟩))] (by kernel_rfl) (by kernel_rfl) ?_
      obtain ⟨x, hc, h⟩ := h
      refine reg_load1 (t := 3) (a := (Go.Operand.tmp 10)) (b := (pblk v6.ptr)) (o := ((poff v6.ptr) + t8.toNat)) (ty := 3) (dst := some 11) (by kernel_rfl) (by kernel_rfl) (by kernel_rfl) hc ?_
      refine reg_run [.plain] 3 [(0, [], yield), (4, [], Value.int .i64 x), (6, [], Value.slice (some ⟨(pblk v6.ptr), (poff v6.ptr), none⟩) v6.len v6.cap), (7, [], Value.int .i64 ((v6.len : Nat) : Int)), (8, [], Value.int .i64 t8)] (by kernel_rfl) (by kernel_rfl) ?_
      refine reg_conv [(0, [], yield), (4, [], Value.int .i64 x), (6, [], Value.slice v6.ptr v6.len v6.cap), (7, [], Value.int .i64 ((v6.len : Nat) : Int)), (8, [], Value.int .i64 t8)] (congrArg (fun pp => ([(0, [], yield), (4, [], Value.int .i64 x), (6, [], Value.slice pp v6.len v6.cap), (7, [], Value.int .i64 ((v6.len : Nat) : Int)), (8, [], Value.int .i64 t8)] : GEnv)) hp_5.symm) ?_
      refine reg_end [(0, yield), (4, Value.int .i64 x), (6, Value.slice v6.ptr v6.len v6.cap), (7, Value.int .i64 ((v6.len : Nat) : Int)), (8, Value.int .i64 t8)] (by kernel_rfl) (by kernel_rfl) ?_
      change WpE _ _ c_ring_Ring_int_All_1_17 _ _ _
      refine wpE_seq (x := c_ring_Ring_int_All_1_18) (y := c_ring_Ring_int_All_1_20) (by kernel_rfl) ?_
      refine wpE_region (id := 3) (ops := r_ring_Ring_int_All_1_18) (by kernel_rfl) ?_
      refine reg_run [.plain, .plain] 2 [(0, [], yield), (6, [], Value.slice v6.ptr v6.len v6.cap), (7, [], Value.int .i64 ((v6.len : Nat) : Int)), (8, [], Value.int .i64 t8), (12, [], yield), (13, [], Value.int .i64 x)] (by kernel_rfl) (by kernel_rfl) ?_
      refine reg_enterY rfl (fo := (Go.Operand.tmp 12)) (aa := #[(Go.Operand.tmp 13)]) (ts := #[3]) (fv := yield) (ty := 4) (dst := some 14) #[Value.int .i64 x] (by kernel_rfl) (by kernel_rfl) (by kernel_rfl) (CallsY.mono h ?_)
      rintro _ w3 ⟨v14, rfl, h⟩
      refine ⟨_, rfl, ?_⟩
      refine reg_run [.plain] 4 [(0, [], yield), (6, [], Value.slice v6.ptr v6.len v6.cap), (7, [], Value.int .i64 ((v6.len : Nat) : Int)), (8, [], Value.int .i64 t8), (15, [], Value.bool (!v14))] (by kernel_rfl) (by kernel_rfl) ?_
      refine reg_end [(0, yield), (6, Value.slice v6.ptr v6.len v6.cap), (7, Value.int .i64 ((v6.len : Nat) : Int)), (8, Value.int .i64 t8), (15, Value.bool (!v14))] (by kernel_rfl) (by kernel_rfl) ?_
      change WpE _ _ c_ring_Ring_int_All_1_20 _ _ _
      refine wpE_cond (o := (Operand.tmp 15)) (b := (!v14)) (x := c_ring_Ring_int_All_1_21) (y := c_ring_Ring_int_All_1_22) (by kernel_rfl) (by kernel_rfl) (fun hb => ?_) (fun hb => ?_)
      · replace h := h.1 hb
        refine wpE_ret (by kernel_rfl) ?_
        repeat (first | refine seqQ_ret ?_ | refine blockQ_ret ?_ | refine loopQ_ret ?_ | refine cutQ_ret ?_)
        exact retT (rs := []) (vs := []) (by kernel_rfl) (trivial) (by kernel_rfl) ⟨rfl, h⟩
      · replace h := h.2 hb
        refine wpE_skip (by kernel_rfl) ?_
        change WpE _ _ c_ring_Ring_int_All_1_23 _ _ _
        refine wpE_region (id := 4) (ops := r_ring_Ring_int_All_1_23) (by kernel_rfl) ?_
        refine reg_run [.plain, .plain] 2 [(0, [], yield), (6, [], Value.slice v6.ptr v6.len v6.cap), (7, [], Value.int .i64 ((v6.len : Nat) : Int)), (8, [], Value.int .i64 (IntKind.i64.wrap (t8 + 1)))] (by kernel_rfl) (by kernel_rfl) ?_
        refine reg_end [(0, yield), (6, Value.slice v6.ptr v6.len v6.cap), (7, Value.int .i64 ((v6.len : Nat) : Int)), (8, Value.int .i64 (IntKind.i64.wrap (t8 + 1)))] (by kernel_rfl) (by kernel_rfl) ?_
        have hb_ := again__h _ _ h
        exact ⟨_, hb_.2, [(0, yield), (6, Value.slice v6.ptr v6.len v6.cap), (7, Value.int .i64 ((v6.len : Nat) : Int)), (8, Value.int .i64 (IntKind.i64.wrap (t8 + 1)))], Sub.mk (by kernel_rfl), (IntKind.i64.wrap (t8 + 1)), rfl, hb_.1, rfl⟩
    · replace h := h.2 hb
      refine wpE_exit (id := 0) (by kernel_rfl) ?_
      repeat (first | refine seqQ_exit ?_ | refine loopQ_exit ?_ | refine cutQ_exit ?_ | refine blockQ_hit ?_ | refine blockQ_miss (by kernel_rfl) ?_)
      refine retQ_normal ?_
      repeat (first | refine seqQ_ret ?_ | refine blockQ_ret ?_ | refine loopQ_ret ?_ | refine cutQ_ret ?_)
      exact retT (rs := []) (vs := []) (by kernel_rfl) (trivial) (by kernel_rfl) ⟨rfl, h⟩
  · rintro e w' ⟨v, rfl, rfl, h⟩; exact ⟨rfl, h⟩

/-! ### (*towpath/ring.Ring[int]).things (function 60) -/
noncomputable def c_ring_Ring_int_things_0 : Code := (Try.f60.body).getD Code.skip
noncomputable def c_ring_Ring_int_things_1 : Code := Code.l c_ring_Ring_int_things_0
noncomputable def r_ring_Ring_int_things_1 : Array Oper := Code.ops c_ring_Ring_int_things_1
noncomputable def c_ring_Ring_int_things_3 : Code := Code.r c_ring_Ring_int_things_0
noncomputable def c_ring_Ring_int_things_4 : Code := Code.l c_ring_Ring_int_things_3
noncomputable def c_ring_Ring_int_things_5 : Code := Code.l c_ring_Ring_int_things_4
noncomputable def r_ring_Ring_int_things_5 : Array Oper := Code.ops c_ring_Ring_int_things_5
noncomputable def c_ring_Ring_int_things_7 : Code := Code.r c_ring_Ring_int_things_4
noncomputable def c_ring_Ring_int_things_8 : Code := Code.l c_ring_Ring_int_things_7
noncomputable def c_ring_Ring_int_things_9 : Code := Code.l c_ring_Ring_int_things_8
noncomputable def r_ring_Ring_int_things_9 : Array Oper := Code.ops c_ring_Ring_int_things_9
noncomputable def c_ring_Ring_int_things_11 : Code := Code.r c_ring_Ring_int_things_8
noncomputable def c_ring_Ring_int_things_12 : Code := Code.r c_ring_Ring_int_things_7
noncomputable def c_ring_Ring_int_things_13 : Code := Code.r c_ring_Ring_int_things_3
noncomputable def c_ring_Ring_int_things_14 : Code := Code.l c_ring_Ring_int_things_13
noncomputable def r_ring_Ring_int_things_14 : Array Oper := Code.ops c_ring_Ring_int_things_14
noncomputable def c_ring_Ring_int_things_16 : Code := Code.r c_ring_Ring_int_things_13
def o_ring_Ring_int_things_14 : List Nat := [0, 1, 2, 3, 4, 5, 6, 7, 8, 9, 10, 11, 12, 13, 14, 15, 16, 17, 20, 21, 22, 23, 18, 19, 24, 25]

set_option maxRecDepth 100000 in
set_option maxHeartbeats 4000000 in
theorem S_ring_Ring_int_things {r : Option Addr} {w : World} {R : Slc → World → Prop} (h : F_ring_Ring_int_things r R w) : C_ring_Ring_int_things r w R := by
  unfold F_ring_Ring_int_things at h
  unfold C_ring_Ring_int_things
  refine Calls.mono (calls_of_wpE (args := [Value.pointer r]) (R := fun v w' => ∃ (r0 : Slc), v = Value.slice r0.ptr r0.len r0.cap ∧ R r0 w') Try.func60 (c := c_ring_Ring_int_things_0) (by kernel_rfl) 30 (by kernel_rfl) (by kernel_rfl) [(0, Value.pointer r)] (by kernel_rfl) ?_) ?_
  · refine wpE_seq (x := c_ring_Ring_int_things_1) (y := c_ring_Ring_int_things_3) (by kernel_rfl) ?_
    refine wpE_region (id := 0) (ops := r_ring_Ring_int_things_1) (by kernel_rfl) ?_
    refine reg_run [.plain] 1 [(0, [], Value.pointer r)] (by kernel_rfl) (by kernel_rfl) ?_
    refine reg_end [(0, Value.pointer r)] (by kernel_rfl) (by kernel_rfl) ?_
    change WpE _ _ c_ring_Ring_int_things_3 _ _ _
    refine wpE_seq (x := c_ring_Ring_int_things_4) (y := c_ring_Ring_int_things_13) (by kernel_rfl) ?_
    refine wpE_seq (x := c_ring_Ring_int_things_5) (y := c_ring_Ring_int_things_7) (by kernel_rfl) ?_
    refine wpE_region (id := 1) (ops := r_ring_Ring_int_things_5) (by kernel_rfl) ?_
    refine reg_run [.plain] 1 [(0, [], Value.pointer r), (3, [], Value.pointer r)] (by kernel_rfl) (by kernel_rfl) ?_
    refine reg_enter (op := (Go.Op.call (Go.Call.mk (Go.Callee.value (Go.Operand.func 48)) #[(Go.Operand.tmp 3)] #[36]))) (ty := 4) (dst := some 4) 48 #[Value.pointer r] (by kernel_rfl) (fun ww => by kernel_rfl) (Calls.mono h ?_)
    rintro _ w1 ⟨v4, rfl, h⟩
    refine ⟨_, rfl, ?_⟩
    refine reg_end [(0, Value.pointer r), (4, Value.bool v4)] (by kernel_rfl) (by kernel_rfl) ?_
    change WpE _ _ c_ring_Ring_int_things_7 _ _ _
    refine wpE_cond (o := (Operand.tmp 4)) (b := v4) (x := c_ring_Ring_int_things_8) (y := c_ring_Ring_int_things_12) (by kernel_rfl) (by kernel_rfl) (fun hb => ?_) (fun hb => ?_)
    · replace h := h.1 hb
      refine wpE_seq (x := c_ring_Ring_int_things_9) (y := c_ring_Ring_int_things_11) (by kernel_rfl) ?_
      refine wpE_region (id := 2) (ops := r_ring_Ring_int_things_9) (by kernel_rfl) ?_
      refine reg_run [.plain] 1 [(2, [], Value.slice none 0 0)] (by kernel_rfl) (by kernel_rfl) ?_
      refine reg_end [(2, Value.slice none 0 0)] (by kernel_rfl) (by kernel_rfl) ?_
      change WpE _ _ c_ring_Ring_int_things_11 _ _ _
      refine wpE_ret (by kernel_rfl) ?_
      repeat (first | refine seqQ_ret ?_ | refine blockQ_ret ?_ | refine loopQ_ret ?_ | refine cutQ_ret ?_)
      exact retS (rs := [(Go.ResultVar.tmp 2)]) (v := Value.slice none 0 0) (by kernel_rfl) (⟨by kernel_rfl, trivial⟩) ⟨(Slc.mk none 0 0), rfl, h⟩
    · replace h := h.2 hb
      refine wpE_skip (by kernel_rfl) ?_
      change WpE _ _ c_ring_Ring_int_things_13 _ _ _
      refine wpE_seq (x := c_ring_Ring_int_things_14) (y := c_ring_Ring_int_things_16) (by kernel_rfl) ?_
      refine wpE_mixregion (id := 3) (ops := r_ring_Ring_int_things_14) o_ring_Ring_int_things_14 (by kernel_rfl) (by kernel_rfl) (by kernel_rfl) (by kernel_rfl) (fun w2 hw => ?_)
      replace h := h w2 hw
      clear hw
      refine mreg_run [.plain] 1 [(0, [], Value.pointer r), (5, [], Value.pointer r)] (by kernel_rfl) (by kernel_rfl) ?_
      obtain ⟨hp_0, h⟩ := h
      refine mreg_conv [(0, [], Value.pointer r), (5, [], Value.pointer (some ⟨(pblk r), (poff r), none⟩))] (congrArg (fun pp => ([(0, [], Value.pointer r), (5, [], Value.pointer pp)] : GEnv)) hp_0) ?_
      refine mreg_run [.plain] 2 [(0, [], Value.pointer r), (5, [], Value.pointer (some ⟨(pblk r), (poff r), none⟩)), (6, [], Value.pointer (some ⟨(pblk r), (poff r), none⟩))] (by kernel_rfl) (by kernel_rfl) ?_
      refine mreg_run [.plain] 3 [(0, [], Value.pointer r), (7, [], Value.pointer (some ⟨(pblk r), (poff r), none⟩))] (by kernel_rfl) (by kernel_rfl) ?_
      obtain ⟨v8, hc, h⟩ := h
      refine mreg_load1 (i := 3) (by kernel_rfl) (t := 49) (a := (Go.Operand.tmp 7)) (b := (pblk r)) (o := (poff r)) (ty := 49) (dst := some 8) (by kernel_rfl) (by kernel_rfl) (by kernel_rfl) hc ?_
      refine mreg_run [.plain] 5 [(0, [], Value.pointer r), (8, [], Value.slice v8.ptr v8.len v8.cap), (9, [], Value.pointer r)] (by kernel_rfl) (by kernel_rfl) ?_
      obtain ⟨hp_1, h⟩ := h
      refine mreg_conv [(0, [], Value.pointer r), (8, [], Value.slice v8.ptr v8.len v8.cap), (9, [], Value.pointer (some ⟨(pblk r), (poff r), none⟩))] (congrArg (fun pp => ([(0, [], Value.pointer r), (8, [], Value.slice v8.ptr v8.len v8.cap), (9, [], Value.pointer pp)] : GEnv)) hp_1) ?_
      refine mreg_run [.plain] 6 [(0, [], Value.pointer r), (8, [], Value.slice v8.ptr v8.len v8.cap), (9, [], Value.pointer (some ⟨(pblk r), (poff r), none⟩)), (10, [], Value.pointer (some ⟨(pblk r), (poff r), none⟩))] (by kernel_rfl) (by kernel_rfl) ?_
      refine mreg_run [.plain] 7 [(0, [], Value.pointer r), (8, [], Value.slice v8.ptr v8.len v8.cap), (11, [], Value.pointer (some ⟨(pblk r), (poff r) + 1, none⟩))] (by kernel_rfl) (by kernel_rfl) ?_
      obtain ⟨v12, hc, h⟩ := h
      refine mreg_load1 (i := 7) (by kernel_rfl) (t := 3) (a := (Go.Operand.tmp 11)) (b := (pblk r)) (o := ((poff r) + 1)) (ty := 3) (dst := some 12) (by kernel_rfl) (by kernel_rfl) (by kernel_rfl) hc ?_
      refine mreg_run [] 8 [(0, [], Value.pointer r), (8, [], Value.slice v8.ptr v8.len v8.cap), (12, [], Value.int .i64 v12)] (by kernel_rfl) (by kernel_rfl) ?_
      obtain ⟨hc, h⟩ := h
      refine mreg_slice (i := 8) (by kernel_rfl) (t := 49) (e := 3) (x := (Go.Operand.tmp 8)) (lo := (Go.Operand.tmp 12)) (s := v8) (sz := 1) (k := .i64) (a := v12) (ty := 49) (dst := some 13) (by kernel_rfl) (by kernel_rfl) (by kernel_rfl) (by kernel_rfl) (by kernel_rfl) hc (fun s hs => ?_)
      replace h := h s hs
      clear hs
      refine mreg_run [.plain] 10 [(0, [], Value.pointer r), (13, [], Value.slice s.ptr s.len s.cap), (14, [], Value.pointer r)] (by kernel_rfl) (by kernel_rfl) ?_
      obtain ⟨hp_2, h⟩ := h
      refine mreg_conv [(0, [], Value.pointer r), (13, [], Value.slice s.ptr s.len s.cap), (14, [], Value.pointer (some ⟨(pblk r), (poff r), none⟩))] (congrArg (fun pp => ([(0, [], Value.pointer r), (13, [], Value.slice s.ptr s.len s.cap), (14, [], Value.pointer pp)] : GEnv)) hp_2) ?_
      refine mreg_run [.plain] 11 [(0, [], Value.pointer r), (13, [], Value.slice s.ptr s.len s.cap), (14, [], Value.pointer (some ⟨(pblk r), (poff r), none⟩)), (15, [], Value.pointer (some ⟨(pblk r), (poff r), none⟩))] (by kernel_rfl) (by kernel_rfl) ?_
      refine mreg_run [.plain] 12 [(0, [], Value.pointer r), (13, [], Value.slice s.ptr s.len s.cap), (16, [], Value.pointer (some ⟨(pblk r), (poff r), none⟩))] (by kernel_rfl) (by kernel_rfl) ?_
      obtain ⟨v17, hc, h⟩ := h
      refine mreg_load1 (i := 12) (by kernel_rfl) (t := 49) (a := (Go.Operand.tmp 16)) (b := (pblk r)) (o := (poff r)) (ty := 49) (dst := some 17) (by kernel_rfl) (by kernel_rfl) (by kernel_rfl) hc ?_
      refine mreg_run [.plain] 14 [(0, [], Value.pointer r), (13, [], Value.slice s.ptr s.len s.cap), (17, [], Value.slice v17.ptr v17.len v17.cap), (18, [], Value.pointer r)] (by kernel_rfl) (by kernel_rfl) ?_
      obtain ⟨hp_3, h⟩ := h
      refine mreg_conv [(0, [], Value.pointer r), (13, [], Value.slice s.ptr s.len s.cap), (17, [], Value.slice v17.ptr v17.len v17.cap), (18, [], Value.pointer (some ⟨(pblk r), (poff r), none⟩))] (congrArg (fun pp => ([(0, [], Value.pointer r), (13, [], Value.slice s.ptr s.len s.cap), (17, [], Value.slice v17.ptr v17.len v17.cap), (18, [], Value.pointer pp)] : GEnv)) hp_3) ?_
      refine mreg_run [.plain] 15 [(0, [], Value.pointer r), (13, [], Value.slice s.ptr s.len s.cap), (17, [], Value.slice v17.ptr v17.len v17.cap), (18, [], Value.pointer (some ⟨(pblk r), (poff r), none⟩)), (19, [], Value.pointer (some ⟨(pblk r), (poff r), none⟩))] (by kernel_rfl) (by kernel_rfl) ?_
      refine mreg_run [.plain] 16 [(0, [], Value.pointer r), (13, [], Value.slice s.ptr s.len s.cap), (17, [], Value.slice v17.ptr v17.len v17.cap), (20, [], Value.pointer (some ⟨(pblk r), (poff r) + 1, none⟩))] (by kernel_rfl) (by kernel_rfl) ?_
      obtain ⟨v21, hc, h⟩ := h
      refine mreg_load1 (i := 16) (by kernel_rfl) (t := 3) (a := (Go.Operand.tmp 20)) (b := (pblk r)) (o := ((poff r) + 1)) (ty := 3) (dst := some 21) (by kernel_rfl) (by kernel_rfl) (by kernel_rfl) hc ?_
      refine mreg_run [] 17 [(0, [], Value.pointer r), (13, [], Value.slice s.ptr s.len s.cap), (17, [], Value.slice v17.ptr v17.len v17.cap), (21, [], Value.int .i64 v21)] (by kernel_rfl) (by kernel_rfl) ?_
      obtain ⟨h0, h1, h⟩ := h
      refine mreg_sliceHi (i := 17) (by kernel_rfl) (t := 49) (e := 3) (x := (Go.Operand.tmp 17)) (hi := (Go.Operand.tmp 21)) (p := v17.ptr) (l := v17.len) (c := v17.cap) (sz := 1) (k := .i64) (j := v21) (ty := 49) (dst := some 22) (by kernel_rfl) (by kernel_rfl) (by kernel_rfl) (by kernel_rfl) (by kernel_rfl) h0 h1 ?_
      refine mreg_run [.plain] 19 [(13, [], Value.slice s.ptr s.len s.cap), (22, [], Value.slice v17.ptr v21.toNat v17.cap), (25, [], Value.pointer r)] (by kernel_rfl) (by kernel_rfl) ?_
      obtain ⟨hp_4, h⟩ := h
      refine mreg_conv [(13, [], Value.slice s.ptr s.len s.cap), (22, [], Value.slice v17.ptr v21.toNat v17.cap), (25, [], Value.pointer (some ⟨(pblk r), (poff r), none⟩))] (congrArg (fun pp => ([(13, [], Value.slice s.ptr s.len s.cap), (22, [], Value.slice v17.ptr v21.toNat v17.cap), (25, [], Value.pointer pp)] : GEnv)) hp_4) ?_
      refine mreg_run [.plain] 20 [(13, [], Value.slice s.ptr s.len s.cap), (22, [], Value.slice v17.ptr v21.toNat v17.cap), (25, [], Value.pointer (some ⟨(pblk r), (poff r), none⟩)), (26, [], Value.pointer (some ⟨(pblk r), (poff r), none⟩))] (by kernel_rfl) (by kernel_rfl) ?_
      refine mreg_run [.plain] 21 [(13, [], Value.slice s.ptr s.len s.cap), (22, [], Value.slice v17.ptr v21.toNat v17.cap), (27, [], Value.pointer (some ⟨(pblk r), (poff r) + 2, none⟩))] (by kernel_rfl) (by kernel_rfl) ?_
      obtain ⟨v28, hc, h⟩ := h
      refine mreg_load1 (i := 23) (by kernel_rfl) (t := 3) (a := (Go.Operand.tmp 27)) (b := (pblk r)) (o := ((poff r) + 2)) (ty := 3) (dst := some 28) (by kernel_rfl) (by kernel_rfl) (by kernel_rfl) hc ?_
      refine mreg_run [] 22 [(13, [], Value.slice s.ptr s.len s.cap), (22, [], Value.slice v17.ptr v21.toNat v17.cap), (28, [], Value.int .i64 v28)] (by kernel_rfl) (by kernel_rfl) ?_
      refine mreg_new (op := (Go.Op.buildSlice 90 2 #[(0, (Go.Operand.tmp 13)), (1, (Go.Operand.tmp 22))])) (ty := 90) (dst := some 23) 18 [8, 17, 3, 7, 12, 16, 2, 6, 11, 15, 1, 5, 10, 14, 0, 4, 9, 13] [(23, fun w' => w'.cell? ⟨(pblk r), (poff r) + 2, none⟩ = some (Value.int .i64 v28))] (fun bb => Value.slice (some ⟨bb, 0, none⟩) 2 2) (Obj.cells ([Value.slice s.ptr s.len s.cap, Value.slice v17.ptr v21.toNat v17.cap]).toArray ty_sl_int (0, 0)) (by kernel_rfl) (by kernel_rfl) (by kernel_rfl) (by kernel_rfl) (by kernel_rfl) (by kernel_rfl) (fun b_ w3 hb hw => ?_)
      replace h := h b_ w3 hb hw
      clear hb hw
      obtain ⟨hk0, h⟩ := h
      refine ⟨⟨hk0, trivial⟩, ?_⟩
      refine mreg_run [] 23 [(23, [], Value.slice (some ⟨b_, 0, none⟩) 2 2), (28, [], Value.int .i64 v28)] (by kernel_rfl) (by kernel_rfl) ?_
      refine mreg_enter (op := (Go.Op.call (Go.Call.mk (Go.Callee.value (Go.Operand.func 61)) #[(Go.Operand.tmp 23)] #[90]))) (ty := 49) (dst := some 24) 19 [18, 8, 17, 3, 7, 12, 16, 2, 6, 11, 15, 1, 5, 10, 14, 0, 4, 9, 13] [(23, fun w' => w'.cell? ⟨(pblk r), (poff r) + 2, none⟩ = some (Value.int .i64 v28))] 61 #[Value.slice (some ⟨b_, 0, none⟩) 2 2] (by kernel_rfl) (by kernel_rfl) (by kernel_rfl) (by kernel_rfl) (by kernel_rfl) (fun ww => by kernel_rfl) (Calls.mono h ?_)
      rintro _ w4 ⟨v24, rfl, h⟩
      obtain ⟨hk0, h⟩ := h
      refine ⟨_, rfl, ⟨hk0, trivial⟩, ?_⟩
      refine mreg_run [] 24 [(24, [], Value.slice v24.ptr v24.len v24.cap), (28, [], Value.int .i64 v28)] (by kernel_rfl) (by kernel_rfl) ?_
      obtain ⟨h0, h1, h⟩ := h
      refine mreg_sliceHi (i := 24) (by kernel_rfl) (t := 49) (e := 3) (x := (Go.Operand.tmp 24)) (hi := (Go.Operand.tmp 28)) (p := v24.ptr) (l := v24.len) (c := v24.cap) (sz := 1) (k := .i64) (j := v28) (ty := 49) (dst := some 29) (by kernel_rfl) (by kernel_rfl) (by kernel_rfl) (by kernel_rfl) (by kernel_rfl) h0 h1 ?_
      refine mreg_run [.plain] 26 [(2, [], Value.slice v24.ptr v28.toNat v24.cap)] (by kernel_rfl) (by kernel_rfl) ?_
      refine mreg_end [(2, Value.slice v24.ptr v28.toNat v24.cap)] (by kernel_rfl) (by kernel_rfl) (by kernel_rfl) ?_
      change WpE _ _ c_ring_Ring_int_things_16 _ _ _
      refine wpE_ret (by kernel_rfl) ?_
      repeat (first | refine seqQ_ret ?_ | refine blockQ_ret ?_ | refine loopQ_ret ?_ | refine cutQ_ret ?_)
      exact retS (rs := [(Go.ResultVar.tmp 2)]) (v := Value.slice v24.ptr v28.toNat v24.cap) (by kernel_rfl) (⟨by kernel_rfl, trivial⟩) ⟨(Slc.mk v24.ptr v28.toNat v24.cap), rfl, h⟩
  · rintro e w' ⟨v, rfl, r0, rfl, h⟩; exact ⟨r0, rfl, h⟩
end Go.Proofs.Ytchcljkflklddaa
