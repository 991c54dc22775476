/- WRITTEN BY PROGRAM (dec.py): for each Go function the clean formula F, the call's contract C, and the proof S that F gives C. -/
import Derived.Test.YtchcljkflklddaaRows
import Derived.Test.YtchcljkflklddaaGF
namespace Go.Proofs.Ytchcljkflklddaa
open Go
set_option linter.unusedVariables false

/-! ### towpath/towpathlaw10.RingPlays (function 10) -/
noncomputable def c_towpathlaw10_RingPlays_0 : Code := (Try.f10.body).getD Code.skip
noncomputable def c_towpathlaw10_RingPlays_1 : Code := Code.l c_towpathlaw10_RingPlays_0
noncomputable def r_towpathlaw10_RingPlays_1 : Array Oper := Code.ops c_towpathlaw10_RingPlays_1
noncomputable def c_towpathlaw10_RingPlays_3 : Code := Code.r c_towpathlaw10_RingPlays_0
noncomputable def c_towpathlaw10_RingPlays_4 : Code := Code.l c_towpathlaw10_RingPlays_3
noncomputable def c_towpathlaw10_RingPlays_5 : Code := Code.l c_towpathlaw10_RingPlays_4
noncomputable def r_towpathlaw10_RingPlays_5 : Array Oper := Code.ops c_towpathlaw10_RingPlays_5
noncomputable def c_towpathlaw10_RingPlays_7 : Code := Code.r c_towpathlaw10_RingPlays_4
noncomputable def c_towpathlaw10_RingPlays_8 : Code := Code.l c_towpathlaw10_RingPlays_7
noncomputable def c_towpathlaw10_RingPlays_9 : Code := Code.l c_towpathlaw10_RingPlays_8
noncomputable def r_towpathlaw10_RingPlays_9 : Array Oper := Code.ops c_towpathlaw10_RingPlays_9
noncomputable def c_towpathlaw10_RingPlays_11 : Code := Code.r c_towpathlaw10_RingPlays_8
noncomputable def c_towpathlaw10_RingPlays_12 : Code := Code.r c_towpathlaw10_RingPlays_7
noncomputable def c_towpathlaw10_RingPlays_13 : Code := Code.r c_towpathlaw10_RingPlays_3
noncomputable def c_towpathlaw10_RingPlays_14 : Code := Code.l c_towpathlaw10_RingPlays_13
noncomputable def r_towpathlaw10_RingPlays_14 : Array Oper := Code.ops c_towpathlaw10_RingPlays_14
noncomputable def c_towpathlaw10_RingPlays_16 : Code := Code.r c_towpathlaw10_RingPlays_13
noncomputable def c_towpathlaw10_RingPlays_17 : Code := Code.l c_towpathlaw10_RingPlays_16
noncomputable def r_towpathlaw10_RingPlays_17 : Array Oper := Code.ops c_towpathlaw10_RingPlays_17
noncomputable def c_towpathlaw10_RingPlays_19 : Code := Code.r c_towpathlaw10_RingPlays_16
noncomputable def c_towpathlaw10_RingPlays_20 : Code := Code.l c_towpathlaw10_RingPlays_19
noncomputable def c_towpathlaw10_RingPlays_21 : Code := Code.l c_towpathlaw10_RingPlays_20
noncomputable def r_towpathlaw10_RingPlays_21 : Array Oper := Code.ops c_towpathlaw10_RingPlays_21
noncomputable def c_towpathlaw10_RingPlays_23 : Code := Code.r c_towpathlaw10_RingPlays_20
noncomputable def c_towpathlaw10_RingPlays_24 : Code := Code.l c_towpathlaw10_RingPlays_23
noncomputable def c_towpathlaw10_RingPlays_25 : Code := Code.l c_towpathlaw10_RingPlays_24
noncomputable def r_towpathlaw10_RingPlays_25 : Array Oper := Code.ops c_towpathlaw10_RingPlays_25
noncomputable def c_towpathlaw10_RingPlays_27 : Code := Code.r c_towpathlaw10_RingPlays_24
noncomputable def c_towpathlaw10_RingPlays_28 : Code := Code.r c_towpathlaw10_RingPlays_23
noncomputable def c_towpathlaw10_RingPlays_29 : Code := Code.r c_towpathlaw10_RingPlays_19
noncomputable def c_towpathlaw10_RingPlays_30 : Code := Code.l c_towpathlaw10_RingPlays_29
noncomputable def r_towpathlaw10_RingPlays_30 : Array Oper := Code.ops c_towpathlaw10_RingPlays_30
noncomputable def c_towpathlaw10_RingPlays_32 : Code := Code.r c_towpathlaw10_RingPlays_29
noncomputable def c_towpathlaw10_RingPlays_33 : Code := Code.l c_towpathlaw10_RingPlays_32
noncomputable def r_towpathlaw10_RingPlays_33 : Array Oper := Code.ops c_towpathlaw10_RingPlays_33
noncomputable def c_towpathlaw10_RingPlays_35 : Code := Code.r c_towpathlaw10_RingPlays_32
noncomputable def c_towpathlaw10_RingPlays_36 : Code := Code.l c_towpathlaw10_RingPlays_35
noncomputable def c_towpathlaw10_RingPlays_37 : Code := Code.l c_towpathlaw10_RingPlays_36
noncomputable def r_towpathlaw10_RingPlays_37 : Array Oper := Code.ops c_towpathlaw10_RingPlays_37
noncomputable def c_towpathlaw10_RingPlays_39 : Code := Code.r c_towpathlaw10_RingPlays_36
noncomputable def c_towpathlaw10_RingPlays_40 : Code := Code.l c_towpathlaw10_RingPlays_39
noncomputable def c_towpathlaw10_RingPlays_41 : Code := Code.l c_towpathlaw10_RingPlays_40
noncomputable def c_towpathlaw10_RingPlays_42 : Code := Code.l c_towpathlaw10_RingPlays_41
noncomputable def c_towpathlaw10_RingPlays_43 : Code := Code.l c_towpathlaw10_RingPlays_42
noncomputable def r_towpathlaw10_RingPlays_43 : Array Oper := Code.ops c_towpathlaw10_RingPlays_43
noncomputable def c_towpathlaw10_RingPlays_45 : Code := Code.r c_towpathlaw10_RingPlays_42
noncomputable def c_towpathlaw10_RingPlays_46 : Code := Code.l c_towpathlaw10_RingPlays_45
noncomputable def c_towpathlaw10_RingPlays_47 : Code := Code.r c_towpathlaw10_RingPlays_45
noncomputable def c_towpathlaw10_RingPlays_48 : Code := Code.r c_towpathlaw10_RingPlays_41
noncomputable def c_towpathlaw10_RingPlays_49 : Code := Code.l c_towpathlaw10_RingPlays_48
noncomputable def c_towpathlaw10_RingPlays_50 : Code := Code.l c_towpathlaw10_RingPlays_49
noncomputable def c_towpathlaw10_RingPlays_51 : Code := Code.l c_towpathlaw10_RingPlays_50
noncomputable def r_towpathlaw10_RingPlays_51 : Array Oper := Code.ops c_towpathlaw10_RingPlays_51
noncomputable def c_towpathlaw10_RingPlays_53 : Code := Code.r c_towpathlaw10_RingPlays_50
noncomputable def c_towpathlaw10_RingPlays_54 : Code := Code.l c_towpathlaw10_RingPlays_53
noncomputable def c_towpathlaw10_RingPlays_55 : Code := Code.l c_towpathlaw10_RingPlays_54
noncomputable def r_towpathlaw10_RingPlays_55 : Array Oper := Code.ops c_towpathlaw10_RingPlays_55
noncomputable def c_towpathlaw10_RingPlays_57 : Code := Code.r c_towpathlaw10_RingPlays_54
noncomputable def c_towpathlaw10_RingPlays_58 : Code := Code.r c_towpathlaw10_RingPlays_53
noncomputable def c_towpathlaw10_RingPlays_59 : Code := Code.r c_towpathlaw10_RingPlays_48
noncomputable def r_towpathlaw10_RingPlays_59 : Array Oper := Code.ops c_towpathlaw10_RingPlays_59
noncomputable def c_towpathlaw10_RingPlays_61 : Code := Code.r c_towpathlaw10_RingPlays_35
noncomputable def c_towpathlaw10_RingPlays_62 : Code := Code.l c_towpathlaw10_RingPlays_61
noncomputable def r_towpathlaw10_RingPlays_62 : Array Oper := Code.ops c_towpathlaw10_RingPlays_62
noncomputable def c_towpathlaw10_RingPlays_64 : Code := Code.r c_towpathlaw10_RingPlays_61

set_option maxRecDepth 100000 in
set_option maxHeartbeats 4000000 in
theorem S_towpathlaw10_RingPlays {capacity : Int} {script : Slc} {w : World} {R : Bool → World → Prop} (h : F_towpathlaw10_RingPlays capacity script R w) : C_towpathlaw10_RingPlays capacity script w R := by
  unfold F_towpathlaw10_RingPlays at h
  unfold C_towpathlaw10_RingPlays
  refine Calls.mono (calls_of_wpE (args := [Value.int .i64 capacity, Value.slice script.ptr script.len script.cap]) (R := fun v w' => ∃ (r0 : Bool), v = Value.bool r0 ∧ R r0 w') Try.func10 (c := c_towpathlaw10_RingPlays_0) (by kernel_rfl) 67 (by kernel_rfl) (by kernel_rfl) [(0, Value.int .i64 capacity), (1, Value.slice script.ptr script.len script.cap)] (by kernel_rfl) ?_) ?_
  · refine wpE_seq (x := c_towpathlaw10_RingPlays_1) (y := c_towpathlaw10_RingPlays_3) (by kernel_rfl) ?_
    refine wpE_region (id := 0) (ops := r_towpathlaw10_RingPlays_1) (by kernel_rfl) ?_
    refine reg_run [.plain] 1 [(0, [], Value.int .i64 capacity), (1, [], Value.slice script.ptr script.len script.cap)] (by kernel_rfl) (by kernel_rfl) ?_
    refine reg_end [(0, Value.int .i64 capacity), (1, Value.slice script.ptr script.len script.cap)] (by kernel_rfl) (by kernel_rfl) ?_
    change WpE _ _ c_towpathlaw10_RingPlays_3 _ _ _
    refine wpE_seq (x := c_towpathlaw10_RingPlays_4) (y := c_towpathlaw10_RingPlays_13) (by kernel_rfl) ?_
    refine wpE_seq (x := c_towpathlaw10_RingPlays_5) (y := c_towpathlaw10_RingPlays_7) (by kernel_rfl) ?_
    refine wpE_region (id := 1) (ops := r_towpathlaw10_RingPlays_5) (by kernel_rfl) ?_
    refine reg_run [.plain, .plain] 2 [(0, [], Value.int .i64 capacity), (1, [], Value.slice script.ptr script.len script.cap), (13, [], Value.int .i64 ((script.len : Nat) : Int))] (by kernel_rfl) (by kernel_rfl) ?_
    refine reg_new (op := (Go.Op.buildSlice 49 1 #[(0, (Go.Operand.tmp 13))])) (ty := 49) (dst := some 14) (fun bb => Value.slice (some ⟨bb, 0, none⟩) 1 1) (Obj.cells ([Value.int .i64 ((script.len : Nat) : Int)]).toArray ty_int (0, 0)) (by kernel_rfl) (by kernel_rfl) (fun b_ w1 hb hw => ?_)
    replace h := h b_ w1 hb hw
    clear hb hw
    refine reg_run [] 3 [(0, [], Value.int .i64 capacity), (1, [], Value.slice script.ptr script.len script.cap), (14, [], Value.slice (some ⟨b_, 0, none⟩) 1 1)] (by kernel_rfl) (by kernel_rfl) ?_
    refine reg_enter (op := (Go.Op.call (Go.Call.mk (Go.Callee.value (Go.Operand.func 12)) #[(Go.Operand.tmp 14)] #[49]))) (ty := 4) (dst := some 15) 12 #[Value.slice (some ⟨b_, 0, none⟩) 1 1] (by kernel_rfl) (fun ww => by kernel_rfl) (Calls.mono h ?_)
    rintro _ w2 ⟨v15, rfl, h⟩
    refine ⟨_, rfl, ?_⟩
    refine reg_end [(0, Value.int .i64 capacity), (1, Value.slice script.ptr script.len script.cap), (15, Value.bool v15)] (by kernel_rfl) (by kernel_rfl) ?_
    change WpE _ _ c_towpathlaw10_RingPlays_7 _ _ _
    refine wpE_cond (o := (Operand.tmp 15)) (b := v15) (x := c_towpathlaw10_RingPlays_8) (y := c_towpathlaw10_RingPlays_12) (by kernel_rfl) (by kernel_rfl) (fun hb => ?_) (fun hb => ?_)
    · replace h := h.1 hb
      refine wpE_seq (x := c_towpathlaw10_RingPlays_9) (y := c_towpathlaw10_RingPlays_11) (by kernel_rfl) ?_
      refine wpE_region (id := 2) (ops := r_towpathlaw10_RingPlays_9) (by kernel_rfl) ?_
      refine reg_run [.plain] 1 [(4, [], Value.bool true)] (by kernel_rfl) (by kernel_rfl) ?_
      refine reg_end [(4, Value.bool true)] (by kernel_rfl) (by kernel_rfl) ?_
      change WpE _ _ c_towpathlaw10_RingPlays_11 _ _ _
      refine wpE_ret (by kernel_rfl) ?_
      repeat (first | refine seqQ_ret ?_ | refine blockQ_ret ?_ | refine loopQ_ret ?_ | refine cutQ_ret ?_)
      exact retS (rs := [(Go.ResultVar.tmp 4)]) (v := Value.bool true) (by kernel_rfl) (⟨by kernel_rfl, trivial⟩) ⟨true, rfl, h⟩
    · replace h := h.2 hb
      refine wpE_skip (by kernel_rfl) ?_
      change WpE _ _ c_towpathlaw10_RingPlays_13 _ _ _
      refine wpE_seq (x := c_towpathlaw10_RingPlays_14) (y := c_towpathlaw10_RingPlays_16) (by kernel_rfl) ?_
      refine wpE_region (id := 3) (ops := r_towpathlaw10_RingPlays_14) (by kernel_rfl) ?_
      refine reg_run [.plain] 1 [(0, [], Value.int .i64 capacity), (1, [], Value.slice script.ptr script.len script.cap), (17, [], Value.int .i64 capacity)] (by kernel_rfl) (by kernel_rfl) ?_
      refine reg_enter (op := (Go.Op.call (Go.Call.mk (Go.Callee.value (Go.Operand.func 22)) #[(Go.Operand.tmp 17)] #[3]))) (ty := 37) (dst := some 18) 22 #[Value.int .i64 capacity] (by kernel_rfl) (fun ww => by kernel_rfl) (Calls.mono h ?_)
      rintro _ w3 ⟨r, e, rfl, h⟩
      refine ⟨_, rfl, ?_⟩
      refine reg_run [.plain, .plain, .plain, .plain, .plain] 7 [(0, [], Value.int .i64 capacity), (1, [], Value.slice script.ptr script.len script.cap), (5, [], Value.pointer r), (6, [], Value.int .i64 e)] (by kernel_rfl) (by kernel_rfl) ?_
      refine reg_end [(0, Value.int .i64 capacity), (1, Value.slice script.ptr script.len script.cap), (5, Value.pointer r), (6, Value.int .i64 e)] (by kernel_rfl) (by kernel_rfl) ?_
      change WpE _ _ c_towpathlaw10_RingPlays_16 _ _ _
      refine wpE_seq (x := c_towpathlaw10_RingPlays_17) (y := c_towpathlaw10_RingPlays_19) (by kernel_rfl) ?_
      refine wpE_region (id := 4) (ops := r_towpathlaw10_RingPlays_17) (by kernel_rfl) ?_
      refine reg_run [.plain] 1 [(1, [], Value.slice script.ptr script.len script.cap), (5, [], Value.pointer r), (6, [], Value.int .i64 e), (22, [], Value.int .i64 capacity)] (by kernel_rfl) (by kernel_rfl) ?_
      refine reg_enter (op := (Go.Op.call (Go.Call.mk (Go.Callee.value (Go.Operand.func 38)) #[(Go.Operand.tmp 22)] #[3]))) (ty := 61) (dst := some 23) 38 #[Value.int .i64 capacity] (by kernel_rfl) (fun ww => by kernel_rfl) (Calls.mono h ?_)
      rintro _ w4 ⟨x, f, rfl, h⟩
      refine ⟨_, rfl, ?_⟩
      refine reg_run [.plain, .plain, .plain, .plain, .plain] 7 [(1, [], Value.slice script.ptr script.len script.cap), (5, [], Value.pointer r), (6, [], Value.int .i64 e), (7, [], Value.pointer x), (8, [], Value.int .i64 f)] (by kernel_rfl) (by kernel_rfl) ?_
      refine reg_end [(1, Value.slice script.ptr script.len script.cap), (5, Value.pointer r), (6, Value.int .i64 e), (7, Value.pointer x), (8, Value.int .i64 f)] (by kernel_rfl) (by kernel_rfl) ?_
      change WpE _ _ c_towpathlaw10_RingPlays_19 _ _ _
      refine wpE_seq (x := c_towpathlaw10_RingPlays_20) (y := c_towpathlaw10_RingPlays_29) (by kernel_rfl) ?_
      refine wpE_seq_cut (x := c_towpathlaw10_RingPlays_21) (y := c_towpathlaw10_RingPlays_23) (by kernel_rfl) (fun l w => ∃ (t35 : Bool), l = [(1, Value.slice script.ptr script.len script.cap), (5, Value.pointer r), (7, Value.pointer x), (35, Value.bool t35)] ∧ F_towpathlaw10_RingPlays_k0 script R r x t35 w) ?_ ?_
      · refine wpE_region (id := 5) (ops := r_towpathlaw10_RingPlays_21) (by kernel_rfl) ?_
        refine reg_run [.plain, .plain, .plain, .plain, .plain] 5 [(1, [], Value.slice script.ptr script.len script.cap), (5, [], Value.pointer r), (7, [], Value.pointer x), (29, [], Value.bool (e != f)), (30, [(29, false)], Value.pointer r)] (by kernel_rfl) (by kernel_rfl) ?_
        refine reg_split 29 (e != f) (by kernel_rfl) (fun hb => ?_) (fun hb => ?_)
        · replace h := h.1 hb
          refine reg_run [] 5 [(1, [], Value.slice script.ptr script.len script.cap), (5, [], Value.pointer r), (7, [], Value.pointer x), (29, [], Value.bool true), (30, [], undef)] (by kernel_rfl) (by kernel_rfl) ?_
          refine reg_run [.skip, .skip, .skip, .skip, .plain] 10 [(1, [], Value.slice script.ptr script.len script.cap), (5, [], Value.pointer r), (7, [], Value.pointer x), (35, [], Value.bool true)] (by kernel_rfl) (by kernel_rfl) ?_
          refine reg_end [(1, Value.slice script.ptr script.len script.cap), (5, Value.pointer r), (7, Value.pointer x), (35, Value.bool true)] (by kernel_rfl) (by kernel_rfl) ?_
          exact ⟨[(1, Value.slice script.ptr script.len script.cap), (5, Value.pointer r), (7, Value.pointer x), (35, Value.bool true)], Sub.mk (by kernel_rfl), true, rfl, h⟩
        · replace h := h.2 hb
          refine reg_run [] 5 [(1, [], Value.slice script.ptr script.len script.cap), (5, [], Value.pointer r), (7, [], Value.pointer x), (29, [], Value.bool false), (30, [], Value.pointer r)] (by kernel_rfl) (by kernel_rfl) ?_
          refine reg_run [] 5 [(1, [], Value.slice script.ptr script.len script.cap), (5, [], Value.pointer r), (7, [], Value.pointer x), (29, [], Value.bool false), (30, [], Value.pointer r)] (by kernel_rfl) (by kernel_rfl) ?_
          refine reg_val (op := (Go.Op.binOp Go.BinOp.eql 36 (Go.Operand.tmp 30) (Go.Operand.const (Go.Value.pointer none)) 36)) (ty := 4) (dst := some 31) (Value.bool r.isNone) (by kernel_rfl) (fun ww => run_ptr_eql_R (p := r) (by kernel_rfl) (by kernel_rfl) (by kernel_rfl) ww) ?_
          refine reg_run [.sure] 7 [(1, [], Value.slice script.ptr script.len script.cap), (5, [], Value.pointer r), (7, [], Value.pointer x), (29, [], Value.bool false), (31, [], Value.bool r.isNone), (32, [], Value.pointer x)] (by kernel_rfl) (by kernel_rfl) ?_
          refine reg_val (op := (Go.Op.binOp Go.BinOp.eql 60 (Go.Operand.tmp 32) (Go.Operand.const (Go.Value.pointer none)) 60)) (ty := 4) (dst := some 33) (Value.bool x.isNone) (by kernel_rfl) (fun ww => run_ptr_eql_R (p := x) (by kernel_rfl) (by kernel_rfl) (by kernel_rfl) ww) ?_
          refine reg_run [.sure, .plain] 10 [(1, [], Value.slice script.ptr script.len script.cap), (5, [], Value.pointer r), (7, [], Value.pointer x), (35, [], Value.bool (!(r.isNone == x.isNone)))] (by kernel_rfl) (by kernel_rfl) ?_
          refine reg_end [(1, Value.slice script.ptr script.len script.cap), (5, Value.pointer r), (7, Value.pointer x), (35, Value.bool (!(r.isNone == x.isNone)))] (by kernel_rfl) (by kernel_rfl) ?_
          exact ⟨[(1, Value.slice script.ptr script.len script.cap), (5, Value.pointer r), (7, Value.pointer x), (35, Value.bool (!(r.isNone == x.isNone)))], Sub.mk (by kernel_rfl), (!(r.isNone == x.isNone)), rfl, h⟩
      · rintro _ w5 ⟨t35, rfl, h⟩
        unfold F_towpathlaw10_RingPlays_k0 at h
        refine wpE_cond (o := (Operand.tmp 35)) (b := t35) (x := c_towpathlaw10_RingPlays_24) (y := c_towpathlaw10_RingPlays_28) (by kernel_rfl) (by kernel_rfl) (fun hb => ?_) (fun hb => ?_)
        · replace h := h.1 hb
          refine wpE_seq (x := c_towpathlaw10_RingPlays_25) (y := c_towpathlaw10_RingPlays_27) (by kernel_rfl) ?_
          refine wpE_region (id := 6) (ops := r_towpathlaw10_RingPlays_25) (by kernel_rfl) ?_
          refine reg_run [.plain] 1 [(4, [], Value.bool false)] (by kernel_rfl) (by kernel_rfl) ?_
          refine reg_end [(4, Value.bool false)] (by kernel_rfl) (by kernel_rfl) ?_
          change WpE _ _ c_towpathlaw10_RingPlays_27 _ _ _
          refine wpE_ret (by kernel_rfl) ?_
          repeat (first | refine seqQ_ret ?_ | refine blockQ_ret ?_ | refine loopQ_ret ?_ | refine cutQ_ret ?_)
          exact retS (rs := [(Go.ResultVar.tmp 4)]) (v := Value.bool false) (by kernel_rfl) (⟨by kernel_rfl, trivial⟩) ⟨false, rfl, h⟩
        · replace h := h.2 hb
          refine wpE_skip (by kernel_rfl) ?_
          change WpE _ _ c_towpathlaw10_RingPlays_29 _ _ _
          refine wpE_seq (x := c_towpathlaw10_RingPlays_30) (y := c_towpathlaw10_RingPlays_32) (by kernel_rfl) ?_
          refine wpE_region (id := 7) (ops := r_towpathlaw10_RingPlays_30) (by kernel_rfl) ?_
          refine reg_run [.plain] 1 [(1, [], Value.slice script.ptr script.len script.cap), (5, [], Value.pointer r), (7, [], Value.pointer x), (9, [], Value.pointer none)] (by kernel_rfl) (by kernel_rfl) ?_
          refine reg_end [(1, Value.slice script.ptr script.len script.cap), (5, Value.pointer r), (7, Value.pointer x), (9, Value.pointer none)] (by kernel_rfl) (by kernel_rfl) ?_
          change WpE _ _ c_towpathlaw10_RingPlays_32 _ _ _
          refine wpE_seq (x := c_towpathlaw10_RingPlays_33) (y := c_towpathlaw10_RingPlays_35) (by kernel_rfl) ?_
          refine wpE_region (id := 8) (ops := r_towpathlaw10_RingPlays_33) (by kernel_rfl) ?_
          refine reg_run [.plain] 1 [(1, [], Value.slice script.ptr script.len script.cap), (5, [], Value.pointer r), (7, [], Value.pointer x), (9, [], Value.pointer none), (36, [], Value.agg #[Value.slice none 0 0, Value.int .i64 0, Value.int .i64 0, Value.bool false])] (by kernel_rfl) (by kernel_rfl) ?_
          refine reg_new (op := (Go.Op.box 64 (Go.Operand.tmp 36))) (ty := 36) (dst := some 37) (fun bb => Value.pointer (some ⟨bb, 0, none⟩)) (Obj.cells ([Value.slice none 0 0, Value.int .i64 0, Value.int .i64 0, Value.bool false]).toArray ty_ring_Ring_int (0, 0)) (by kernel_rfl) (by kernel_rfl) (fun b_1 w6 hb hw => ?_)
          replace h := h b_1 w6 hb hw
          clear hb hw
          refine reg_run [.plain] 3 [(1, [], Value.slice script.ptr script.len script.cap), (5, [], Value.pointer r), (7, [], Value.pointer x), (9, [], Value.pointer none), (10, [], Value.pointer (some ⟨b_1, 0, none⟩))] (by kernel_rfl) (by kernel_rfl) ?_
          refine reg_end [(1, Value.slice script.ptr script.len script.cap), (5, Value.pointer r), (7, Value.pointer x), (9, Value.pointer none), (10, Value.pointer (some ⟨b_1, 0, none⟩))] (by kernel_rfl) (by kernel_rfl) ?_
          change WpE _ _ c_towpathlaw10_RingPlays_35 _ _ _
          refine wpE_seq (x := c_towpathlaw10_RingPlays_36) (y := c_towpathlaw10_RingPlays_61) (by kernel_rfl) ?_
          refine wpE_seq (x := c_towpathlaw10_RingPlays_37) (y := c_towpathlaw10_RingPlays_39) (by kernel_rfl) ?_
          refine wpE_region (id := 9) (ops := r_towpathlaw10_RingPlays_37) (by kernel_rfl) ?_
          refine reg_run [.plain] 1 [(1, [], Value.slice script.ptr script.len script.cap), (5, [], Value.pointer r), (7, [], Value.pointer x), (9, [], Value.pointer none), (10, [], Value.pointer (some ⟨b_1, 0, none⟩)), (11, [], Value.int .i64 0)] (by kernel_rfl) (by kernel_rfl) ?_
          refine reg_end [(1, Value.slice script.ptr script.len script.cap), (5, Value.pointer r), (7, Value.pointer x), (9, Value.pointer none), (10, Value.pointer (some ⟨b_1, 0, none⟩)), (11, Value.int .i64 0)] (by kernel_rfl) (by kernel_rfl) ?_
          change WpE _ _ c_towpathlaw10_RingPlays_39 _ _ _
          refine wpE_block (id := 0) (x := c_towpathlaw10_RingPlays_40) (by kernel_rfl) ?_
          obtain ⟨I, μ, h0, hr⟩ := h
          refine wpE_loop (x := c_towpathlaw10_RingPlays_41) (by kernel_rfl) (fun m l w => ∃ (i : Int), l = [(1, Value.slice script.ptr script.len script.cap), (5, Value.pointer r), (7, Value.pointer x), (9, Value.pointer none), (10, Value.pointer (some ⟨b_1, 0, none⟩)), (11, Value.int .i64 i)] ∧ I i w ∧ μ i w = m) (l' := [(1, Value.slice script.ptr script.len script.cap), (5, Value.pointer r), (7, Value.pointer x), (9, Value.pointer none), (10, Value.pointer (some ⟨b_1, 0, none⟩)), (11, Value.int .i64 0)]) (Sub.mk (by kernel_rfl)) ⟨0, rfl, h0, rfl⟩ ?_
          rintro _ _ w7 ⟨i, rfl, hI, rfl⟩
          obtain ⟨again_, again__h, h⟩ : ∃ again_ : Int → World → Prop, (∀ i' w', again_ i' w' → I i' w' ∧ μ i' w' < μ i w7) ∧ F_towpathlaw10_RingPlays_L1 script R r x b_1 again_ i w7 := ⟨_, fun _ _ h => h, hr i w7 hI⟩
          clear h0 hI
          unfold F_towpathlaw10_RingPlays_L1 at h
          refine wpE_seq (x := c_towpathlaw10_RingPlays_42) (y := c_towpathlaw10_RingPlays_48) (by kernel_rfl) ?_
          refine wpE_seq (x := c_towpathlaw10_RingPlays_43) (y := c_towpathlaw10_RingPlays_45) (by kernel_rfl) ?_
          refine wpE_region (id := 10) (ops := r_towpathlaw10_RingPlays_43) (by kernel_rfl) ?_
          refine reg_run [.plain, .plain, .plain, .plain] 4 [(1, [], Value.slice script.ptr script.len script.cap), (5, [], Value.pointer r), (7, [], Value.pointer x), (9, [], Value.pointer none), (10, [], Value.pointer (some ⟨b_1, 0, none⟩)), (11, [], Value.int .i64 i), (41, [], Value.bool (decide (i < ((script.len : Nat) : Int))))] (by kernel_rfl) (by kernel_rfl) ?_
          refine reg_end [(1, Value.slice script.ptr script.len script.cap), (5, Value.pointer r), (7, Value.pointer x), (9, Value.pointer none), (10, Value.pointer (some ⟨b_1, 0, none⟩)), (11, Value.int .i64 i), (41, Value.bool (decide (i < ((script.len : Nat) : Int))))] (by kernel_rfl) (by kernel_rfl) ?_
          change WpE _ _ c_towpathlaw10_RingPlays_45 _ _ _
          refine wpE_cond (o := (Operand.tmp 41)) (b := (decide (i < ((script.len : Nat) : Int)))) (x := c_towpathlaw10_RingPlays_46) (y := c_towpathlaw10_RingPlays_47) (by kernel_rfl) (by kernel_rfl) (fun hb => ?_) (fun hb => ?_)
          · replace h := h.1 hb
            refine wpE_skip (by kernel_rfl) ?_
            change WpE _ _ c_towpathlaw10_RingPlays_48 _ _ _
            refine wpE_seq (x := c_towpathlaw10_RingPlays_49) (y := c_towpathlaw10_RingPlays_59) (by kernel_rfl) ?_
            refine wpE_block (id := 1) (x := c_towpathlaw10_RingPlays_50) (by kernel_rfl) ?_
            refine wpE_seq_cut (x := c_towpathlaw10_RingPlays_51) (y := c_towpathlaw10_RingPlays_53) (by kernel_rfl) (fun l w => ∃ (t61 : Bool), l = [(1, Value.slice script.ptr script.len script.cap), (5, Value.pointer r), (7, Value.pointer x), (9, Value.pointer none), (10, Value.pointer (some ⟨b_1, 0, none⟩)), (11, Value.int .i64 i), (61, Value.bool t61)] ∧ F_towpathlaw10_RingPlays_k2 R i again_ t61 w) ?_ ?_
            · refine wpE_region (id := 12) (ops := r_towpathlaw10_RingPlays_51) (by kernel_rfl) ?_
              refine reg_run [.plain, .plain, .plain, .plain] 4 [(1, [], Value.slice script.ptr script.len script.cap), (5, [], Value.pointer r), (7, [], Value.pointer x), (9, [], Value.pointer none), (10, [], Value.pointer (some ⟨b_1, 0, none⟩)), (11, [], Value.int .i64 i), (44, [], Value.pointer r), (45, [], Value.pointer x), (46, [], Value.slice script.ptr script.len script.cap), (47, [], Value.int .i64 i)] (by kernel_rfl) (by kernel_rfl) ?_
              obtain ⟨hp_14, h⟩ := h
              refine reg_conv [(1, [], Value.slice script.ptr script.len script.cap), (5, [], Value.pointer r), (7, [], Value.pointer x), (9, [], Value.pointer none), (10, [], Value.pointer (some ⟨b_1, 0, none⟩)), (11, [], Value.int .i64 i), (44, [], Value.pointer r), (45, [], Value.pointer x), (46, [], Value.slice (some ⟨(pblk script.ptr), (poff script.ptr), none⟩) script.len script.cap), (47, [], Value.int .i64 i)] (congrArg (fun pp => ([(1, [], Value.slice script.ptr script.len script.cap), (5, [], Value.pointer r), (7, [], Value.pointer x), (9, [], Value.pointer none), (10, [], Value.pointer (some ⟨b_1, 0, none⟩)), (11, [], Value.int .i64 i), (44, [], Value.pointer r), (45, [], Value.pointer x), (46, [], Value.slice pp script.len script.cap), (47, [], Value.int .i64 i)] : GEnv)) hp_14) ?_
              obtain ⟨h0, h1, h⟩ := h
              refine reg_indexS (t := 59) (e := 67) (x := (Go.Operand.tmp 46)) (ix := (Go.Operand.tmp 47)) (b := (pblk script.ptr)) (o := (poff script.ptr)) (l := script.len) (c := script.cap) (k := .i64) (j := i) (ty := 0) (dst := some 48) (sz := 2) (by kernel_rfl) (by kernel_rfl) (by kernel_rfl) (by kernel_rfl) (by kernel_rfl) h0 h1 ?_
              refine reg_run [] 5 [(1, [], Value.slice script.ptr script.len script.cap), (5, [], Value.pointer r), (7, [], Value.pointer x), (9, [], Value.pointer none), (10, [], Value.pointer (some ⟨b_1, 0, none⟩)), (11, [], Value.int .i64 i), (44, [], Value.pointer r), (45, [], Value.pointer x), (48, [], Value.pointer (some ⟨(pblk script.ptr), (poff script.ptr) + i.toNat * 2, none⟩))] (by kernel_rfl) (by kernel_rfl) ?_
              obtain ⟨v49, hc, h⟩ := h
              refine reg_loadN (t := 67) (a := (Go.Operand.tmp 48)) (b := (pblk script.ptr)) (o := ((poff script.ptr) + i.toNat * 2)) (ty := 67) (dst := some 49) [Value.int .u8 v49.Kind, Value.int .i64 v49.X] (by kernel_rfl) (by kernel_rfl) (by kernel_rfl) (k := 2) (by kernel_rfl) (by kernel_rfl) hc ?_
              refine reg_run [] 6 [(1, [], Value.slice script.ptr script.len script.cap), (5, [], Value.pointer r), (7, [], Value.pointer x), (9, [], Value.pointer none), (10, [], Value.pointer (some ⟨b_1, 0, none⟩)), (11, [], Value.int .i64 i), (44, [], Value.pointer r), (45, [], Value.pointer x), (49, [], Value.agg #[Value.int .u8 v49.Kind, Value.int .i64 v49.X])] (by kernel_rfl) (by kernel_rfl) ?_
              refine reg_enter (op := (Go.Op.call (Go.Call.mk (Go.Callee.value (Go.Operand.func 39)) #[(Go.Operand.tmp 44), (Go.Operand.tmp 45), (Go.Operand.tmp 49)] #[36, 60, 67]))) (ty := 4) (dst := some 50) 39 #[Value.pointer r, Value.pointer x, Value.agg #[Value.int .u8 v49.Kind, Value.int .i64 v49.X]] (by kernel_rfl) (fun ww => by kernel_rfl) (Calls.mono h ?_)
              rintro _ w9 ⟨v50, rfl, h⟩
              refine ⟨_, rfl, ?_⟩
              refine reg_run [.plain, .plain, .plain, .plain, .plain, .plain] 13 [(1, [], Value.slice script.ptr script.len script.cap), (5, [], Value.pointer r), (7, [], Value.pointer x), (9, [], Value.pointer none), (10, [], Value.pointer (some ⟨b_1, 0, none⟩)), (11, [], Value.int .i64 i), (52, [], Value.bool (!v50)), (53, [(52, false)], Value.pointer (some ⟨b_1, 0, none⟩)), (54, [(52, false)], Value.pointer none), (55, [(52, false)], Value.slice script.ptr script.len script.cap), (56, [(52, false)], Value.int .i64 i)] (by kernel_rfl) (by kernel_rfl) ?_
              refine reg_split 52 (!v50) (by kernel_rfl) (fun hb => ?_) (fun hb => ?_)
              · replace h := h.1 hb
                refine reg_run [] 13 [(1, [], Value.slice script.ptr script.len script.cap), (5, [], Value.pointer r), (7, [], Value.pointer x), (9, [], Value.pointer none), (10, [], Value.pointer (some ⟨b_1, 0, none⟩)), (11, [], Value.int .i64 i), (52, [], Value.bool true), (53, [], undef), (54, [], undef), (55, [], undef), (56, [], undef)] (by kernel_rfl) (by kernel_rfl) ?_
                refine reg_run [.skip, .skip, .skip, .skip, .plain] 18 [(1, [], Value.slice script.ptr script.len script.cap), (5, [], Value.pointer r), (7, [], Value.pointer x), (9, [], Value.pointer none), (10, [], Value.pointer (some ⟨b_1, 0, none⟩)), (11, [], Value.int .i64 i), (61, [], Value.bool true)] (by kernel_rfl) (by kernel_rfl) ?_
                refine reg_end [(1, Value.slice script.ptr script.len script.cap), (5, Value.pointer r), (7, Value.pointer x), (9, Value.pointer none), (10, Value.pointer (some ⟨b_1, 0, none⟩)), (11, Value.int .i64 i), (61, Value.bool true)] (by kernel_rfl) (by kernel_rfl) ?_
                exact ⟨[(1, Value.slice script.ptr script.len script.cap), (5, Value.pointer r), (7, Value.pointer x), (9, Value.pointer none), (10, Value.pointer (some ⟨b_1, 0, none⟩)), (11, Value.int .i64 i), (61, Value.bool true)], Sub.mk (by kernel_rfl), true, rfl, h⟩
              · replace h := h.2 hb
                refine reg_run [] 13 [(1, [], Value.slice script.ptr script.len script.cap), (5, [], Value.pointer r), (7, [], Value.pointer x), (9, [], Value.pointer none), (10, [], Value.pointer (some ⟨b_1, 0, none⟩)), (11, [], Value.int .i64 i), (52, [], Value.bool false), (53, [], Value.pointer (some ⟨b_1, 0, none⟩)), (54, [], Value.pointer none), (55, [], Value.slice script.ptr script.len script.cap), (56, [], Value.int .i64 i)] (by kernel_rfl) (by kernel_rfl) ?_
                refine reg_run [] 13 [(1, [], Value.slice script.ptr script.len script.cap), (5, [], Value.pointer r), (7, [], Value.pointer x), (9, [], Value.pointer none), (10, [], Value.pointer (some ⟨b_1, 0, none⟩)), (11, [], Value.int .i64 i), (52, [], Value.bool false), (53, [], Value.pointer (some ⟨b_1, 0, none⟩)), (54, [], Value.pointer none), (55, [], Value.slice script.ptr script.len script.cap), (56, [], Value.int .i64 i)] (by kernel_rfl) (by kernel_rfl) ?_
                obtain ⟨hp_15, h⟩ := h
                refine reg_conv [(1, [], Value.slice script.ptr script.len script.cap), (5, [], Value.pointer r), (7, [], Value.pointer x), (9, [], Value.pointer none), (10, [], Value.pointer (some ⟨b_1, 0, none⟩)), (11, [], Value.int .i64 i), (52, [], Value.bool false), (53, [], Value.pointer (some ⟨b_1, 0, none⟩)), (54, [], Value.pointer none), (55, [], Value.slice (some ⟨(pblk script.ptr), (poff script.ptr), none⟩) script.len script.cap), (56, [], Value.int .i64 i)] (congrArg (fun pp => ([(1, [], Value.slice script.ptr script.len script.cap), (5, [], Value.pointer r), (7, [], Value.pointer x), (9, [], Value.pointer none), (10, [], Value.pointer (some ⟨b_1, 0, none⟩)), (11, [], Value.int .i64 i), (52, [], Value.bool false), (53, [], Value.pointer (some ⟨b_1, 0, none⟩)), (54, [], Value.pointer none), (55, [], Value.slice pp script.len script.cap), (56, [], Value.int .i64 i)] : GEnv)) hp_15) ?_
                obtain ⟨h0, h1, h⟩ := h
                refine reg_indexS (t := 59) (e := 67) (x := (Go.Operand.tmp 55)) (ix := (Go.Operand.tmp 56)) (b := (pblk script.ptr)) (o := (poff script.ptr)) (l := script.len) (c := script.cap) (k := .i64) (j := i) (ty := 0) (dst := some 57) (sz := 2) (by kernel_rfl) (by kernel_rfl) (by kernel_rfl) (by kernel_rfl) (by kernel_rfl) h0 h1 ?_
                refine reg_run [] 14 [(1, [], Value.slice script.ptr script.len script.cap), (5, [], Value.pointer r), (7, [], Value.pointer x), (9, [], Value.pointer none), (10, [], Value.pointer (some ⟨b_1, 0, none⟩)), (11, [], Value.int .i64 i), (52, [], Value.bool false), (53, [], Value.pointer (some ⟨b_1, 0, none⟩)), (54, [], Value.pointer none), (57, [], Value.pointer (some ⟨(pblk script.ptr), (poff script.ptr) + i.toNat * 2, none⟩))] (by kernel_rfl) (by kernel_rfl) ?_
                obtain ⟨v58, hc, h⟩ := h
                refine reg_loadN (t := 67) (a := (Go.Operand.tmp 57)) (b := (pblk script.ptr)) (o := ((poff script.ptr) + i.toNat * 2)) (ty := 67) (dst := some 58) [Value.int .u8 v58.Kind, Value.int .i64 v58.X] (by kernel_rfl) (by kernel_rfl) (by kernel_rfl) (k := 2) (by kernel_rfl) (by kernel_rfl) hc ?_
                refine reg_run [] 15 [(1, [], Value.slice script.ptr script.len script.cap), (5, [], Value.pointer r), (7, [], Value.pointer x), (9, [], Value.pointer none), (10, [], Value.pointer (some ⟨b_1, 0, none⟩)), (11, [], Value.int .i64 i), (52, [], Value.bool false), (53, [], Value.pointer (some ⟨b_1, 0, none⟩)), (54, [], Value.pointer none), (58, [], Value.agg #[Value.int .u8 v58.Kind, Value.int .i64 v58.X])] (by kernel_rfl) (by kernel_rfl) ?_
                refine reg_enter (op := (Go.Op.call (Go.Call.mk (Go.Callee.value (Go.Operand.func 39)) #[(Go.Operand.tmp 53), (Go.Operand.tmp 54), (Go.Operand.tmp 58)] #[36, 60, 67]))) (ty := 4) (dst := some 59) 39 #[Value.pointer (some ⟨b_1, 0, none⟩), Value.pointer none, Value.agg #[Value.int .u8 v58.Kind, Value.int .i64 v58.X]] (by kernel_rfl) (fun ww => by kernel_rfl) (Calls.mono h ?_)
                rintro _ w10 ⟨v59, rfl, h⟩
                refine ⟨_, rfl, ?_⟩
                refine reg_run [.sure, .plain] 18 [(1, [], Value.slice script.ptr script.len script.cap), (5, [], Value.pointer r), (7, [], Value.pointer x), (9, [], Value.pointer none), (10, [], Value.pointer (some ⟨b_1, 0, none⟩)), (11, [], Value.int .i64 i), (61, [], Value.bool (!v59))] (by kernel_rfl) (by kernel_rfl) ?_
                refine reg_end [(1, Value.slice script.ptr script.len script.cap), (5, Value.pointer r), (7, Value.pointer x), (9, Value.pointer none), (10, Value.pointer (some ⟨b_1, 0, none⟩)), (11, Value.int .i64 i), (61, Value.bool (!v59))] (by kernel_rfl) (by kernel_rfl) ?_
                exact ⟨[(1, Value.slice script.ptr script.len script.cap), (5, Value.pointer r), (7, Value.pointer x), (9, Value.pointer none), (10, Value.pointer (some ⟨b_1, 0, none⟩)), (11, Value.int .i64 i), (61, Value.bool (!v59))], Sub.mk (by kernel_rfl), (!v59), rfl, h⟩
            · rintro _ w8 ⟨t61, rfl, h⟩
              unfold F_towpathlaw10_RingPlays_k2 at h
              refine wpE_cond (o := (Operand.tmp 61)) (b := t61) (x := c_towpathlaw10_RingPlays_54) (y := c_towpathlaw10_RingPlays_58) (by kernel_rfl) (by kernel_rfl) (fun hb => ?_) (fun hb => ?_)
              · replace h := h.1 hb
                refine wpE_seq (x := c_towpathlaw10_RingPlays_55) (y := c_towpathlaw10_RingPlays_57) (by kernel_rfl) ?_
                refine wpE_region (id := 13) (ops := r_towpathlaw10_RingPlays_55) (by kernel_rfl) ?_
                refine reg_run [.plain] 1 [(4, [], Value.bool false)] (by kernel_rfl) (by kernel_rfl) ?_
                refine reg_end [(4, Value.bool false)] (by kernel_rfl) (by kernel_rfl) ?_
                change WpE _ _ c_towpathlaw10_RingPlays_57 _ _ _
                refine wpE_ret (by kernel_rfl) ?_
                repeat (first | refine seqQ_ret ?_ | refine blockQ_ret ?_ | refine loopQ_ret ?_ | refine cutQ_ret ?_)
                exact retS (rs := [(Go.ResultVar.tmp 4)]) (v := Value.bool false) (by kernel_rfl) (⟨by kernel_rfl, trivial⟩) ⟨false, rfl, h⟩
              · replace h := h.2 hb
                refine wpE_skip (by kernel_rfl) ?_
                change WpE _ _ c_towpathlaw10_RingPlays_59 _ _ _
                refine wpE_region (id := 11) (ops := r_towpathlaw10_RingPlays_59) (by kernel_rfl) ?_
                refine reg_run [.plain, .plain, .plain] 3 [(1, [], Value.slice script.ptr script.len script.cap), (5, [], Value.pointer r), (7, [], Value.pointer x), (9, [], Value.pointer none), (10, [], Value.pointer (some ⟨b_1, 0, none⟩)), (11, [], Value.int .i64 (IntKind.i64.wrap (i + 1)))] (by kernel_rfl) (by kernel_rfl) ?_
                refine reg_end [(1, Value.slice script.ptr script.len script.cap), (5, Value.pointer r), (7, Value.pointer x), (9, Value.pointer none), (10, Value.pointer (some ⟨b_1, 0, none⟩)), (11, Value.int .i64 (IntKind.i64.wrap (i + 1)))] (by kernel_rfl) (by kernel_rfl) ?_
                have hb_ := again__h _ _ h
                exact ⟨_, hb_.2, [(1, Value.slice script.ptr script.len script.cap), (5, Value.pointer r), (7, Value.pointer x), (9, Value.pointer none), (10, Value.pointer (some ⟨b_1, 0, none⟩)), (11, Value.int .i64 (IntKind.i64.wrap (i + 1)))], Sub.mk (by kernel_rfl), (IntKind.i64.wrap (i + 1)), rfl, hb_.1, rfl⟩
          · replace h := h.2 hb
            refine wpE_exit (id := 0) (by kernel_rfl) ?_
            change WpE _ _ c_towpathlaw10_RingPlays_61 _ _ _
            refine wpE_seq (x := c_towpathlaw10_RingPlays_62) (y := c_towpathlaw10_RingPlays_64) (by kernel_rfl) ?_
            refine wpE_region (id := 14) (ops := r_towpathlaw10_RingPlays_62) (by kernel_rfl) ?_
            refine reg_run [.plain] 1 [(7, [], Value.pointer x), (62, [], Value.pointer r)] (by kernel_rfl) (by kernel_rfl) ?_
            refine reg_enter (op := (Go.Op.call (Go.Call.mk (Go.Callee.value (Go.Operand.func 40)) #[(Go.Operand.tmp 62), (Go.Operand.const (Go.Value.int Go.IntKind.i64 1048576))] #[36, 3]))) (ty := 49) (dst := some 63) 40 #[Value.pointer r, Value.int .i64 1048576] (by kernel_rfl) (fun ww => by kernel_rfl) (Calls.mono h ?_)
            rintro _ w11 ⟨v63, rfl, h⟩
            refine ⟨_, rfl, ?_⟩
            refine reg_run [.plain] 3 [(63, [], Value.slice v63.ptr v63.len v63.cap), (64, [], Value.pointer x)] (by kernel_rfl) (by kernel_rfl) ?_
            refine reg_enter (op := (Go.Op.call (Go.Call.mk (Go.Callee.value (Go.Operand.func 41)) #[(Go.Operand.tmp 64)] #[60]))) (ty := 49) (dst := some 65) 41 #[Value.pointer x] (by kernel_rfl) (fun ww => by kernel_rfl) (Calls.mono h ?_)
            rintro _ w12 ⟨v65, rfl, h⟩
            refine ⟨_, rfl, ?_⟩
            refine reg_run [] 4 [(63, [], Value.slice v63.ptr v63.len v63.cap), (65, [], Value.slice v65.ptr v65.len v65.cap)] (by kernel_rfl) (by kernel_rfl) ?_
            refine reg_enter (op := (Go.Op.call (Go.Call.mk (Go.Callee.value (Go.Operand.func 35)) #[(Go.Operand.tmp 63), (Go.Operand.tmp 65)] #[49, 49]))) (ty := 4) (dst := some 66) 35 #[Value.slice v63.ptr v63.len v63.cap, Value.slice v65.ptr v65.len v65.cap] (by kernel_rfl) (fun ww => by kernel_rfl) (Calls.mono h ?_)
            rintro _ w13 ⟨v66, rfl, h⟩
            refine ⟨_, rfl, ?_⟩
            refine reg_run [.plain] 6 [(4, [], Value.bool v66)] (by kernel_rfl) (by kernel_rfl) ?_
            refine reg_end [(4, Value.bool v66)] (by kernel_rfl) (by kernel_rfl) ?_
            change WpE _ _ c_towpathlaw10_RingPlays_64 _ _ _
            refine wpE_ret (by kernel_rfl) ?_
            repeat (first | refine seqQ_ret ?_ | refine blockQ_ret ?_ | refine loopQ_ret ?_ | refine cutQ_ret ?_)
            exact retS (rs := [(Go.ResultVar.tmp 4)]) (v := Value.bool v66) (by kernel_rfl) (⟨by kernel_rfl, trivial⟩) ⟨v66, rfl, h⟩
  · rintro e w' ⟨v, rfl, r0, rfl, h⟩; exact ⟨r0, rfl, h⟩
end Go.Proofs.Ytchcljkflklddaa
