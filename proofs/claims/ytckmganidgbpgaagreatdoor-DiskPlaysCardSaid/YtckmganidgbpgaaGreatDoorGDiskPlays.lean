/- WRITTEN BY PROGRAM (dec.py): for each Go function the clean formula F, the call's contract C, and the proof S that F gives C. -/
import Derived.Test.YtckmganidgbpgaaGreatDoorRows
import Derived.Test.YtckmganidgbpgaaGreatDoorGF
namespace Go.Proofs.YtckmganidgbpgaaGreatDoor
open Go
set_option linter.unusedVariables false

/-! ### towpath/towpathlaw04.DiskPlays (function 3) -/
noncomputable def c_towpathlaw04_DiskPlays_0 : Code := (Tryz.f3.body).getD Code.skip
noncomputable def c_towpathlaw04_DiskPlays_1 : Code := Code.l c_towpathlaw04_DiskPlays_0
noncomputable def r_towpathlaw04_DiskPlays_1 : Array Oper := Code.ops c_towpathlaw04_DiskPlays_1
noncomputable def c_towpathlaw04_DiskPlays_3 : Code := Code.r c_towpathlaw04_DiskPlays_0
noncomputable def c_towpathlaw04_DiskPlays_4 : Code := Code.l c_towpathlaw04_DiskPlays_3
noncomputable def c_towpathlaw04_DiskPlays_5 : Code := Code.l c_towpathlaw04_DiskPlays_4
noncomputable def r_towpathlaw04_DiskPlays_5 : Array Oper := Code.ops c_towpathlaw04_DiskPlays_5
noncomputable def c_towpathlaw04_DiskPlays_7 : Code := Code.r c_towpathlaw04_DiskPlays_4
noncomputable def c_towpathlaw04_DiskPlays_8 : Code := Code.l c_towpathlaw04_DiskPlays_7
noncomputable def c_towpathlaw04_DiskPlays_9 : Code := Code.l c_towpathlaw04_DiskPlays_8
noncomputable def r_towpathlaw04_DiskPlays_9 : Array Oper := Code.ops c_towpathlaw04_DiskPlays_9
noncomputable def c_towpathlaw04_DiskPlays_11 : Code := Code.r c_towpathlaw04_DiskPlays_8
noncomputable def c_towpathlaw04_DiskPlays_12 : Code := Code.r c_towpathlaw04_DiskPlays_7
noncomputable def c_towpathlaw04_DiskPlays_13 : Code := Code.r c_towpathlaw04_DiskPlays_3
noncomputable def c_towpathlaw04_DiskPlays_14 : Code := Code.l c_towpathlaw04_DiskPlays_13
noncomputable def r_towpathlaw04_DiskPlays_14 : Array Oper := Code.ops c_towpathlaw04_DiskPlays_14
noncomputable def c_towpathlaw04_DiskPlays_16 : Code := Code.r c_towpathlaw04_DiskPlays_13
noncomputable def c_towpathlaw04_DiskPlays_17 : Code := Code.l c_towpathlaw04_DiskPlays_16
noncomputable def r_towpathlaw04_DiskPlays_17 : Array Oper := Code.ops c_towpathlaw04_DiskPlays_17
noncomputable def c_towpathlaw04_DiskPlays_19 : Code := Code.r c_towpathlaw04_DiskPlays_16
noncomputable def c_towpathlaw04_DiskPlays_20 : Code := Code.l c_towpathlaw04_DiskPlays_19
noncomputable def c_towpathlaw04_DiskPlays_21 : Code := Code.l c_towpathlaw04_DiskPlays_20
noncomputable def r_towpathlaw04_DiskPlays_21 : Array Oper := Code.ops c_towpathlaw04_DiskPlays_21
noncomputable def c_towpathlaw04_DiskPlays_23 : Code := Code.r c_towpathlaw04_DiskPlays_20
noncomputable def c_towpathlaw04_DiskPlays_24 : Code := Code.l c_towpathlaw04_DiskPlays_23
noncomputable def c_towpathlaw04_DiskPlays_25 : Code := Code.l c_towpathlaw04_DiskPlays_24
noncomputable def r_towpathlaw04_DiskPlays_25 : Array Oper := Code.ops c_towpathlaw04_DiskPlays_25
noncomputable def c_towpathlaw04_DiskPlays_27 : Code := Code.r c_towpathlaw04_DiskPlays_24
noncomputable def c_towpathlaw04_DiskPlays_28 : Code := Code.r c_towpathlaw04_DiskPlays_23
noncomputable def c_towpathlaw04_DiskPlays_29 : Code := Code.r c_towpathlaw04_DiskPlays_19
noncomputable def c_towpathlaw04_DiskPlays_30 : Code := Code.l c_towpathlaw04_DiskPlays_29
noncomputable def r_towpathlaw04_DiskPlays_30 : Array Oper := Code.ops c_towpathlaw04_DiskPlays_30
noncomputable def c_towpathlaw04_DiskPlays_32 : Code := Code.r c_towpathlaw04_DiskPlays_29
noncomputable def c_towpathlaw04_DiskPlays_33 : Code := Code.l c_towpathlaw04_DiskPlays_32
noncomputable def c_towpathlaw04_DiskPlays_34 : Code := Code.l c_towpathlaw04_DiskPlays_33
noncomputable def r_towpathlaw04_DiskPlays_34 : Array Oper := Code.ops c_towpathlaw04_DiskPlays_34
noncomputable def c_towpathlaw04_DiskPlays_36 : Code := Code.r c_towpathlaw04_DiskPlays_33
noncomputable def c_towpathlaw04_DiskPlays_37 : Code := Code.l c_towpathlaw04_DiskPlays_36
noncomputable def c_towpathlaw04_DiskPlays_38 : Code := Code.l c_towpathlaw04_DiskPlays_37
noncomputable def c_towpathlaw04_DiskPlays_39 : Code := Code.l c_towpathlaw04_DiskPlays_38
noncomputable def c_towpathlaw04_DiskPlays_40 : Code := Code.l c_towpathlaw04_DiskPlays_39
noncomputable def r_towpathlaw04_DiskPlays_40 : Array Oper := Code.ops c_towpathlaw04_DiskPlays_40
noncomputable def c_towpathlaw04_DiskPlays_42 : Code := Code.r c_towpathlaw04_DiskPlays_39
noncomputable def c_towpathlaw04_DiskPlays_43 : Code := Code.l c_towpathlaw04_DiskPlays_42
noncomputable def c_towpathlaw04_DiskPlays_44 : Code := Code.r c_towpathlaw04_DiskPlays_42
noncomputable def c_towpathlaw04_DiskPlays_45 : Code := Code.r c_towpathlaw04_DiskPlays_38
noncomputable def c_towpathlaw04_DiskPlays_46 : Code := Code.l c_towpathlaw04_DiskPlays_45
noncomputable def c_towpathlaw04_DiskPlays_47 : Code := Code.l c_towpathlaw04_DiskPlays_46
noncomputable def c_towpathlaw04_DiskPlays_48 : Code := Code.l c_towpathlaw04_DiskPlays_47
noncomputable def c_towpathlaw04_DiskPlays_49 : Code := Code.l c_towpathlaw04_DiskPlays_48
noncomputable def r_towpathlaw04_DiskPlays_49 : Array Oper := Code.ops c_towpathlaw04_DiskPlays_49
noncomputable def c_towpathlaw04_DiskPlays_51 : Code := Code.r c_towpathlaw04_DiskPlays_48
noncomputable def c_towpathlaw04_DiskPlays_52 : Code := Code.l c_towpathlaw04_DiskPlays_51
noncomputable def c_towpathlaw04_DiskPlays_53 : Code := Code.l c_towpathlaw04_DiskPlays_52
noncomputable def r_towpathlaw04_DiskPlays_53 : Array Oper := Code.ops c_towpathlaw04_DiskPlays_53
noncomputable def c_towpathlaw04_DiskPlays_55 : Code := Code.r c_towpathlaw04_DiskPlays_52
noncomputable def c_towpathlaw04_DiskPlays_56 : Code := Code.r c_towpathlaw04_DiskPlays_51
noncomputable def c_towpathlaw04_DiskPlays_57 : Code := Code.r c_towpathlaw04_DiskPlays_47
noncomputable def c_towpathlaw04_DiskPlays_58 : Code := Code.l c_towpathlaw04_DiskPlays_57
noncomputable def r_towpathlaw04_DiskPlays_58 : Array Oper := Code.ops c_towpathlaw04_DiskPlays_58
noncomputable def c_towpathlaw04_DiskPlays_60 : Code := Code.r c_towpathlaw04_DiskPlays_57
noncomputable def c_towpathlaw04_DiskPlays_61 : Code := Code.l c_towpathlaw04_DiskPlays_60
noncomputable def c_towpathlaw04_DiskPlays_62 : Code := Code.l c_towpathlaw04_DiskPlays_61
noncomputable def r_towpathlaw04_DiskPlays_62 : Array Oper := Code.ops c_towpathlaw04_DiskPlays_62
noncomputable def c_towpathlaw04_DiskPlays_64 : Code := Code.r c_towpathlaw04_DiskPlays_61
noncomputable def r_towpathlaw04_DiskPlays_64 : Array Oper := Code.ops c_towpathlaw04_DiskPlays_64
noncomputable def c_towpathlaw04_DiskPlays_66 : Code := Code.r c_towpathlaw04_DiskPlays_60
noncomputable def c_towpathlaw04_DiskPlays_67 : Code := Code.r c_towpathlaw04_DiskPlays_45
noncomputable def r_towpathlaw04_DiskPlays_67 : Array Oper := Code.ops c_towpathlaw04_DiskPlays_67
noncomputable def c_towpathlaw04_DiskPlays_69 : Code := Code.r c_towpathlaw04_DiskPlays_32
noncomputable def c_towpathlaw04_DiskPlays_70 : Code := Code.l c_towpathlaw04_DiskPlays_69
noncomputable def r_towpathlaw04_DiskPlays_70 : Array Oper := Code.ops c_towpathlaw04_DiskPlays_70
noncomputable def c_towpathlaw04_DiskPlays_72 : Code := Code.r c_towpathlaw04_DiskPlays_69

set_option maxRecDepth 100000 in
set_option maxHeartbeats 4000000 in
theorem S_towpathlaw04_DiskPlays {capacity : Int} {script : Slc} {w : World} {R : Bool → World → Prop} (h : F_towpathlaw04_DiskPlays capacity script R w) : C_towpathlaw04_DiskPlays capacity script w R := by
  unfold F_towpathlaw04_DiskPlays at h
  unfold C_towpathlaw04_DiskPlays
  refine Calls.mono (calls_of_wpE (args := [Value.int .i64 capacity, Value.slice script.ptr script.len script.cap]) (R := fun v w' => ∃ (r0 : Bool), v = Value.bool r0 ∧ R r0 w') Tryz.func3 (c := c_towpathlaw04_DiskPlays_0) (by kernel_rfl) 83 (by kernel_rfl) (by kernel_rfl) [(0, Value.int .i64 capacity), (1, Value.slice script.ptr script.len script.cap)] (by kernel_rfl) ?_) ?_
  · refine wpE_seq (x := c_towpathlaw04_DiskPlays_1) (y := c_towpathlaw04_DiskPlays_3) (by kernel_rfl) ?_
    refine wpE_region (id := 0) (ops := r_towpathlaw04_DiskPlays_1) (by kernel_rfl) ?_
    refine reg_run [.plain] 1 [(0, [], Value.int .i64 capacity), (1, [], Value.slice script.ptr script.len script.cap)] (by kernel_rfl) (by kernel_rfl) ?_
    refine reg_end [(0, Value.int .i64 capacity), (1, Value.slice script.ptr script.len script.cap)] (by kernel_rfl) (by kernel_rfl) ?_
    change WpE _ _ c_towpathlaw04_DiskPlays_3 _ _ _
    refine wpE_seq (x := c_towpathlaw04_DiskPlays_4) (y := c_towpathlaw04_DiskPlays_13) (by kernel_rfl) ?_
    refine wpE_seq (x := c_towpathlaw04_DiskPlays_5) (y := c_towpathlaw04_DiskPlays_7) (by kernel_rfl) ?_
    refine wpE_region (id := 1) (ops := r_towpathlaw04_DiskPlays_5) (by kernel_rfl) ?_
    refine reg_run [.plain] 1 [(0, [], Value.int .i64 capacity), (1, [], Value.slice script.ptr script.len script.cap), (13, [], Value.slice script.ptr script.len script.cap)] (by kernel_rfl) (by kernel_rfl) ?_
    refine reg_enter (op := (Go.Op.call (Go.Call.mk (Go.Callee.value (Go.Operand.func 4)) #[(Go.Operand.tmp 13)] #[22]))) (ty := 4) (dst := some 14) 4 #[Value.slice script.ptr script.len script.cap] (by kernel_rfl) (fun ww => by kernel_rfl) (Calls.mono h ?_)
    rintro _ w1 ⟨v14, rfl, h⟩
    refine ⟨_, rfl, ?_⟩
    refine reg_end [(0, Value.int .i64 capacity), (1, Value.slice script.ptr script.len script.cap), (14, Value.bool v14)] (by kernel_rfl) (by kernel_rfl) ?_
    change WpE _ _ c_towpathlaw04_DiskPlays_7 _ _ _
    refine wpE_cond (o := (Operand.tmp 14)) (b := v14) (x := c_towpathlaw04_DiskPlays_8) (y := c_towpathlaw04_DiskPlays_12) (by kernel_rfl) (by kernel_rfl) (fun hb => ?_) (fun hb => ?_)
    · replace h := h.1 hb
      refine wpE_seq (x := c_towpathlaw04_DiskPlays_9) (y := c_towpathlaw04_DiskPlays_11) (by kernel_rfl) ?_
      refine wpE_region (id := 2) (ops := r_towpathlaw04_DiskPlays_9) (by kernel_rfl) ?_
      refine reg_run [.plain] 1 [(4, [], Value.bool true)] (by kernel_rfl) (by kernel_rfl) ?_
      refine reg_end [(4, Value.bool true)] (by kernel_rfl) (by kernel_rfl) ?_
      change WpE _ _ c_towpathlaw04_DiskPlays_11 _ _ _
      refine wpE_ret (by kernel_rfl) ?_
      repeat (first | refine seqQ_ret ?_ | refine blockQ_ret ?_ | refine loopQ_ret ?_ | refine cutQ_ret ?_)
      exact retS (rs := [(Go.ResultVar.tmp 4)]) (v := Value.bool true) (by kernel_rfl) (⟨by kernel_rfl, trivial⟩) ⟨true, rfl, h⟩
    · replace h := h.2 hb
      refine wpE_skip (by kernel_rfl) ?_
      change WpE _ _ c_towpathlaw04_DiskPlays_13 _ _ _
      refine wpE_seq (x := c_towpathlaw04_DiskPlays_14) (y := c_towpathlaw04_DiskPlays_16) (by kernel_rfl) ?_
      refine wpE_region (id := 3) (ops := r_towpathlaw04_DiskPlays_14) (by kernel_rfl) ?_
      refine reg_run [.plain] 1 [(0, [], Value.int .i64 capacity), (1, [], Value.slice script.ptr script.len script.cap), (16, [], Value.int .i64 capacity)] (by kernel_rfl) (by kernel_rfl) ?_
      refine reg_enter (op := (Go.Op.call (Go.Call.mk (Go.Callee.value (Go.Operand.func 5)) #[(Go.Operand.tmp 16)] #[3]))) (ty := 26) (dst := some 17) 5 #[Value.int .i64 capacity] (by kernel_rfl) (fun ww => by kernel_rfl) (Calls.mono h ?_)
      rintro _ w2 ⟨d, e, rfl, h⟩
      refine ⟨_, rfl, ?_⟩
      refine reg_run [.plain, .plain, .plain, .plain, .plain] 7 [(0, [], Value.int .i64 capacity), (1, [], Value.slice script.ptr script.len script.cap), (5, [], Value.pointer d), (6, [], Value.int .i64 e)] (by kernel_rfl) (by kernel_rfl) ?_
      refine reg_end [(0, Value.int .i64 capacity), (1, Value.slice script.ptr script.len script.cap), (5, Value.pointer d), (6, Value.int .i64 e)] (by kernel_rfl) (by kernel_rfl) ?_
      change WpE _ _ c_towpathlaw04_DiskPlays_16 _ _ _
      refine wpE_seq (x := c_towpathlaw04_DiskPlays_17) (y := c_towpathlaw04_DiskPlays_19) (by kernel_rfl) ?_
      refine wpE_region (id := 4) (ops := r_towpathlaw04_DiskPlays_17) (by kernel_rfl) ?_
      refine reg_run [.plain] 1 [(1, [], Value.slice script.ptr script.len script.cap), (5, [], Value.pointer d), (6, [], Value.int .i64 e), (21, [], Value.int .i64 capacity)] (by kernel_rfl) (by kernel_rfl) ?_
      refine reg_enter (op := (Go.Op.call (Go.Call.mk (Go.Callee.value (Go.Operand.func 6)) #[(Go.Operand.tmp 21)] #[3]))) (ty := 29) (dst := some 22) 6 #[Value.int .i64 capacity] (by kernel_rfl) (fun ww => by kernel_rfl) (Calls.mono h ?_)
      rintro _ w3 ⟨r, f, rfl, h⟩
      refine ⟨_, rfl, ?_⟩
      refine reg_run [.plain, .plain, .plain, .plain, .plain] 7 [(1, [], Value.slice script.ptr script.len script.cap), (5, [], Value.pointer d), (6, [], Value.int .i64 e), (7, [], Value.pointer r), (8, [], Value.int .i64 f)] (by kernel_rfl) (by kernel_rfl) ?_
      refine reg_end [(1, Value.slice script.ptr script.len script.cap), (5, Value.pointer d), (6, Value.int .i64 e), (7, Value.pointer r), (8, Value.int .i64 f)] (by kernel_rfl) (by kernel_rfl) ?_
      change WpE _ _ c_towpathlaw04_DiskPlays_19 _ _ _
      refine wpE_seq (x := c_towpathlaw04_DiskPlays_20) (y := c_towpathlaw04_DiskPlays_29) (by kernel_rfl) ?_
      refine wpE_seq_cut (x := c_towpathlaw04_DiskPlays_21) (y := c_towpathlaw04_DiskPlays_23) (by kernel_rfl) (fun l w => ∃ (t34 : Bool), l = [(1, Value.slice script.ptr script.len script.cap), (5, Value.pointer d), (7, Value.pointer r), (34, Value.bool t34)] ∧ F_towpathlaw04_DiskPlays_k0 script R d r t34 w) ?_ ?_
      · refine wpE_region (id := 5) (ops := r_towpathlaw04_DiskPlays_21) (by kernel_rfl) ?_
        refine reg_run [.plain, .plain, .plain, .plain, .plain] 5 [(1, [], Value.slice script.ptr script.len script.cap), (5, [], Value.pointer d), (7, [], Value.pointer r), (28, [], Value.bool (e != f)), (29, [(28, false)], Value.pointer d)] (by kernel_rfl) (by kernel_rfl) ?_
        refine reg_split 28 (e != f) (by kernel_rfl) (fun hb => ?_) (fun hb => ?_)
        · replace h := h.1 hb
          refine reg_run [] 5 [(1, [], Value.slice script.ptr script.len script.cap), (5, [], Value.pointer d), (7, [], Value.pointer r), (28, [], Value.bool true), (29, [], undef)] (by kernel_rfl) (by kernel_rfl) ?_
          refine reg_run [.skip, .skip, .skip, .skip, .plain] 10 [(1, [], Value.slice script.ptr script.len script.cap), (5, [], Value.pointer d), (7, [], Value.pointer r), (34, [], Value.bool true)] (by kernel_rfl) (by kernel_rfl) ?_
          refine reg_end [(1, Value.slice script.ptr script.len script.cap), (5, Value.pointer d), (7, Value.pointer r), (34, Value.bool true)] (by kernel_rfl) (by kernel_rfl) ?_
          exact ⟨[(1, Value.slice script.ptr script.len script.cap), (5, Value.pointer d), (7, Value.pointer r), (34, Value.bool true)], Sub.mk (by kernel_rfl), true, rfl, h⟩
        · replace h := h.2 hb
          refine reg_run [] 5 [(1, [], Value.slice script.ptr script.len script.cap), (5, [], Value.pointer d), (7, [], Value.pointer r), (28, [], Value.bool false), (29, [], Value.pointer d)] (by kernel_rfl) (by kernel_rfl) ?_
          refine reg_run [] 5 [(1, [], Value.slice script.ptr script.len script.cap), (5, [], Value.pointer d), (7, [], Value.pointer r), (28, [], Value.bool false), (29, [], Value.pointer d)] (by kernel_rfl) (by kernel_rfl) ?_
          refine reg_val (op := (Go.Op.binOp Go.BinOp.eql 24 (Go.Operand.tmp 29) (Go.Operand.const (Go.Value.pointer none)) 24)) (ty := 4) (dst := some 30) (Value.bool d.isNone) (by kernel_rfl) (fun ww => run_ptr_eql_R (p := d) (by kernel_rfl) (by kernel_rfl) (by kernel_rfl) ww) ?_
          refine reg_run [.sure] 7 [(1, [], Value.slice script.ptr script.len script.cap), (5, [], Value.pointer d), (7, [], Value.pointer r), (28, [], Value.bool false), (30, [], Value.bool d.isNone), (31, [], Value.pointer r)] (by kernel_rfl) (by kernel_rfl) ?_
          refine reg_val (op := (Go.Op.binOp Go.BinOp.eql 28 (Go.Operand.tmp 31) (Go.Operand.const (Go.Value.pointer none)) 28)) (ty := 4) (dst := some 32) (Value.bool r.isNone) (by kernel_rfl) (fun ww => run_ptr_eql_R (p := r) (by kernel_rfl) (by kernel_rfl) (by kernel_rfl) ww) ?_
          refine reg_run [.sure, .plain] 10 [(1, [], Value.slice script.ptr script.len script.cap), (5, [], Value.pointer d), (7, [], Value.pointer r), (34, [], Value.bool (!(d.isNone == r.isNone)))] (by kernel_rfl) (by kernel_rfl) ?_
          refine reg_end [(1, Value.slice script.ptr script.len script.cap), (5, Value.pointer d), (7, Value.pointer r), (34, Value.bool (!(d.isNone == r.isNone)))] (by kernel_rfl) (by kernel_rfl) ?_
          exact ⟨[(1, Value.slice script.ptr script.len script.cap), (5, Value.pointer d), (7, Value.pointer r), (34, Value.bool (!(d.isNone == r.isNone)))], Sub.mk (by kernel_rfl), (!(d.isNone == r.isNone)), rfl, h⟩
      · rintro _ w4 ⟨t34, rfl, h⟩
        unfold F_towpathlaw04_DiskPlays_k0 at h
        refine wpE_cond (o := (Operand.tmp 34)) (b := t34) (x := c_towpathlaw04_DiskPlays_24) (y := c_towpathlaw04_DiskPlays_28) (by kernel_rfl) (by kernel_rfl) (fun hb => ?_) (fun hb => ?_)
        · replace h := h.1 hb
          refine wpE_seq (x := c_towpathlaw04_DiskPlays_25) (y := c_towpathlaw04_DiskPlays_27) (by kernel_rfl) ?_
          refine wpE_region (id := 6) (ops := r_towpathlaw04_DiskPlays_25) (by kernel_rfl) ?_
          refine reg_run [.plain] 1 [(4, [], Value.bool false)] (by kernel_rfl) (by kernel_rfl) ?_
          refine reg_end [(4, Value.bool false)] (by kernel_rfl) (by kernel_rfl) ?_
          change WpE _ _ c_towpathlaw04_DiskPlays_27 _ _ _
          refine wpE_ret (by kernel_rfl) ?_
          repeat (first | refine seqQ_ret ?_ | refine blockQ_ret ?_ | refine loopQ_ret ?_ | refine cutQ_ret ?_)
          exact retS (rs := [(Go.ResultVar.tmp 4)]) (v := Value.bool false) (by kernel_rfl) (⟨by kernel_rfl, trivial⟩) ⟨false, rfl, h⟩
        · replace h := h.2 hb
          refine wpE_skip (by kernel_rfl) ?_
          change WpE _ _ c_towpathlaw04_DiskPlays_29 _ _ _
          refine wpE_seq (x := c_towpathlaw04_DiskPlays_30) (y := c_towpathlaw04_DiskPlays_32) (by kernel_rfl) ?_
          refine wpE_region (id := 7) (ops := r_towpathlaw04_DiskPlays_30) (by kernel_rfl) ?_
          refine reg_run [.plain] 1 [(1, [], Value.slice script.ptr script.len script.cap), (5, [], Value.pointer d), (7, [], Value.pointer r), (35, [], Value.agg #[Value.int .i64 0, Value.slice none 0 0, Value.slice none 0 0, Value.slice none 0 0, Value.slice none 0 0, Value.slice none 0 0, Value.slice none 0 0, Value.slice none 0 0, Value.slice none 0 0, Value.slice none 0 0, Value.slice none 0 0, Value.slice none 0 0])] (by kernel_rfl) (by kernel_rfl) ?_
          refine reg_new (op := (Go.Op.alloc 43)) (ty := 0) (dst := some 9) (fun bb => Value.pointer (some ⟨bb, 0, none⟩)) (Obj.cells ([Value.int .i64 0, Value.slice none 0 0, Value.slice none 0 0, Value.slice none 0 0, Value.slice none 0 0, Value.slice none 0 0, Value.slice none 0 0, Value.slice none 0 0, Value.slice none 0 0, Value.slice none 0 0, Value.slice none 0 0, Value.slice none 0 0]).toArray ty_towpathlaw01_Book (0, 0)) (by kernel_rfl) (by kernel_rfl) (fun b_ w5 hb hw => ?_)
          replace h := h b_ w5 hb hw
          clear hb hw
          refine reg_run [] 2 [(1, [], Value.slice script.ptr script.len script.cap), (5, [], Value.pointer d), (7, [], Value.pointer r), (9, [], Value.pointer (some ⟨b_, 0, none⟩)), (35, [], Value.agg #[Value.int .i64 0, Value.slice none 0 0, Value.slice none 0 0, Value.slice none 0 0, Value.slice none 0 0, Value.slice none 0 0, Value.slice none 0 0, Value.slice none 0 0, Value.slice none 0 0, Value.slice none 0 0, Value.slice none 0 0, Value.slice none 0 0])] (by kernel_rfl) (by kernel_rfl) ?_
          obtain ⟨hc, h⟩ := h
          refine reg_store (t := 43) (a := (Go.Operand.tmp 9)) (x := (Go.Operand.tmp 35)) (b := b_) (o := 0) (ty := 0) (dst := none) [Value.int .i64 0, Value.slice none 0 0, Value.slice none 0 0, Value.slice none 0 0, Value.slice none 0 0, Value.slice none 0 0, Value.slice none 0 0, Value.slice none 0 0, Value.slice none 0 0, Value.slice none 0 0, Value.slice none 0 0, Value.slice none 0 0] (by kernel_rfl) (by kernel_rfl) (by kernel_rfl) (k := 12) (by kernel_rfl) (by kernel_rfl) (by kernel_rfl) hc (fun w6 hw => ?_)
          replace h := h w6 hw
          clear hw
          refine reg_end [(1, Value.slice script.ptr script.len script.cap), (5, Value.pointer d), (7, Value.pointer r), (9, Value.pointer (some ⟨b_, 0, none⟩))] (by kernel_rfl) (by kernel_rfl) ?_
          change WpE _ _ c_towpathlaw04_DiskPlays_32 _ _ _
          refine wpE_seq (x := c_towpathlaw04_DiskPlays_33) (y := c_towpathlaw04_DiskPlays_69) (by kernel_rfl) ?_
          refine wpE_seq (x := c_towpathlaw04_DiskPlays_34) (y := c_towpathlaw04_DiskPlays_36) (by kernel_rfl) ?_
          refine wpE_region (id := 8) (ops := r_towpathlaw04_DiskPlays_34) (by kernel_rfl) ?_
          refine reg_run [.plain] 1 [(1, [], Value.slice script.ptr script.len script.cap), (5, [], Value.pointer d), (7, [], Value.pointer r), (9, [], Value.pointer (some ⟨b_, 0, none⟩)), (10, [], Value.int .i64 0)] (by kernel_rfl) (by kernel_rfl) ?_
          refine reg_end [(1, Value.slice script.ptr script.len script.cap), (5, Value.pointer d), (7, Value.pointer r), (9, Value.pointer (some ⟨b_, 0, none⟩)), (10, Value.int .i64 0)] (by kernel_rfl) (by kernel_rfl) ?_
          change WpE _ _ c_towpathlaw04_DiskPlays_36 _ _ _
          refine wpE_block (id := 0) (x := c_towpathlaw04_DiskPlays_37) (by kernel_rfl) ?_
          obtain ⟨I, μ, h0, hr⟩ := h
          refine wpE_loop (x := c_towpathlaw04_DiskPlays_38) (by kernel_rfl) (fun m l w => ∃ (i : Int), l = [(1, Value.slice script.ptr script.len script.cap), (5, Value.pointer d), (7, Value.pointer r), (9, Value.pointer (some ⟨b_, 0, none⟩)), (10, Value.int .i64 i)] ∧ I i w ∧ μ i w = m) (l' := [(1, Value.slice script.ptr script.len script.cap), (5, Value.pointer d), (7, Value.pointer r), (9, Value.pointer (some ⟨b_, 0, none⟩)), (10, Value.int .i64 0)]) (Sub.mk (by kernel_rfl)) ⟨0, rfl, h0, rfl⟩ ?_
          rintro _ _ w7 ⟨i, rfl, hI, rfl⟩
          obtain ⟨again_, again__h, h⟩ : ∃ again_ : Int → World → Prop, (∀ i' w', again_ i' w' → I i' w' ∧ μ i' w' < μ i w7) ∧ F_towpathlaw04_DiskPlays_L1 script R d r b_ again_ i w7 := ⟨_, fun _ _ h => h, hr i w7 hI⟩
          clear h0 hI
          unfold F_towpathlaw04_DiskPlays_L1 at h
          refine wpE_seq (x := c_towpathlaw04_DiskPlays_39) (y := c_towpathlaw04_DiskPlays_45) (by kernel_rfl) ?_
          refine wpE_seq (x := c_towpathlaw04_DiskPlays_40) (y := c_towpathlaw04_DiskPlays_42) (by kernel_rfl) ?_
          refine wpE_region (id := 9) (ops := r_towpathlaw04_DiskPlays_40) (by kernel_rfl) ?_
          refine reg_run [.plain, .plain, .plain, .plain] 4 [(1, [], Value.slice script.ptr script.len script.cap), (5, [], Value.pointer d), (7, [], Value.pointer r), (9, [], Value.pointer (some ⟨b_, 0, none⟩)), (10, [], Value.int .i64 i), (39, [], Value.bool (decide (i < ((script.len : Nat) : Int))))] (by kernel_rfl) (by kernel_rfl) ?_
          refine reg_end [(1, Value.slice script.ptr script.len script.cap), (5, Value.pointer d), (7, Value.pointer r), (9, Value.pointer (some ⟨b_, 0, none⟩)), (10, Value.int .i64 i), (39, Value.bool (decide (i < ((script.len : Nat) : Int))))] (by kernel_rfl) (by kernel_rfl) ?_
          change WpE _ _ c_towpathlaw04_DiskPlays_42 _ _ _
          refine wpE_cond (o := (Operand.tmp 39)) (b := (decide (i < ((script.len : Nat) : Int)))) (x := c_towpathlaw04_DiskPlays_43) (y := c_towpathlaw04_DiskPlays_44) (by kernel_rfl) (by kernel_rfl) (fun hb => ?_) (fun hb => ?_)
          · replace h := h.1 hb
            refine wpE_skip (by kernel_rfl) ?_
            change WpE _ _ c_towpathlaw04_DiskPlays_45 _ _ _
            refine wpE_seq_cut (x := c_towpathlaw04_DiskPlays_46) (y := c_towpathlaw04_DiskPlays_67) (by kernel_rfl) (fun l w => l = [(1, Value.slice script.ptr script.len script.cap), (5, Value.pointer d), (7, Value.pointer r), (9, Value.pointer (some ⟨b_, 0, none⟩)), (10, Value.int .i64 i)] ∧ F_towpathlaw04_DiskPlays_k2 i again_ w) ?_ ?_
            · refine wpE_block (id := 1) (x := c_towpathlaw04_DiskPlays_47) (by kernel_rfl) ?_
              refine wpE_seq (x := c_towpathlaw04_DiskPlays_48) (y := c_towpathlaw04_DiskPlays_57) (by kernel_rfl) ?_
              refine wpE_seq_cut (x := c_towpathlaw04_DiskPlays_49) (y := c_towpathlaw04_DiskPlays_51) (by kernel_rfl) (fun l w => ∃ (t55 : Bool), l = [(1, Value.slice script.ptr script.len script.cap), (5, Value.pointer d), (7, Value.pointer r), (9, Value.pointer (some ⟨b_, 0, none⟩)), (10, Value.int .i64 i), (55, Value.bool t55)] ∧ F_towpathlaw04_DiskPlays_k3 script R d b_ i again_ t55 w) ?_ ?_
              · refine wpE_region (id := 11) (ops := r_towpathlaw04_DiskPlays_49) (by kernel_rfl) ?_
                refine reg_run [.plain, .plain, .plain, .plain] 4 [(1, [], Value.slice script.ptr script.len script.cap), (5, [], Value.pointer d), (7, [], Value.pointer r), (9, [], Value.pointer (some ⟨b_, 0, none⟩)), (10, [], Value.int .i64 i), (42, [], Value.pointer d), (43, [], Value.pointer r), (44, [], Value.slice script.ptr script.len script.cap), (45, [], Value.int .i64 i)] (by kernel_rfl) (by kernel_rfl) ?_
                obtain ⟨hp_23, h⟩ := h
                refine reg_conv [(1, [], Value.slice script.ptr script.len script.cap), (5, [], Value.pointer d), (7, [], Value.pointer r), (9, [], Value.pointer (some ⟨b_, 0, none⟩)), (10, [], Value.int .i64 i), (42, [], Value.pointer d), (43, [], Value.pointer r), (44, [], Value.slice (some ⟨(pblk script.ptr), (poff script.ptr), none⟩) script.len script.cap), (45, [], Value.int .i64 i)] (congrArg (fun pp => ([(1, [], Value.slice script.ptr script.len script.cap), (5, [], Value.pointer d), (7, [], Value.pointer r), (9, [], Value.pointer (some ⟨b_, 0, none⟩)), (10, [], Value.int .i64 i), (42, [], Value.pointer d), (43, [], Value.pointer r), (44, [], Value.slice pp script.len script.cap), (45, [], Value.int .i64 i)] : GEnv)) hp_23) ?_
                obtain ⟨h0, h1, h⟩ := h
                refine reg_indexS (t := 22) (e := 47) (x := (Go.Operand.tmp 44)) (ix := (Go.Operand.tmp 45)) (b := (pblk script.ptr)) (o := (poff script.ptr)) (l := script.len) (c := script.cap) (k := .i64) (j := i) (ty := 0) (dst := some 46) (sz := 5) (by kernel_rfl) (by kernel_rfl) (by kernel_rfl) (by kernel_rfl) (by kernel_rfl) h0 h1 ?_
                refine reg_run [] 5 [(1, [], Value.slice script.ptr script.len script.cap), (5, [], Value.pointer d), (7, [], Value.pointer r), (9, [], Value.pointer (some ⟨b_, 0, none⟩)), (10, [], Value.int .i64 i), (42, [], Value.pointer d), (43, [], Value.pointer r), (46, [], Value.pointer (some ⟨(pblk script.ptr), (poff script.ptr) + i.toNat * 5, none⟩))] (by kernel_rfl) (by kernel_rfl) ?_
                obtain ⟨v47, hc, h⟩ := h
                refine reg_loadN (t := 47) (a := (Go.Operand.tmp 46)) (b := (pblk script.ptr)) (o := ((poff script.ptr) + i.toNat * 5)) (ty := 47) (dst := some 47) [Value.int .u8 v47.Kind, Value.int .i64 v47.Slot, Value.int .i64 v47.At, Value.slice v47.B.ptr v47.B.len v47.B.cap, Value.int .i64 v47.N] (by kernel_rfl) (by kernel_rfl) (by kernel_rfl) (k := 5) (by kernel_rfl) (by kernel_rfl) hc ?_
                refine reg_run [] 6 [(1, [], Value.slice script.ptr script.len script.cap), (5, [], Value.pointer d), (7, [], Value.pointer r), (9, [], Value.pointer (some ⟨b_, 0, none⟩)), (10, [], Value.int .i64 i), (42, [], Value.pointer d), (43, [], Value.pointer r), (47, [], Value.agg #[Value.int .u8 v47.Kind, Value.int .i64 v47.Slot, Value.int .i64 v47.At, Value.slice v47.B.ptr v47.B.len v47.B.cap, Value.int .i64 v47.N])] (by kernel_rfl) (by kernel_rfl) ?_
                refine reg_enter (op := (Go.Op.call (Go.Call.mk (Go.Callee.value (Go.Operand.func 7)) #[(Go.Operand.tmp 42), (Go.Operand.tmp 43), (Go.Operand.tmp 47)] #[24, 28, 47]))) (ty := 4) (dst := some 48) 7 #[Value.pointer d, Value.pointer r, Value.agg #[Value.int .u8 v47.Kind, Value.int .i64 v47.Slot, Value.int .i64 v47.At, Value.slice v47.B.ptr v47.B.len v47.B.cap, Value.int .i64 v47.N]] (by kernel_rfl) (fun ww => by kernel_rfl) (Calls.mono h ?_)
                rintro _ w12 ⟨v48, rfl, h⟩
                refine ⟨_, rfl, ?_⟩
                refine reg_run [.plain, .plain, .plain, .plain] 11 [(1, [], Value.slice script.ptr script.len script.cap), (5, [], Value.pointer d), (7, [], Value.pointer r), (9, [], Value.pointer (some ⟨b_, 0, none⟩)), (10, [], Value.int .i64 i), (50, [], Value.bool (!v48)), (51, [(50, false)], Value.pointer d), (52, [(50, false)], Value.pointer r)] (by kernel_rfl) (by kernel_rfl) ?_
                refine reg_split 50 (!v48) (by kernel_rfl) (fun hb => ?_) (fun hb => ?_)
                · replace h := h.1 hb
                  refine reg_run [] 11 [(1, [], Value.slice script.ptr script.len script.cap), (5, [], Value.pointer d), (7, [], Value.pointer r), (9, [], Value.pointer (some ⟨b_, 0, none⟩)), (10, [], Value.int .i64 i), (50, [], Value.bool true), (51, [], undef), (52, [], undef)] (by kernel_rfl) (by kernel_rfl) ?_
                  refine reg_run [.skip, .skip, .plain] 14 [(1, [], Value.slice script.ptr script.len script.cap), (5, [], Value.pointer d), (7, [], Value.pointer r), (9, [], Value.pointer (some ⟨b_, 0, none⟩)), (10, [], Value.int .i64 i), (55, [], Value.bool true)] (by kernel_rfl) (by kernel_rfl) ?_
                  refine reg_end [(1, Value.slice script.ptr script.len script.cap), (5, Value.pointer d), (7, Value.pointer r), (9, Value.pointer (some ⟨b_, 0, none⟩)), (10, Value.int .i64 i), (55, Value.bool true)] (by kernel_rfl) (by kernel_rfl) ?_
                  exact ⟨[(1, Value.slice script.ptr script.len script.cap), (5, Value.pointer d), (7, Value.pointer r), (9, Value.pointer (some ⟨b_, 0, none⟩)), (10, Value.int .i64 i), (55, Value.bool true)], Sub.mk (by kernel_rfl), true, rfl, h⟩
                · replace h := h.2 hb
                  refine reg_run [] 11 [(1, [], Value.slice script.ptr script.len script.cap), (5, [], Value.pointer d), (7, [], Value.pointer r), (9, [], Value.pointer (some ⟨b_, 0, none⟩)), (10, [], Value.int .i64 i), (50, [], Value.bool false), (51, [], Value.pointer d), (52, [], Value.pointer r)] (by kernel_rfl) (by kernel_rfl) ?_
                  refine reg_run [] 11 [(1, [], Value.slice script.ptr script.len script.cap), (5, [], Value.pointer d), (7, [], Value.pointer r), (9, [], Value.pointer (some ⟨b_, 0, none⟩)), (10, [], Value.int .i64 i), (50, [], Value.bool false), (51, [], Value.pointer d), (52, [], Value.pointer r)] (by kernel_rfl) (by kernel_rfl) ?_
                  refine reg_enter (op := (Go.Op.call (Go.Call.mk (Go.Callee.value (Go.Operand.func 8)) #[(Go.Operand.tmp 51), (Go.Operand.tmp 52)] #[24, 28]))) (ty := 4) (dst := some 53) 8 #[Value.pointer d, Value.pointer r] (by kernel_rfl) (fun ww => by kernel_rfl) (Calls.mono h ?_)
                  rintro _ w13 ⟨v53, rfl, h⟩
                  refine ⟨_, rfl, ?_⟩
                  refine reg_run [.sure, .plain] 14 [(1, [], Value.slice script.ptr script.len script.cap), (5, [], Value.pointer d), (7, [], Value.pointer r), (9, [], Value.pointer (some ⟨b_, 0, none⟩)), (10, [], Value.int .i64 i), (55, [], Value.bool (!v53))] (by kernel_rfl) (by kernel_rfl) ?_
                  refine reg_end [(1, Value.slice script.ptr script.len script.cap), (5, Value.pointer d), (7, Value.pointer r), (9, Value.pointer (some ⟨b_, 0, none⟩)), (10, Value.int .i64 i), (55, Value.bool (!v53))] (by kernel_rfl) (by kernel_rfl) ?_
                  exact ⟨[(1, Value.slice script.ptr script.len script.cap), (5, Value.pointer d), (7, Value.pointer r), (9, Value.pointer (some ⟨b_, 0, none⟩)), (10, Value.int .i64 i), (55, Value.bool (!v53))], Sub.mk (by kernel_rfl), (!v53), rfl, h⟩
              · rintro _ w9 ⟨t55, rfl, h⟩
                unfold F_towpathlaw04_DiskPlays_k3 at h
                refine wpE_cond (o := (Operand.tmp 55)) (b := t55) (x := c_towpathlaw04_DiskPlays_52) (y := c_towpathlaw04_DiskPlays_56) (by kernel_rfl) (by kernel_rfl) (fun hb => ?_) (fun hb => ?_)
                · replace h := h.1 hb
                  refine wpE_seq (x := c_towpathlaw04_DiskPlays_53) (y := c_towpathlaw04_DiskPlays_55) (by kernel_rfl) ?_
                  refine wpE_region (id := 12) (ops := r_towpathlaw04_DiskPlays_53) (by kernel_rfl) ?_
                  refine reg_run [.plain] 1 [(4, [], Value.bool false)] (by kernel_rfl) (by kernel_rfl) ?_
                  refine reg_end [(4, Value.bool false)] (by kernel_rfl) (by kernel_rfl) ?_
                  change WpE _ _ c_towpathlaw04_DiskPlays_55 _ _ _
                  refine wpE_ret (by kernel_rfl) ?_
                  repeat (first | refine seqQ_ret ?_ | refine blockQ_ret ?_ | refine loopQ_ret ?_ | refine cutQ_ret ?_)
                  exact retS (rs := [(Go.ResultVar.tmp 4)]) (v := Value.bool false) (by kernel_rfl) (⟨by kernel_rfl, trivial⟩) ⟨false, rfl, h⟩
                · replace h := h.2 hb
                  refine wpE_skip (by kernel_rfl) ?_
                  change WpE _ _ c_towpathlaw04_DiskPlays_57 _ _ _
                  refine wpE_seq (x := c_towpathlaw04_DiskPlays_58) (y := c_towpathlaw04_DiskPlays_60) (by kernel_rfl) ?_
                  refine wpE_region (id := 13) (ops := r_towpathlaw04_DiskPlays_58) (by kernel_rfl) ?_
                  refine reg_run [.plain, .plain] 2 [(1, [], Value.slice script.ptr script.len script.cap), (5, [], Value.pointer d), (7, [], Value.pointer r), (9, [], Value.pointer (some ⟨b_, 0, none⟩)), (10, [], Value.int .i64 i), (57, [], Value.bool (decide (i < 30)))] (by kernel_rfl) (by kernel_rfl) ?_
                  refine reg_end [(1, Value.slice script.ptr script.len script.cap), (5, Value.pointer d), (7, Value.pointer r), (9, Value.pointer (some ⟨b_, 0, none⟩)), (10, Value.int .i64 i), (57, Value.bool (decide (i < 30)))] (by kernel_rfl) (by kernel_rfl) ?_
                  change WpE _ _ c_towpathlaw04_DiskPlays_60 _ _ _
                  refine wpE_cond (o := (Operand.tmp 57)) (b := (decide (i < 30))) (x := c_towpathlaw04_DiskPlays_61) (y := c_towpathlaw04_DiskPlays_66) (by kernel_rfl) (by kernel_rfl) (fun hb => ?_) (fun hb => ?_)
                  · replace h := h.1 hb
                    refine wpE_seq (x := c_towpathlaw04_DiskPlays_62) (y := c_towpathlaw04_DiskPlays_64) (by kernel_rfl) ?_
                    refine wpE_region (id := 14) (ops := r_towpathlaw04_DiskPlays_62) (by kernel_rfl) ?_
                    refine reg_run [.plain, .plain, .plain] 3 [(1, [], Value.slice script.ptr script.len script.cap), (5, [], Value.pointer d), (7, [], Value.pointer r), (9, [], Value.pointer (some ⟨b_, 0, none⟩)), (10, [], Value.int .i64 i), (59, [], Value.pointer d), (60, [], Value.slice script.ptr script.len script.cap), (61, [], Value.int .i64 i)] (by kernel_rfl) (by kernel_rfl) ?_
                    obtain ⟨hp_22, h⟩ := h
                    refine reg_conv [(1, [], Value.slice script.ptr script.len script.cap), (5, [], Value.pointer d), (7, [], Value.pointer r), (9, [], Value.pointer (some ⟨b_, 0, none⟩)), (10, [], Value.int .i64 i), (59, [], Value.pointer d), (60, [], Value.slice (some ⟨(pblk script.ptr), (poff script.ptr), none⟩) script.len script.cap), (61, [], Value.int .i64 i)] (congrArg (fun pp => ([(1, [], Value.slice script.ptr script.len script.cap), (5, [], Value.pointer d), (7, [], Value.pointer r), (9, [], Value.pointer (some ⟨b_, 0, none⟩)), (10, [], Value.int .i64 i), (59, [], Value.pointer d), (60, [], Value.slice pp script.len script.cap), (61, [], Value.int .i64 i)] : GEnv)) hp_22) ?_
                    obtain ⟨h0, h1, h⟩ := h
                    refine reg_indexS (t := 22) (e := 47) (x := (Go.Operand.tmp 60)) (ix := (Go.Operand.tmp 61)) (b := (pblk script.ptr)) (o := (poff script.ptr)) (l := script.len) (c := script.cap) (k := .i64) (j := i) (ty := 0) (dst := some 62) (sz := 5) (by kernel_rfl) (by kernel_rfl) (by kernel_rfl) (by kernel_rfl) (by kernel_rfl) h0 h1 ?_
                    refine reg_run [.plain] 5 [(1, [], Value.slice script.ptr script.len script.cap), (5, [], Value.pointer d), (7, [], Value.pointer r), (9, [], Value.pointer (some ⟨b_, 0, none⟩)), (10, [], Value.int .i64 i), (59, [], Value.pointer d), (63, [], Value.pointer (some ⟨(pblk script.ptr), ((poff script.ptr) + i.toNat * 5) + 1, none⟩))] (by kernel_rfl) (by kernel_rfl) ?_
                    obtain ⟨v64, hc, h⟩ := h
                    refine reg_load1 (t := 3) (a := (Go.Operand.tmp 63)) (b := (pblk script.ptr)) (o := (((poff script.ptr) + i.toNat * 5) + 1)) (ty := 3) (dst := some 64) (by kernel_rfl) (by kernel_rfl) (by kernel_rfl) hc ?_
                    refine reg_run [] 6 [(1, [], Value.slice script.ptr script.len script.cap), (5, [], Value.pointer d), (7, [], Value.pointer r), (9, [], Value.pointer (some ⟨b_, 0, none⟩)), (10, [], Value.int .i64 i), (59, [], Value.pointer d), (64, [], Value.int .i64 v64)] (by kernel_rfl) (by kernel_rfl) ?_
                    refine reg_enter (op := (Go.Op.call (Go.Call.mk (Go.Callee.value (Go.Operand.func 9)) #[(Go.Operand.tmp 59), (Go.Operand.tmp 64)] #[24, 3]))) (ty := 49) (dst := some 65) 9 #[Value.pointer d, Value.int .i64 v64] (by kernel_rfl) (fun ww => by kernel_rfl) (Calls.mono h ?_)
                    rintro _ w10 ⟨b_1, v65_1, rfl, h⟩
                    refine ⟨_, rfl, ?_⟩
                    refine reg_run [.plain, .plain, .plain, .plain, .plain] 12 [(1, [], Value.slice script.ptr script.len script.cap), (5, [], Value.pointer d), (7, [], Value.pointer r), (9, [], Value.pointer (some ⟨b_, 0, none⟩)), (10, [], Value.int .i64 i), (11, [], Value.slice b_1.ptr b_1.len b_1.cap)] (by kernel_rfl) (by kernel_rfl) ?_
                    refine reg_end [(1, Value.slice script.ptr script.len script.cap), (5, Value.pointer d), (7, Value.pointer r), (9, Value.pointer (some ⟨b_, 0, none⟩)), (10, Value.int .i64 i), (11, Value.slice b_1.ptr b_1.len b_1.cap)] (by kernel_rfl) (by kernel_rfl) ?_
                    change WpE _ _ c_towpathlaw04_DiskPlays_64 _ _ _
                    refine wpE_region (id := 15) (ops := r_towpathlaw04_DiskPlays_64) (by kernel_rfl) ?_
                    refine reg_run [.plain] 1 [(1, [], Value.slice script.ptr script.len script.cap), (5, [], Value.pointer d), (7, [], Value.pointer r), (9, [], Value.pointer (some ⟨b_, 0, none⟩)), (10, [], Value.int .i64 i), (68, [], Value.slice b_1.ptr b_1.len b_1.cap)] (by kernel_rfl) (by kernel_rfl) ?_
                    refine reg_enter (op := (Go.Op.call (Go.Call.mk (Go.Callee.value (Go.Operand.func 10)) #[(Go.Operand.tmp 9), (Go.Operand.tmp 68)] #[43, 45]))) (ty := 0) (dst := some 69) 10 #[Value.pointer (some ⟨b_, 0, none⟩), Value.slice b_1.ptr b_1.len b_1.cap] (by kernel_rfl) (fun ww => by kernel_rfl) (Calls.mono h ?_)
                    rintro _ w11 ⟨rfl, h⟩
                    refine ⟨_, rfl, ?_⟩
                    refine reg_end [(1, Value.slice script.ptr script.len script.cap), (5, Value.pointer d), (7, Value.pointer r), (9, Value.pointer (some ⟨b_, 0, none⟩)), (10, Value.int .i64 i)] (by kernel_rfl) (by kernel_rfl) ?_
                    exact ⟨[(1, Value.slice script.ptr script.len script.cap), (5, Value.pointer d), (7, Value.pointer r), (9, Value.pointer (some ⟨b_, 0, none⟩)), (10, Value.int .i64 i)], Sub.mk (by kernel_rfl), rfl, h⟩
                  · replace h := h.2 hb
                    refine wpE_skip (by kernel_rfl) ?_
                    exact ⟨[(1, Value.slice script.ptr script.len script.cap), (5, Value.pointer d), (7, Value.pointer r), (9, Value.pointer (some ⟨b_, 0, none⟩)), (10, Value.int .i64 i)], Sub.mk (by kernel_rfl), rfl, h⟩
            · rintro _ w8 ⟨rfl, h⟩
              unfold F_towpathlaw04_DiskPlays_k2 at h
              refine wpE_region (id := 10) (ops := r_towpathlaw04_DiskPlays_67) (by kernel_rfl) ?_
              refine reg_run [.plain, .plain, .plain] 3 [(1, [], Value.slice script.ptr script.len script.cap), (5, [], Value.pointer d), (7, [], Value.pointer r), (9, [], Value.pointer (some ⟨b_, 0, none⟩)), (10, [], Value.int .i64 (IntKind.i64.wrap (i + 1)))] (by kernel_rfl) (by kernel_rfl) ?_
              refine reg_end [(1, Value.slice script.ptr script.len script.cap), (5, Value.pointer d), (7, Value.pointer r), (9, Value.pointer (some ⟨b_, 0, none⟩)), (10, Value.int .i64 (IntKind.i64.wrap (i + 1)))] (by kernel_rfl) (by kernel_rfl) ?_
              have hb_ := again__h _ _ h
              exact ⟨_, hb_.2, [(1, Value.slice script.ptr script.len script.cap), (5, Value.pointer d), (7, Value.pointer r), (9, Value.pointer (some ⟨b_, 0, none⟩)), (10, Value.int .i64 (IntKind.i64.wrap (i + 1)))], Sub.mk (by kernel_rfl), (IntKind.i64.wrap (i + 1)), rfl, hb_.1, rfl⟩
          · replace h := h.2 hb
            refine wpE_exit (id := 0) (by kernel_rfl) ?_
            change WpE _ _ c_towpathlaw04_DiskPlays_69 _ _ _
            refine wpE_seq (x := c_towpathlaw04_DiskPlays_70) (y := c_towpathlaw04_DiskPlays_72) (by kernel_rfl) ?_
            refine wpE_region (id := 16) (ops := r_towpathlaw04_DiskPlays_70) (by kernel_rfl) ?_
            refine reg_run [] 0 [(5, [], Value.pointer d), (7, [], Value.pointer r), (9, [], Value.pointer (some ⟨b_, 0, none⟩))] (by kernel_rfl) (by kernel_rfl) ?_
            refine reg_enter (op := (Go.Op.call (Go.Call.mk (Go.Callee.value (Go.Operand.func 11)) #[(Go.Operand.tmp 9)] #[43]))) (ty := 4) (dst := some 70) 11 #[Value.pointer (some ⟨b_, 0, none⟩)] (by kernel_rfl) (fun ww => by kernel_rfl) (Calls.mono h ?_)
            rintro _ w14 ⟨v70, rfl, h⟩
            refine ⟨_, rfl, ?_⟩
            refine reg_run [.plain, .plain, .plain, .plain] 5 [(5, [], Value.pointer d), (7, [], Value.pointer r), (71, [], Value.bool v70), (72, [(71, true)], Value.pointer d), (73, [(71, true)], Value.pointer r), (74, [(71, true)], Value.agg #[Value.int .u8 3, Value.int .i64 0, Value.int .i64 0, Value.slice none 0 0, Value.int .i64 0])] (by kernel_rfl) (by kernel_rfl) ?_
            refine reg_split 71 v70 (by kernel_rfl) (fun hb => ?_) (fun hb => ?_)
            · replace h := h.1 hb
              refine reg_run [] 5 [(5, [], Value.pointer d), (7, [], Value.pointer r), (71, [], Value.bool true), (72, [], Value.pointer d), (73, [], Value.pointer r), (74, [], Value.agg #[Value.int .u8 3, Value.int .i64 0, Value.int .i64 0, Value.slice none 0 0, Value.int .i64 0])] (by kernel_rfl) (by kernel_rfl) ?_
              refine reg_run [] 5 [(5, [], Value.pointer d), (7, [], Value.pointer r), (71, [], Value.bool true), (72, [], Value.pointer d), (73, [], Value.pointer r), (74, [], Value.agg #[Value.int .u8 3, Value.int .i64 0, Value.int .i64 0, Value.slice none 0 0, Value.int .i64 0])] (by kernel_rfl) (by kernel_rfl) ?_
              refine reg_enter (op := (Go.Op.call (Go.Call.mk (Go.Callee.value (Go.Operand.func 7)) #[(Go.Operand.tmp 72), (Go.Operand.tmp 73), (Go.Operand.tmp 74)] #[24, 28, 47]))) (ty := 4) (dst := some 75) 7 #[Value.pointer d, Value.pointer r, Value.agg #[Value.int .u8 3, Value.int .i64 0, Value.int .i64 0, Value.slice none 0 0, Value.int .i64 0]] (by kernel_rfl) (fun ww => by kernel_rfl) (Calls.mono h ?_)
              rintro _ w15 ⟨v75, rfl, h⟩
              refine ⟨_, rfl, ?_⟩
              refine reg_run [.plain, .plain, .plain, .plain, .plain] 11 [(77, [], Value.bool v75), (78, [(77, true)], Value.pointer d), (79, [(77, true)], Value.pointer r), (80, [(77, true)], Value.agg #[Value.int .u8 3, Value.int .i64 1, Value.int .i64 0, Value.slice none 0 0, Value.int .i64 0])] (by kernel_rfl) (by kernel_rfl) ?_
              refine reg_split 77 v75 (by kernel_rfl) (fun hb => ?_) (fun hb => ?_)
              · replace h := h.1 hb
                refine reg_run [] 11 [(77, [], Value.bool true), (78, [], Value.pointer d), (79, [], Value.pointer r), (80, [], Value.agg #[Value.int .u8 3, Value.int .i64 1, Value.int .i64 0, Value.slice none 0 0, Value.int .i64 0])] (by kernel_rfl) (by kernel_rfl) ?_
                refine reg_run [] 11 [(77, [], Value.bool true), (78, [], Value.pointer d), (79, [], Value.pointer r), (80, [], Value.agg #[Value.int .u8 3, Value.int .i64 1, Value.int .i64 0, Value.slice none 0 0, Value.int .i64 0])] (by kernel_rfl) (by kernel_rfl) ?_
                refine reg_enter (op := (Go.Op.call (Go.Call.mk (Go.Callee.value (Go.Operand.func 7)) #[(Go.Operand.tmp 78), (Go.Operand.tmp 79), (Go.Operand.tmp 80)] #[24, 28, 47]))) (ty := 4) (dst := some 81) 7 #[Value.pointer d, Value.pointer r, Value.agg #[Value.int .u8 3, Value.int .i64 1, Value.int .i64 0, Value.slice none 0 0, Value.int .i64 0]] (by kernel_rfl) (fun ww => by kernel_rfl) (Calls.mono h ?_)
                rintro _ w16 ⟨v81, rfl, h⟩
                refine ⟨_, rfl, ?_⟩
                refine reg_run [.plain, .plain] 14 [(4, [], Value.bool v81)] (by kernel_rfl) (by kernel_rfl) ?_
                refine reg_end [(4, Value.bool v81)] (by kernel_rfl) (by kernel_rfl) ?_
                change WpE _ _ c_towpathlaw04_DiskPlays_72 _ _ _
                refine wpE_ret (by kernel_rfl) ?_
                repeat (first | refine seqQ_ret ?_ | refine blockQ_ret ?_ | refine loopQ_ret ?_ | refine cutQ_ret ?_)
                exact retS (rs := [(Go.ResultVar.tmp 4)]) (v := Value.bool v81) (by kernel_rfl) (⟨by kernel_rfl, trivial⟩) ⟨v81, rfl, h⟩
              · replace h := h.2 hb
                refine reg_run [] 11 [(77, [], Value.bool false), (78, [], undef), (79, [], undef), (80, [], undef)] (by kernel_rfl) (by kernel_rfl) ?_
                refine reg_run [.skip, .plain, .plain] 14 [(4, [], Value.bool false)] (by kernel_rfl) (by kernel_rfl) ?_
                refine reg_end [(4, Value.bool false)] (by kernel_rfl) (by kernel_rfl) ?_
                change WpE _ _ c_towpathlaw04_DiskPlays_72 _ _ _
                refine wpE_ret (by kernel_rfl) ?_
                repeat (first | refine seqQ_ret ?_ | refine blockQ_ret ?_ | refine loopQ_ret ?_ | refine cutQ_ret ?_)
                exact retS (rs := [(Go.ResultVar.tmp 4)]) (v := Value.bool false) (by kernel_rfl) (⟨by kernel_rfl, trivial⟩) ⟨false, rfl, h⟩
            · replace h := h.2 hb
              refine reg_run [] 5 [(5, [], Value.pointer d), (7, [], Value.pointer r), (71, [], Value.bool false), (72, [], undef), (73, [], undef), (74, [], undef)] (by kernel_rfl) (by kernel_rfl) ?_
              refine reg_run [.skip, .plain, .plain, .skip, .skip, .skip, .skip, .plain, .plain] 14 [(4, [], Value.bool false)] (by kernel_rfl) (by kernel_rfl) ?_
              refine reg_end [(4, Value.bool false)] (by kernel_rfl) (by kernel_rfl) ?_
              change WpE _ _ c_towpathlaw04_DiskPlays_72 _ _ _
              refine wpE_ret (by kernel_rfl) ?_
              repeat (first | refine seqQ_ret ?_ | refine blockQ_ret ?_ | refine loopQ_ret ?_ | refine cutQ_ret ?_)
              exact retS (rs := [(Go.ResultVar.tmp 4)]) (v := Value.bool false) (by kernel_rfl) (⟨by kernel_rfl, trivial⟩) ⟨false, rfl, h⟩
  · rintro e w' ⟨v, rfl, r0, rfl, h⟩; exact ⟨r0, rfl, h⟩
end Go.Proofs.YtckmganidgbpgaaGreatDoor
