/- WRITTEN BY PROGRAM (dec.py): for each Go function the clean formula F, the call's contract C, and the proof S that F gives C. -/
import Derived.Test.YtfmkemmgakdddaaRows
import Derived.Test.YtfmkemmgakdddaaGF
namespace Go.Proofs.Ytfmkemmgakdddaa
open Go
set_option linter.unusedVariables false

/-! ### towpath/towpathlaw14.LanePlays (function 4) -/
noncomputable def c_towpathlaw14_LanePlays_0 : Code := (Try.f4.body).getD Code.skip
noncomputable def c_towpathlaw14_LanePlays_1 : Code := Code.l c_towpathlaw14_LanePlays_0
noncomputable def r_towpathlaw14_LanePlays_1 : Array Oper := Code.ops c_towpathlaw14_LanePlays_1
noncomputable def c_towpathlaw14_LanePlays_3 : Code := Code.r c_towpathlaw14_LanePlays_0
noncomputable def c_towpathlaw14_LanePlays_4 : Code := Code.l c_towpathlaw14_LanePlays_3
noncomputable def c_towpathlaw14_LanePlays_5 : Code := Code.l c_towpathlaw14_LanePlays_4
noncomputable def r_towpathlaw14_LanePlays_5 : Array Oper := Code.ops c_towpathlaw14_LanePlays_5
noncomputable def c_towpathlaw14_LanePlays_7 : Code := Code.r c_towpathlaw14_LanePlays_4
noncomputable def c_towpathlaw14_LanePlays_8 : Code := Code.l c_towpathlaw14_LanePlays_7
noncomputable def c_towpathlaw14_LanePlays_9 : Code := Code.l c_towpathlaw14_LanePlays_8
noncomputable def r_towpathlaw14_LanePlays_9 : Array Oper := Code.ops c_towpathlaw14_LanePlays_9
noncomputable def c_towpathlaw14_LanePlays_11 : Code := Code.r c_towpathlaw14_LanePlays_8
noncomputable def c_towpathlaw14_LanePlays_12 : Code := Code.r c_towpathlaw14_LanePlays_7
noncomputable def c_towpathlaw14_LanePlays_13 : Code := Code.r c_towpathlaw14_LanePlays_3
noncomputable def c_towpathlaw14_LanePlays_14 : Code := Code.l c_towpathlaw14_LanePlays_13
noncomputable def r_towpathlaw14_LanePlays_14 : Array Oper := Code.ops c_towpathlaw14_LanePlays_14
noncomputable def c_towpathlaw14_LanePlays_16 : Code := Code.r c_towpathlaw14_LanePlays_13
noncomputable def c_towpathlaw14_LanePlays_17 : Code := Code.l c_towpathlaw14_LanePlays_16
noncomputable def r_towpathlaw14_LanePlays_17 : Array Oper := Code.ops c_towpathlaw14_LanePlays_17
noncomputable def c_towpathlaw14_LanePlays_19 : Code := Code.r c_towpathlaw14_LanePlays_16
noncomputable def c_towpathlaw14_LanePlays_20 : Code := Code.l c_towpathlaw14_LanePlays_19
noncomputable def c_towpathlaw14_LanePlays_21 : Code := Code.l c_towpathlaw14_LanePlays_20
noncomputable def r_towpathlaw14_LanePlays_21 : Array Oper := Code.ops c_towpathlaw14_LanePlays_21
noncomputable def c_towpathlaw14_LanePlays_23 : Code := Code.r c_towpathlaw14_LanePlays_20
noncomputable def c_towpathlaw14_LanePlays_24 : Code := Code.l c_towpathlaw14_LanePlays_23
noncomputable def c_towpathlaw14_LanePlays_25 : Code := Code.l c_towpathlaw14_LanePlays_24
noncomputable def r_towpathlaw14_LanePlays_25 : Array Oper := Code.ops c_towpathlaw14_LanePlays_25
noncomputable def c_towpathlaw14_LanePlays_27 : Code := Code.r c_towpathlaw14_LanePlays_24
noncomputable def c_towpathlaw14_LanePlays_28 : Code := Code.r c_towpathlaw14_LanePlays_23
noncomputable def c_towpathlaw14_LanePlays_29 : Code := Code.r c_towpathlaw14_LanePlays_19
noncomputable def c_towpathlaw14_LanePlays_30 : Code := Code.l c_towpathlaw14_LanePlays_29
noncomputable def r_towpathlaw14_LanePlays_30 : Array Oper := Code.ops c_towpathlaw14_LanePlays_30
noncomputable def c_towpathlaw14_LanePlays_32 : Code := Code.r c_towpathlaw14_LanePlays_29
noncomputable def c_towpathlaw14_LanePlays_33 : Code := Code.l c_towpathlaw14_LanePlays_32
noncomputable def r_towpathlaw14_LanePlays_33 : Array Oper := Code.ops c_towpathlaw14_LanePlays_33
noncomputable def c_towpathlaw14_LanePlays_35 : Code := Code.r c_towpathlaw14_LanePlays_32
noncomputable def c_towpathlaw14_LanePlays_36 : Code := Code.l c_towpathlaw14_LanePlays_35
noncomputable def c_towpathlaw14_LanePlays_37 : Code := Code.l c_towpathlaw14_LanePlays_36
noncomputable def r_towpathlaw14_LanePlays_37 : Array Oper := Code.ops c_towpathlaw14_LanePlays_37
noncomputable def c_towpathlaw14_LanePlays_39 : Code := Code.r c_towpathlaw14_LanePlays_36
noncomputable def c_towpathlaw14_LanePlays_40 : Code := Code.l c_towpathlaw14_LanePlays_39
noncomputable def c_towpathlaw14_LanePlays_41 : Code := Code.l c_towpathlaw14_LanePlays_40
noncomputable def c_towpathlaw14_LanePlays_42 : Code := Code.l c_towpathlaw14_LanePlays_41
noncomputable def c_towpathlaw14_LanePlays_43 : Code := Code.l c_towpathlaw14_LanePlays_42
noncomputable def r_towpathlaw14_LanePlays_43 : Array Oper := Code.ops c_towpathlaw14_LanePlays_43
noncomputable def c_towpathlaw14_LanePlays_45 : Code := Code.r c_towpathlaw14_LanePlays_42
noncomputable def c_towpathlaw14_LanePlays_46 : Code := Code.l c_towpathlaw14_LanePlays_45
noncomputable def c_towpathlaw14_LanePlays_47 : Code := Code.r c_towpathlaw14_LanePlays_45
noncomputable def c_towpathlaw14_LanePlays_48 : Code := Code.r c_towpathlaw14_LanePlays_41
noncomputable def c_towpathlaw14_LanePlays_49 : Code := Code.l c_towpathlaw14_LanePlays_48
noncomputable def c_towpathlaw14_LanePlays_50 : Code := Code.l c_towpathlaw14_LanePlays_49
noncomputable def c_towpathlaw14_LanePlays_51 : Code := Code.l c_towpathlaw14_LanePlays_50
noncomputable def r_towpathlaw14_LanePlays_51 : Array Oper := Code.ops c_towpathlaw14_LanePlays_51
noncomputable def c_towpathlaw14_LanePlays_53 : Code := Code.r c_towpathlaw14_LanePlays_50
noncomputable def c_towpathlaw14_LanePlays_54 : Code := Code.l c_towpathlaw14_LanePlays_53
noncomputable def c_towpathlaw14_LanePlays_55 : Code := Code.l c_towpathlaw14_LanePlays_54
noncomputable def r_towpathlaw14_LanePlays_55 : Array Oper := Code.ops c_towpathlaw14_LanePlays_55
noncomputable def c_towpathlaw14_LanePlays_57 : Code := Code.r c_towpathlaw14_LanePlays_54
noncomputable def c_towpathlaw14_LanePlays_58 : Code := Code.r c_towpathlaw14_LanePlays_53
noncomputable def c_towpathlaw14_LanePlays_59 : Code := Code.r c_towpathlaw14_LanePlays_48
noncomputable def r_towpathlaw14_LanePlays_59 : Array Oper := Code.ops c_towpathlaw14_LanePlays_59
noncomputable def c_towpathlaw14_LanePlays_61 : Code := Code.r c_towpathlaw14_LanePlays_35
noncomputable def c_towpathlaw14_LanePlays_62 : Code := Code.l c_towpathlaw14_LanePlays_61
noncomputable def r_towpathlaw14_LanePlays_62 : Array Oper := Code.ops c_towpathlaw14_LanePlays_62
noncomputable def c_towpathlaw14_LanePlays_64 : Code := Code.r c_towpathlaw14_LanePlays_61

set_option maxRecDepth 100000 in
set_option maxHeartbeats 4000000 in
theorem S_towpathlaw14_LanePlays {number : Int} {c : T_api_Config} {script : Slc} {w : World} {R : Bool → World → Prop} (h : F_towpathlaw14_LanePlays number c script R w) : C_towpathlaw14_LanePlays number c script w R := by
  unfold F_towpathlaw14_LanePlays at h
  unfold C_towpathlaw14_LanePlays
  refine Calls.mono (calls_of_wpE (args := [Value.int .i64 number, Value.agg #[Value.int .i64 c.Lanes, Value.int .i64 c.Shards, Value.int .i64 c.Window, Value.int .i64 c.Queue], Value.slice script.ptr script.len script.cap]) (R := fun v w' => ∃ (r0 : Bool), v = Value.bool r0 ∧ R r0 w') Try.func4 (c := c_towpathlaw14_LanePlays_0) (by kernel_rfl) 68 (by kernel_rfl) (by kernel_rfl) [(0, Value.int .i64 number), (1, Value.agg #[Value.int .i64 c.Lanes, Value.int .i64 c.Shards, Value.int .i64 c.Window, Value.int .i64 c.Queue]), (2, Value.slice script.ptr script.len script.cap)] (by kernel_rfl) ?_) ?_
  · refine wpE_seq (x := c_towpathlaw14_LanePlays_1) (y := c_towpathlaw14_LanePlays_3) (by kernel_rfl) ?_
    refine wpE_region (id := 0) (ops := r_towpathlaw14_LanePlays_1) (by kernel_rfl) ?_
    refine reg_run [] 0 [(0, [], Value.int .i64 number), (1, [], Value.agg #[Value.int .i64 c.Lanes, Value.int .i64 c.Shards, Value.int .i64 c.Window, Value.int .i64 c.Queue]), (2, [], Value.slice script.ptr script.len script.cap)] (by kernel_rfl) (by kernel_rfl) ?_
    refine reg_new (op := (Go.Op.box 35 (Go.Operand.tmp 1))) (ty := 0) (dst := some 4) (fun bb => Value.pointer (some ⟨bb, 0, none⟩)) (Obj.cells ([Value.int .i64 c.Lanes, Value.int .i64 c.Shards, Value.int .i64 c.Window, Value.int .i64 c.Queue]).toArray ty_api_Config (0, 0)) (by kernel_rfl) (by kernel_rfl) (fun b_ w1 hb hw => ?_)
    replace h := h b_ w1 hb hw
    clear hb hw
    refine reg_run [.plain] 2 [(0, [], Value.int .i64 number), (2, [], Value.slice script.ptr script.len script.cap), (4, [], Value.pointer (some ⟨b_, 0, none⟩))] (by kernel_rfl) (by kernel_rfl) ?_
    refine reg_end [(0, Value.int .i64 number), (2, Value.slice script.ptr script.len script.cap), (4, Value.pointer (some ⟨b_, 0, none⟩))] (by kernel_rfl) (by kernel_rfl) ?_
    change WpE _ _ c_towpathlaw14_LanePlays_3 _ _ _
    refine wpE_seq (x := c_towpathlaw14_LanePlays_4) (y := c_towpathlaw14_LanePlays_13) (by kernel_rfl) ?_
    refine wpE_seq (x := c_towpathlaw14_LanePlays_5) (y := c_towpathlaw14_LanePlays_7) (by kernel_rfl) ?_
    refine wpE_region (id := 1) (ops := r_towpathlaw14_LanePlays_5) (by kernel_rfl) ?_
    refine reg_run [.plain] 1 [(0, [], Value.int .i64 number), (2, [], Value.slice script.ptr script.len script.cap), (4, [], Value.pointer (some ⟨b_, 0, none⟩)), (14, [], Value.slice script.ptr script.len script.cap)] (by kernel_rfl) (by kernel_rfl) ?_
    refine reg_enter (op := (Go.Op.call (Go.Call.mk (Go.Callee.value (Go.Operand.func 16)) #[(Go.Operand.tmp 14)] #[36]))) (ty := 4) (dst := some 15) 16 #[Value.slice script.ptr script.len script.cap] (by kernel_rfl) (fun ww => by kernel_rfl) (Calls.mono h ?_)
    rintro _ w2 ⟨v15, rfl, h⟩
    refine ⟨_, rfl, ?_⟩
    refine reg_end [(0, Value.int .i64 number), (2, Value.slice script.ptr script.len script.cap), (4, Value.pointer (some ⟨b_, 0, none⟩)), (15, Value.bool v15)] (by kernel_rfl) (by kernel_rfl) ?_
    change WpE _ _ c_towpathlaw14_LanePlays_7 _ _ _
    refine wpE_cond (o := (Operand.tmp 15)) (b := v15) (x := c_towpathlaw14_LanePlays_8) (y := c_towpathlaw14_LanePlays_12) (by kernel_rfl) (by kernel_rfl) (fun hb => ?_) (fun hb => ?_)
    · replace h := h.1 hb
      refine wpE_seq (x := c_towpathlaw14_LanePlays_9) (y := c_towpathlaw14_LanePlays_11) (by kernel_rfl) ?_
      refine wpE_region (id := 2) (ops := r_towpathlaw14_LanePlays_9) (by kernel_rfl) ?_
      refine reg_run [.plain] 1 [(6, [], Value.bool true)] (by kernel_rfl) (by kernel_rfl) ?_
      refine reg_end [(6, Value.bool true)] (by kernel_rfl) (by kernel_rfl) ?_
      change WpE _ _ c_towpathlaw14_LanePlays_11 _ _ _
      refine wpE_ret (by kernel_rfl) ?_
      repeat (first | refine seqQ_ret ?_ | refine blockQ_ret ?_ | refine loopQ_ret ?_ | refine cutQ_ret ?_)
      exact retS (rs := [(Go.ResultVar.tmp 6)]) (v := Value.bool true) (by kernel_rfl) (⟨by kernel_rfl, trivial⟩) ⟨true, rfl, h⟩
    · replace h := h.2 hb
      refine wpE_skip (by kernel_rfl) ?_
      change WpE _ _ c_towpathlaw14_LanePlays_13 _ _ _
      refine wpE_seq (x := c_towpathlaw14_LanePlays_14) (y := c_towpathlaw14_LanePlays_16) (by kernel_rfl) ?_
      refine wpE_region (id := 3) (ops := r_towpathlaw14_LanePlays_14) (by kernel_rfl) ?_
      refine reg_run [.plain] 1 [(0, [], Value.int .i64 number), (2, [], Value.slice script.ptr script.len script.cap), (4, [], Value.pointer (some ⟨b_, 0, none⟩)), (17, [], Value.int .i64 number)] (by kernel_rfl) (by kernel_rfl) ?_
      obtain ⟨v18, hc, h⟩ := h
      refine reg_loadN (t := 35) (a := (Go.Operand.tmp 4)) (b := b_) (o := 0) (ty := 35) (dst := some 18) [Value.int .i64 v18.Lanes, Value.int .i64 v18.Shards, Value.int .i64 v18.Window, Value.int .i64 v18.Queue] (by kernel_rfl) (by kernel_rfl) (by kernel_rfl) (k := 4) (by kernel_rfl) (by kernel_rfl) hc ?_
      refine reg_run [] 2 [(0, [], Value.int .i64 number), (2, [], Value.slice script.ptr script.len script.cap), (4, [], Value.pointer (some ⟨b_, 0, none⟩)), (17, [], Value.int .i64 number), (18, [], Value.agg #[Value.int .i64 v18.Lanes, Value.int .i64 v18.Shards, Value.int .i64 v18.Window, Value.int .i64 v18.Queue])] (by kernel_rfl) (by kernel_rfl) ?_
      refine reg_enter (op := (Go.Op.call (Go.Call.mk (Go.Callee.value (Go.Operand.func 17)) #[(Go.Operand.tmp 17), (Go.Operand.tmp 18)] #[3, 35]))) (ty := 39) (dst := some 19) 17 #[Value.int .i64 number, Value.agg #[Value.int .i64 v18.Lanes, Value.int .i64 v18.Shards, Value.int .i64 v18.Window, Value.int .i64 v18.Queue]] (by kernel_rfl) (fun ww => by kernel_rfl) (Calls.mono h ?_)
      rintro _ w3 ⟨l_, e, rfl, h⟩
      refine ⟨_, rfl, ?_⟩
      refine reg_run [.plain, .plain, .plain, .plain, .plain] 8 [(0, [], Value.int .i64 number), (2, [], Value.slice script.ptr script.len script.cap), (4, [], Value.pointer (some ⟨b_, 0, none⟩)), (7, [], Value.pointer l_), (8, [], Value.int .i64 e)] (by kernel_rfl) (by kernel_rfl) ?_
      refine reg_end [(0, Value.int .i64 number), (2, Value.slice script.ptr script.len script.cap), (4, Value.pointer (some ⟨b_, 0, none⟩)), (7, Value.pointer l_), (8, Value.int .i64 e)] (by kernel_rfl) (by kernel_rfl) ?_
      change WpE _ _ c_towpathlaw14_LanePlays_16 _ _ _
      refine wpE_seq (x := c_towpathlaw14_LanePlays_17) (y := c_towpathlaw14_LanePlays_19) (by kernel_rfl) ?_
      refine wpE_region (id := 4) (ops := r_towpathlaw14_LanePlays_17) (by kernel_rfl) ?_
      refine reg_run [.plain] 1 [(2, [], Value.slice script.ptr script.len script.cap), (4, [], Value.pointer (some ⟨b_, 0, none⟩)), (7, [], Value.pointer l_), (8, [], Value.int .i64 e), (23, [], Value.int .i64 number)] (by kernel_rfl) (by kernel_rfl) ?_
      obtain ⟨v24, hc, h⟩ := h
      refine reg_loadN (t := 35) (a := (Go.Operand.tmp 4)) (b := b_) (o := 0) (ty := 35) (dst := some 24) [Value.int .i64 v24.Lanes, Value.int .i64 v24.Shards, Value.int .i64 v24.Window, Value.int .i64 v24.Queue] (by kernel_rfl) (by kernel_rfl) (by kernel_rfl) (k := 4) (by kernel_rfl) (by kernel_rfl) hc ?_
      refine reg_run [] 2 [(2, [], Value.slice script.ptr script.len script.cap), (7, [], Value.pointer l_), (8, [], Value.int .i64 e), (23, [], Value.int .i64 number), (24, [], Value.agg #[Value.int .i64 v24.Lanes, Value.int .i64 v24.Shards, Value.int .i64 v24.Window, Value.int .i64 v24.Queue])] (by kernel_rfl) (by kernel_rfl) ?_
      refine reg_enter (op := (Go.Op.call (Go.Call.mk (Go.Callee.value (Go.Operand.func 18)) #[(Go.Operand.tmp 23), (Go.Operand.tmp 24)] #[3, 35]))) (ty := 42) (dst := some 25) 18 #[Value.int .i64 number, Value.agg #[Value.int .i64 v24.Lanes, Value.int .i64 v24.Shards, Value.int .i64 v24.Window, Value.int .i64 v24.Queue]] (by kernel_rfl) (fun ww => by kernel_rfl) (Calls.mono h ?_)
      rintro _ w4 ⟨r, f, rfl, h⟩
      refine ⟨_, rfl, ?_⟩
      refine reg_run [.plain, .plain, .plain, .plain, .plain] 8 [(2, [], Value.slice script.ptr script.len script.cap), (7, [], Value.pointer l_), (8, [], Value.int .i64 e), (9, [], Value.pointer r), (10, [], Value.int .i64 f)] (by kernel_rfl) (by kernel_rfl) ?_
      refine reg_end [(2, Value.slice script.ptr script.len script.cap), (7, Value.pointer l_), (8, Value.int .i64 e), (9, Value.pointer r), (10, Value.int .i64 f)] (by kernel_rfl) (by kernel_rfl) ?_
      change WpE _ _ c_towpathlaw14_LanePlays_19 _ _ _
      refine wpE_seq (x := c_towpathlaw14_LanePlays_20) (y := c_towpathlaw14_LanePlays_29) (by kernel_rfl) ?_
      refine wpE_seq_cut (x := c_towpathlaw14_LanePlays_21) (y := c_towpathlaw14_LanePlays_23) (by kernel_rfl) (fun l w => ∃ (t37 : Bool), l = [(2, Value.slice script.ptr script.len script.cap), (7, Value.pointer l_), (9, Value.pointer r), (37, Value.bool t37)] ∧ F_towpathlaw14_LanePlays_k0 script R l_ r t37 w) ?_ ?_
      · refine wpE_region (id := 5) (ops := r_towpathlaw14_LanePlays_21) (by kernel_rfl) ?_
        refine reg_run [.plain, .plain, .plain, .plain, .plain] 5 [(2, [], Value.slice script.ptr script.len script.cap), (7, [], Value.pointer l_), (9, [], Value.pointer r), (31, [], Value.bool (e != f)), (32, [(31, false)], Value.pointer l_)] (by kernel_rfl) (by kernel_rfl) ?_
        refine reg_split 31 (e != f) (by kernel_rfl) (fun hb => ?_) (fun hb => ?_)
        · replace h := h.1 hb
          refine reg_run [] 5 [(2, [], Value.slice script.ptr script.len script.cap), (7, [], Value.pointer l_), (9, [], Value.pointer r), (31, [], Value.bool true), (32, [], undef)] (by kernel_rfl) (by kernel_rfl) ?_
          refine reg_run [.skip, .skip, .skip, .skip, .plain] 10 [(2, [], Value.slice script.ptr script.len script.cap), (7, [], Value.pointer l_), (9, [], Value.pointer r), (37, [], Value.bool true)] (by kernel_rfl) (by kernel_rfl) ?_
          refine reg_end [(2, Value.slice script.ptr script.len script.cap), (7, Value.pointer l_), (9, Value.pointer r), (37, Value.bool true)] (by kernel_rfl) (by kernel_rfl) ?_
          exact ⟨[(2, Value.slice script.ptr script.len script.cap), (7, Value.pointer l_), (9, Value.pointer r), (37, Value.bool true)], Sub.mk (by kernel_rfl), true, rfl, h⟩
        · replace h := h.2 hb
          refine reg_run [] 5 [(2, [], Value.slice script.ptr script.len script.cap), (7, [], Value.pointer l_), (9, [], Value.pointer r), (31, [], Value.bool false), (32, [], Value.pointer l_)] (by kernel_rfl) (by kernel_rfl) ?_
          refine reg_run [] 5 [(2, [], Value.slice script.ptr script.len script.cap), (7, [], Value.pointer l_), (9, [], Value.pointer r), (31, [], Value.bool false), (32, [], Value.pointer l_)] (by kernel_rfl) (by kernel_rfl) ?_
          refine reg_val (op := (Go.Op.binOp Go.BinOp.eql 38 (Go.Operand.tmp 32) (Go.Operand.const (Go.Value.pointer none)) 38)) (ty := 4) (dst := some 33) (Value.bool l_.isNone) (by kernel_rfl) (fun ww => run_ptr_eql_R (p := l_) (by kernel_rfl) (by kernel_rfl) (by kernel_rfl) ww) ?_
          refine reg_run [.sure] 7 [(2, [], Value.slice script.ptr script.len script.cap), (7, [], Value.pointer l_), (9, [], Value.pointer r), (31, [], Value.bool false), (33, [], Value.bool l_.isNone), (34, [], Value.pointer r)] (by kernel_rfl) (by kernel_rfl) ?_
          refine reg_val (op := (Go.Op.binOp Go.BinOp.eql 41 (Go.Operand.tmp 34) (Go.Operand.const (Go.Value.pointer none)) 41)) (ty := 4) (dst := some 35) (Value.bool r.isNone) (by kernel_rfl) (fun ww => run_ptr_eql_R (p := r) (by kernel_rfl) (by kernel_rfl) (by kernel_rfl) ww) ?_
          refine reg_run [.sure, .plain] 10 [(2, [], Value.slice script.ptr script.len script.cap), (7, [], Value.pointer l_), (9, [], Value.pointer r), (37, [], Value.bool (!(l_.isNone == r.isNone)))] (by kernel_rfl) (by kernel_rfl) ?_
          refine reg_end [(2, Value.slice script.ptr script.len script.cap), (7, Value.pointer l_), (9, Value.pointer r), (37, Value.bool (!(l_.isNone == r.isNone)))] (by kernel_rfl) (by kernel_rfl) ?_
          exact ⟨[(2, Value.slice script.ptr script.len script.cap), (7, Value.pointer l_), (9, Value.pointer r), (37, Value.bool (!(l_.isNone == r.isNone)))], Sub.mk (by kernel_rfl), (!(l_.isNone == r.isNone)), rfl, h⟩
      · rintro _ w5 ⟨t37, rfl, h⟩
        unfold F_towpathlaw14_LanePlays_k0 at h
        refine wpE_cond (o := (Operand.tmp 37)) (b := t37) (x := c_towpathlaw14_LanePlays_24) (y := c_towpathlaw14_LanePlays_28) (by kernel_rfl) (by kernel_rfl) (fun hb => ?_) (fun hb => ?_)
        · replace h := h.1 hb
          refine wpE_seq (x := c_towpathlaw14_LanePlays_25) (y := c_towpathlaw14_LanePlays_27) (by kernel_rfl) ?_
          refine wpE_region (id := 6) (ops := r_towpathlaw14_LanePlays_25) (by kernel_rfl) ?_
          refine reg_run [.plain] 1 [(6, [], Value.bool false)] (by kernel_rfl) (by kernel_rfl) ?_
          refine reg_end [(6, Value.bool false)] (by kernel_rfl) (by kernel_rfl) ?_
          change WpE _ _ c_towpathlaw14_LanePlays_27 _ _ _
          refine wpE_ret (by kernel_rfl) ?_
          repeat (first | refine seqQ_ret ?_ | refine blockQ_ret ?_ | refine loopQ_ret ?_ | refine cutQ_ret ?_)
          exact retS (rs := [(Go.ResultVar.tmp 6)]) (v := Value.bool false) (by kernel_rfl) (⟨by kernel_rfl, trivial⟩) ⟨false, rfl, h⟩
        · replace h := h.2 hb
          refine wpE_skip (by kernel_rfl) ?_
          change WpE _ _ c_towpathlaw14_LanePlays_29 _ _ _
          refine wpE_seq (x := c_towpathlaw14_LanePlays_30) (y := c_towpathlaw14_LanePlays_32) (by kernel_rfl) ?_
          refine wpE_region (id := 7) (ops := r_towpathlaw14_LanePlays_30) (by kernel_rfl) ?_
          refine reg_run [.plain] 1 [(2, [], Value.slice script.ptr script.len script.cap), (7, [], Value.pointer l_), (9, [], Value.pointer r), (38, [], Value.agg #[Value.int .i64 0, Value.int .i64 0, Value.int .i64 0, Value.int .i64 0, Value.int .i64 0, Value.nilIface])] (by kernel_rfl) (by kernel_rfl) ?_
          refine reg_new (op := (Go.Op.box 47 (Go.Operand.tmp 38))) (ty := 38) (dst := some 39) (fun bb => Value.pointer (some ⟨bb, 0, none⟩)) (Obj.cells ([Value.int .i64 0, Value.int .i64 0, Value.int .i64 0, Value.int .i64 0, Value.int .i64 0, Value.nilIface]).toArray ty_lane_Lane (0, 0)) (by kernel_rfl) (by kernel_rfl) (fun b_1 w6 hb hw => ?_)
          replace h := h b_1 w6 hb hw
          clear hb hw
          refine reg_run [.plain] 3 [(2, [], Value.slice script.ptr script.len script.cap), (7, [], Value.pointer l_), (9, [], Value.pointer r), (11, [], Value.pointer (some ⟨b_1, 0, none⟩))] (by kernel_rfl) (by kernel_rfl) ?_
          refine reg_end [(2, Value.slice script.ptr script.len script.cap), (7, Value.pointer l_), (9, Value.pointer r), (11, Value.pointer (some ⟨b_1, 0, none⟩))] (by kernel_rfl) (by kernel_rfl) ?_
          change WpE _ _ c_towpathlaw14_LanePlays_32 _ _ _
          refine wpE_seq (x := c_towpathlaw14_LanePlays_33) (y := c_towpathlaw14_LanePlays_35) (by kernel_rfl) ?_
          refine wpE_region (id := 8) (ops := r_towpathlaw14_LanePlays_33) (by kernel_rfl) ?_
          refine reg_run [.plain] 1 [(2, [], Value.slice script.ptr script.len script.cap), (7, [], Value.pointer l_), (9, [], Value.pointer r), (11, [], Value.pointer (some ⟨b_1, 0, none⟩)), (12, [], Value.pointer none)] (by kernel_rfl) (by kernel_rfl) ?_
          refine reg_end [(2, Value.slice script.ptr script.len script.cap), (7, Value.pointer l_), (9, Value.pointer r), (11, Value.pointer (some ⟨b_1, 0, none⟩)), (12, Value.pointer none)] (by kernel_rfl) (by kernel_rfl) ?_
          change WpE _ _ c_towpathlaw14_LanePlays_35 _ _ _
          refine wpE_seq (x := c_towpathlaw14_LanePlays_36) (y := c_towpathlaw14_LanePlays_61) (by kernel_rfl) ?_
          refine wpE_seq (x := c_towpathlaw14_LanePlays_37) (y := c_towpathlaw14_LanePlays_39) (by kernel_rfl) ?_
          refine wpE_region (id := 9) (ops := r_towpathlaw14_LanePlays_37) (by kernel_rfl) ?_
          refine reg_run [.plain] 1 [(2, [], Value.slice script.ptr script.len script.cap), (7, [], Value.pointer l_), (9, [], Value.pointer r), (11, [], Value.pointer (some ⟨b_1, 0, none⟩)), (12, [], Value.pointer none), (13, [], Value.int .i64 0)] (by kernel_rfl) (by kernel_rfl) ?_
          refine reg_end [(2, Value.slice script.ptr script.len script.cap), (7, Value.pointer l_), (9, Value.pointer r), (11, Value.pointer (some ⟨b_1, 0, none⟩)), (12, Value.pointer none), (13, Value.int .i64 0)] (by kernel_rfl) (by kernel_rfl) ?_
          change WpE _ _ c_towpathlaw14_LanePlays_39 _ _ _
          refine wpE_block (id := 0) (x := c_towpathlaw14_LanePlays_40) (by kernel_rfl) ?_
          obtain ⟨I, μ, h0, hr⟩ := h
          refine wpE_loop (x := c_towpathlaw14_LanePlays_41) (by kernel_rfl) (fun m l w => ∃ (i : Int), l = [(2, Value.slice script.ptr script.len script.cap), (7, Value.pointer l_), (9, Value.pointer r), (11, Value.pointer (some ⟨b_1, 0, none⟩)), (12, Value.pointer none), (13, Value.int .i64 i)] ∧ I i w ∧ μ i w = m) (l' := [(2, Value.slice script.ptr script.len script.cap), (7, Value.pointer l_), (9, Value.pointer r), (11, Value.pointer (some ⟨b_1, 0, none⟩)), (12, Value.pointer none), (13, Value.int .i64 0)]) (Sub.mk (by kernel_rfl)) ⟨0, rfl, h0, rfl⟩ ?_
          rintro _ _ w7 ⟨i, rfl, hI, rfl⟩
          obtain ⟨again_, again__h, h⟩ : ∃ again_ : Int → World → Prop, (∀ i' w', again_ i' w' → I i' w' ∧ μ i' w' < μ i w7) ∧ F_towpathlaw14_LanePlays_L1 script R l_ r b_1 again_ i w7 := ⟨_, fun _ _ h => h, hr i w7 hI⟩
          clear h0 hI
          unfold F_towpathlaw14_LanePlays_L1 at h
          refine wpE_seq (x := c_towpathlaw14_LanePlays_42) (y := c_towpathlaw14_LanePlays_48) (by kernel_rfl) ?_
          refine wpE_seq (x := c_towpathlaw14_LanePlays_43) (y := c_towpathlaw14_LanePlays_45) (by kernel_rfl) ?_
          refine wpE_region (id := 10) (ops := r_towpathlaw14_LanePlays_43) (by kernel_rfl) ?_
          refine reg_run [.plain, .plain, .plain, .plain] 4 [(2, [], Value.slice script.ptr script.len script.cap), (7, [], Value.pointer l_), (9, [], Value.pointer r), (11, [], Value.pointer (some ⟨b_1, 0, none⟩)), (12, [], Value.pointer none), (13, [], Value.int .i64 i), (43, [], Value.bool (decide (i < ((script.len : Nat) : Int))))] (by kernel_rfl) (by kernel_rfl) ?_
          refine reg_end [(2, Value.slice script.ptr script.len script.cap), (7, Value.pointer l_), (9, Value.pointer r), (11, Value.pointer (some ⟨b_1, 0, none⟩)), (12, Value.pointer none), (13, Value.int .i64 i), (43, Value.bool (decide (i < ((script.len : Nat) : Int))))] (by kernel_rfl) (by kernel_rfl) ?_
          change WpE _ _ c_towpathlaw14_LanePlays_45 _ _ _
          refine wpE_cond (o := (Operand.tmp 43)) (b := (decide (i < ((script.len : Nat) : Int)))) (x := c_towpathlaw14_LanePlays_46) (y := c_towpathlaw14_LanePlays_47) (by kernel_rfl) (by kernel_rfl) (fun hb => ?_) (fun hb => ?_)
          · replace h := h.1 hb
            refine wpE_skip (by kernel_rfl) ?_
            change WpE _ _ c_towpathlaw14_LanePlays_48 _ _ _
            refine wpE_seq (x := c_towpathlaw14_LanePlays_49) (y := c_towpathlaw14_LanePlays_59) (by kernel_rfl) ?_
            refine wpE_block (id := 1) (x := c_towpathlaw14_LanePlays_50) (by kernel_rfl) ?_
            refine wpE_seq_cut (x := c_towpathlaw14_LanePlays_51) (y := c_towpathlaw14_LanePlays_53) (by kernel_rfl) (fun l w => ∃ (t63 : Bool), l = [(2, Value.slice script.ptr script.len script.cap), (7, Value.pointer l_), (9, Value.pointer r), (11, Value.pointer (some ⟨b_1, 0, none⟩)), (12, Value.pointer none), (13, Value.int .i64 i), (63, Value.bool t63)] ∧ F_towpathlaw14_LanePlays_k2 R i again_ t63 w) ?_ ?_
            · refine wpE_region (id := 12) (ops := r_towpathlaw14_LanePlays_51) (by kernel_rfl) ?_
              refine reg_run [.plain, .plain, .plain, .plain] 4 [(2, [], Value.slice script.ptr script.len script.cap), (7, [], Value.pointer l_), (9, [], Value.pointer r), (11, [], Value.pointer (some ⟨b_1, 0, none⟩)), (12, [], Value.pointer none), (13, [], Value.int .i64 i), (46, [], Value.pointer l_), (47, [], Value.pointer r), (48, [], Value.slice script.ptr script.len script.cap), (49, [], Value.int .i64 i)] (by kernel_rfl) (by kernel_rfl) ?_
              obtain ⟨hp_14, h⟩ := h
              refine reg_conv [(2, [], Value.slice script.ptr script.len script.cap), (7, [], Value.pointer l_), (9, [], Value.pointer r), (11, [], Value.pointer (some ⟨b_1, 0, none⟩)), (12, [], Value.pointer none), (13, [], Value.int .i64 i), (46, [], Value.pointer l_), (47, [], Value.pointer r), (48, [], Value.slice (some ⟨(pblk script.ptr), (poff script.ptr), none⟩) script.len script.cap), (49, [], Value.int .i64 i)] (congrArg (fun pp => ([(2, [], Value.slice script.ptr script.len script.cap), (7, [], Value.pointer l_), (9, [], Value.pointer r), (11, [], Value.pointer (some ⟨b_1, 0, none⟩)), (12, [], Value.pointer none), (13, [], Value.int .i64 i), (46, [], Value.pointer l_), (47, [], Value.pointer r), (48, [], Value.slice pp script.len script.cap), (49, [], Value.int .i64 i)] : GEnv)) hp_14) ?_
              obtain ⟨h0, h1, h⟩ := h
              refine reg_indexS (t := 36) (e := 50) (x := (Go.Operand.tmp 48)) (ix := (Go.Operand.tmp 49)) (b := (pblk script.ptr)) (o := (poff script.ptr)) (l := script.len) (c := script.cap) (k := .i64) (j := i) (ty := 0) (dst := some 50) (sz := 3) (by kernel_rfl) (by kernel_rfl) (by kernel_rfl) (by kernel_rfl) (by kernel_rfl) h0 h1 ?_
              refine reg_run [] 5 [(2, [], Value.slice script.ptr script.len script.cap), (7, [], Value.pointer l_), (9, [], Value.pointer r), (11, [], Value.pointer (some ⟨b_1, 0, none⟩)), (12, [], Value.pointer none), (13, [], Value.int .i64 i), (46, [], Value.pointer l_), (47, [], Value.pointer r), (50, [], Value.pointer (some ⟨(pblk script.ptr), (poff script.ptr) + i.toNat * 3, none⟩))] (by kernel_rfl) (by kernel_rfl) ?_
              obtain ⟨v51, hc, h⟩ := h
              refine reg_loadN (t := 50) (a := (Go.Operand.tmp 50)) (b := (pblk script.ptr)) (o := ((poff script.ptr) + i.toNat * 3)) (ty := 50) (dst := some 51) [Value.int .u8 v51.Kind, Value.int .i64 v51.Txn.Number, Value.slice v51.Txn.Writes.ptr v51.Txn.Writes.len v51.Txn.Writes.cap] (by kernel_rfl) (by kernel_rfl) (by kernel_rfl) (k := 3) (by kernel_rfl) (by kernel_rfl) hc ?_
              refine reg_run [] 6 [(2, [], Value.slice script.ptr script.len script.cap), (7, [], Value.pointer l_), (9, [], Value.pointer r), (11, [], Value.pointer (some ⟨b_1, 0, none⟩)), (12, [], Value.pointer none), (13, [], Value.int .i64 i), (46, [], Value.pointer l_), (47, [], Value.pointer r), (51, [], Value.agg #[Value.int .u8 v51.Kind, Value.int .i64 v51.Txn.Number, Value.slice v51.Txn.Writes.ptr v51.Txn.Writes.len v51.Txn.Writes.cap])] (by kernel_rfl) (by kernel_rfl) ?_
              refine reg_enter (op := (Go.Op.call (Go.Call.mk (Go.Callee.value (Go.Operand.func 19)) #[(Go.Operand.tmp 46), (Go.Operand.tmp 47), (Go.Operand.tmp 51)] #[38, 41, 50]))) (ty := 4) (dst := some 52) 19 #[Value.pointer l_, Value.pointer r, Value.agg #[Value.int .u8 v51.Kind, Value.int .i64 v51.Txn.Number, Value.slice v51.Txn.Writes.ptr v51.Txn.Writes.len v51.Txn.Writes.cap]] (by kernel_rfl) (fun ww => by kernel_rfl) (Calls.mono h ?_)
              rintro _ w9 ⟨v52, rfl, h⟩
              refine ⟨_, rfl, ?_⟩
              refine reg_run [.plain, .plain, .plain, .plain, .plain, .plain] 13 [(2, [], Value.slice script.ptr script.len script.cap), (7, [], Value.pointer l_), (9, [], Value.pointer r), (11, [], Value.pointer (some ⟨b_1, 0, none⟩)), (12, [], Value.pointer none), (13, [], Value.int .i64 i), (54, [], Value.bool (!v52)), (55, [(54, false)], Value.pointer (some ⟨b_1, 0, none⟩)), (56, [(54, false)], Value.pointer none), (57, [(54, false)], Value.slice script.ptr script.len script.cap), (58, [(54, false)], Value.int .i64 i)] (by kernel_rfl) (by kernel_rfl) ?_
              refine reg_split 54 (!v52) (by kernel_rfl) (fun hb => ?_) (fun hb => ?_)
              · replace h := h.1 hb
                refine reg_run [] 13 [(2, [], Value.slice script.ptr script.len script.cap), (7, [], Value.pointer l_), (9, [], Value.pointer r), (11, [], Value.pointer (some ⟨b_1, 0, none⟩)), (12, [], Value.pointer none), (13, [], Value.int .i64 i), (54, [], Value.bool true), (55, [], undef), (56, [], undef), (57, [], undef), (58, [], undef)] (by kernel_rfl) (by kernel_rfl) ?_
                refine reg_run [.skip, .skip, .skip, .skip, .plain] 18 [(2, [], Value.slice script.ptr script.len script.cap), (7, [], Value.pointer l_), (9, [], Value.pointer r), (11, [], Value.pointer (some ⟨b_1, 0, none⟩)), (12, [], Value.pointer none), (13, [], Value.int .i64 i), (63, [], Value.bool true)] (by kernel_rfl) (by kernel_rfl) ?_
                refine reg_end [(2, Value.slice script.ptr script.len script.cap), (7, Value.pointer l_), (9, Value.pointer r), (11, Value.pointer (some ⟨b_1, 0, none⟩)), (12, Value.pointer none), (13, Value.int .i64 i), (63, Value.bool true)] (by kernel_rfl) (by kernel_rfl) ?_
                exact ⟨[(2, Value.slice script.ptr script.len script.cap), (7, Value.pointer l_), (9, Value.pointer r), (11, Value.pointer (some ⟨b_1, 0, none⟩)), (12, Value.pointer none), (13, Value.int .i64 i), (63, Value.bool true)], Sub.mk (by kernel_rfl), true, rfl, h⟩
              · replace h := h.2 hb
                refine reg_run [] 13 [(2, [], Value.slice script.ptr script.len script.cap), (7, [], Value.pointer l_), (9, [], Value.pointer r), (11, [], Value.pointer (some ⟨b_1, 0, none⟩)), (12, [], Value.pointer none), (13, [], Value.int .i64 i), (54, [], Value.bool false), (55, [], Value.pointer (some ⟨b_1, 0, none⟩)), (56, [], Value.pointer none), (57, [], Value.slice script.ptr script.len script.cap), (58, [], Value.int .i64 i)] (by kernel_rfl) (by kernel_rfl) ?_
                refine reg_run [] 13 [(2, [], Value.slice script.ptr script.len script.cap), (7, [], Value.pointer l_), (9, [], Value.pointer r), (11, [], Value.pointer (some ⟨b_1, 0, none⟩)), (12, [], Value.pointer none), (13, [], Value.int .i64 i), (54, [], Value.bool false), (55, [], Value.pointer (some ⟨b_1, 0, none⟩)), (56, [], Value.pointer none), (57, [], Value.slice script.ptr script.len script.cap), (58, [], Value.int .i64 i)] (by kernel_rfl) (by kernel_rfl) ?_
                obtain ⟨hp_15, h⟩ := h
                refine reg_conv [(2, [], Value.slice script.ptr script.len script.cap), (7, [], Value.pointer l_), (9, [], Value.pointer r), (11, [], Value.pointer (some ⟨b_1, 0, none⟩)), (12, [], Value.pointer none), (13, [], Value.int .i64 i), (54, [], Value.bool false), (55, [], Value.pointer (some ⟨b_1, 0, none⟩)), (56, [], Value.pointer none), (57, [], Value.slice (some ⟨(pblk script.ptr), (poff script.ptr), none⟩) script.len script.cap), (58, [], Value.int .i64 i)] (congrArg (fun pp => ([(2, [], Value.slice script.ptr script.len script.cap), (7, [], Value.pointer l_), (9, [], Value.pointer r), (11, [], Value.pointer (some ⟨b_1, 0, none⟩)), (12, [], Value.pointer none), (13, [], Value.int .i64 i), (54, [], Value.bool false), (55, [], Value.pointer (some ⟨b_1, 0, none⟩)), (56, [], Value.pointer none), (57, [], Value.slice pp script.len script.cap), (58, [], Value.int .i64 i)] : GEnv)) hp_15) ?_
                obtain ⟨h0, h1, h⟩ := h
                refine reg_indexS (t := 36) (e := 50) (x := (Go.Operand.tmp 57)) (ix := (Go.Operand.tmp 58)) (b := (pblk script.ptr)) (o := (poff script.ptr)) (l := script.len) (c := script.cap) (k := .i64) (j := i) (ty := 0) (dst := some 59) (sz := 3) (by kernel_rfl) (by kernel_rfl) (by kernel_rfl) (by kernel_rfl) (by kernel_rfl) h0 h1 ?_
                refine reg_run [] 14 [(2, [], Value.slice script.ptr script.len script.cap), (7, [], Value.pointer l_), (9, [], Value.pointer r), (11, [], Value.pointer (some ⟨b_1, 0, none⟩)), (12, [], Value.pointer none), (13, [], Value.int .i64 i), (54, [], Value.bool false), (55, [], Value.pointer (some ⟨b_1, 0, none⟩)), (56, [], Value.pointer none), (59, [], Value.pointer (some ⟨(pblk script.ptr), (poff script.ptr) + i.toNat * 3, none⟩))] (by kernel_rfl) (by kernel_rfl) ?_
                obtain ⟨v60, hc, h⟩ := h
                refine reg_loadN (t := 50) (a := (Go.Operand.tmp 59)) (b := (pblk script.ptr)) (o := ((poff script.ptr) + i.toNat * 3)) (ty := 50) (dst := some 60) [Value.int .u8 v60.Kind, Value.int .i64 v60.Txn.Number, Value.slice v60.Txn.Writes.ptr v60.Txn.Writes.len v60.Txn.Writes.cap] (by kernel_rfl) (by kernel_rfl) (by kernel_rfl) (k := 3) (by kernel_rfl) (by kernel_rfl) hc ?_
                refine reg_run [] 15 [(2, [], Value.slice script.ptr script.len script.cap), (7, [], Value.pointer l_), (9, [], Value.pointer r), (11, [], Value.pointer (some ⟨b_1, 0, none⟩)), (12, [], Value.pointer none), (13, [], Value.int .i64 i), (54, [], Value.bool false), (55, [], Value.pointer (some ⟨b_1, 0, none⟩)), (56, [], Value.pointer none), (60, [], Value.agg #[Value.int .u8 v60.Kind, Value.int .i64 v60.Txn.Number, Value.slice v60.Txn.Writes.ptr v60.Txn.Writes.len v60.Txn.Writes.cap])] (by kernel_rfl) (by kernel_rfl) ?_
                refine reg_enter (op := (Go.Op.call (Go.Call.mk (Go.Callee.value (Go.Operand.func 19)) #[(Go.Operand.tmp 55), (Go.Operand.tmp 56), (Go.Operand.tmp 60)] #[38, 41, 50]))) (ty := 4) (dst := some 61) 19 #[Value.pointer (some ⟨b_1, 0, none⟩), Value.pointer none, Value.agg #[Value.int .u8 v60.Kind, Value.int .i64 v60.Txn.Number, Value.slice v60.Txn.Writes.ptr v60.Txn.Writes.len v60.Txn.Writes.cap]] (by kernel_rfl) (fun ww => by kernel_rfl) (Calls.mono h ?_)
                rintro _ w10 ⟨v61, rfl, h⟩
                refine ⟨_, rfl, ?_⟩
                refine reg_run [.sure, .plain] 18 [(2, [], Value.slice script.ptr script.len script.cap), (7, [], Value.pointer l_), (9, [], Value.pointer r), (11, [], Value.pointer (some ⟨b_1, 0, none⟩)), (12, [], Value.pointer none), (13, [], Value.int .i64 i), (63, [], Value.bool (!v61))] (by kernel_rfl) (by kernel_rfl) ?_
                refine reg_end [(2, Value.slice script.ptr script.len script.cap), (7, Value.pointer l_), (9, Value.pointer r), (11, Value.pointer (some ⟨b_1, 0, none⟩)), (12, Value.pointer none), (13, Value.int .i64 i), (63, Value.bool (!v61))] (by kernel_rfl) (by kernel_rfl) ?_
                exact ⟨[(2, Value.slice script.ptr script.len script.cap), (7, Value.pointer l_), (9, Value.pointer r), (11, Value.pointer (some ⟨b_1, 0, none⟩)), (12, Value.pointer none), (13, Value.int .i64 i), (63, Value.bool (!v61))], Sub.mk (by kernel_rfl), (!v61), rfl, h⟩
            · rintro _ w8 ⟨t63, rfl, h⟩
              unfold F_towpathlaw14_LanePlays_k2 at h
              refine wpE_cond (o := (Operand.tmp 63)) (b := t63) (x := c_towpathlaw14_LanePlays_54) (y := c_towpathlaw14_LanePlays_58) (by kernel_rfl) (by kernel_rfl) (fun hb => ?_) (fun hb => ?_)
              · replace h := h.1 hb
                refine wpE_seq (x := c_towpathlaw14_LanePlays_55) (y := c_towpathlaw14_LanePlays_57) (by kernel_rfl) ?_
                refine wpE_region (id := 13) (ops := r_towpathlaw14_LanePlays_55) (by kernel_rfl) ?_
                refine reg_run [.plain] 1 [(6, [], Value.bool false)] (by kernel_rfl) (by kernel_rfl) ?_
                refine reg_end [(6, Value.bool false)] (by kernel_rfl) (by kernel_rfl) ?_
                change WpE _ _ c_towpathlaw14_LanePlays_57 _ _ _
                refine wpE_ret (by kernel_rfl) ?_
                repeat (first | refine seqQ_ret ?_ | refine blockQ_ret ?_ | refine loopQ_ret ?_ | refine cutQ_ret ?_)
                exact retS (rs := [(Go.ResultVar.tmp 6)]) (v := Value.bool false) (by kernel_rfl) (⟨by kernel_rfl, trivial⟩) ⟨false, rfl, h⟩
              · replace h := h.2 hb
                refine wpE_skip (by kernel_rfl) ?_
                change WpE _ _ c_towpathlaw14_LanePlays_59 _ _ _
                refine wpE_region (id := 11) (ops := r_towpathlaw14_LanePlays_59) (by kernel_rfl) ?_
                refine reg_run [.plain, .plain, .plain] 3 [(2, [], Value.slice script.ptr script.len script.cap), (7, [], Value.pointer l_), (9, [], Value.pointer r), (11, [], Value.pointer (some ⟨b_1, 0, none⟩)), (12, [], Value.pointer none), (13, [], Value.int .i64 (IntKind.i64.wrap (i + 1)))] (by kernel_rfl) (by kernel_rfl) ?_
                refine reg_end [(2, Value.slice script.ptr script.len script.cap), (7, Value.pointer l_), (9, Value.pointer r), (11, Value.pointer (some ⟨b_1, 0, none⟩)), (12, Value.pointer none), (13, Value.int .i64 (IntKind.i64.wrap (i + 1)))] (by kernel_rfl) (by kernel_rfl) ?_
                have hb_ := again__h _ _ h
                exact ⟨_, hb_.2, [(2, Value.slice script.ptr script.len script.cap), (7, Value.pointer l_), (9, Value.pointer r), (11, Value.pointer (some ⟨b_1, 0, none⟩)), (12, Value.pointer none), (13, Value.int .i64 (IntKind.i64.wrap (i + 1)))], Sub.mk (by kernel_rfl), (IntKind.i64.wrap (i + 1)), rfl, hb_.1, rfl⟩
          · replace h := h.2 hb
            refine wpE_exit (id := 0) (by kernel_rfl) ?_
            change WpE _ _ c_towpathlaw14_LanePlays_61 _ _ _
            refine wpE_seq (x := c_towpathlaw14_LanePlays_62) (y := c_towpathlaw14_LanePlays_64) (by kernel_rfl) ?_
            refine wpE_region (id := 14) (ops := r_towpathlaw14_LanePlays_62) (by kernel_rfl) ?_
            refine reg_run [.plain, .plain, .plain] 3 [(64, [], Value.pointer l_), (65, [], Value.pointer r), (66, [], Value.agg #[Value.int .u8 0, Value.int .i64 0, Value.slice none 0 0])] (by kernel_rfl) (by kernel_rfl) ?_
            refine reg_enter (op := (Go.Op.call (Go.Call.mk (Go.Callee.value (Go.Operand.func 19)) #[(Go.Operand.tmp 64), (Go.Operand.tmp 65), (Go.Operand.tmp 66)] #[38, 41, 50]))) (ty := 4) (dst := some 67) 19 #[Value.pointer l_, Value.pointer r, Value.agg #[Value.int .u8 0, Value.int .i64 0, Value.slice none 0 0]] (by kernel_rfl) (fun ww => by kernel_rfl) (Calls.mono h ?_)
            rintro _ w11 ⟨v67, rfl, h⟩
            refine ⟨_, rfl, ?_⟩
            refine reg_run [.plain] 5 [(6, [], Value.bool v67)] (by kernel_rfl) (by kernel_rfl) ?_
            refine reg_end [(6, Value.bool v67)] (by kernel_rfl) (by kernel_rfl) ?_
            change WpE _ _ c_towpathlaw14_LanePlays_64 _ _ _
            refine wpE_ret (by kernel_rfl) ?_
            repeat (first | refine seqQ_ret ?_ | refine blockQ_ret ?_ | refine loopQ_ret ?_ | refine cutQ_ret ?_)
            exact retS (rs := [(Go.ResultVar.tmp 6)]) (v := Value.bool v67) (by kernel_rfl) (⟨by kernel_rfl, trivial⟩) ⟨v67, rfl, h⟩
  · rintro e w' ⟨v, rfl, r0, rfl, h⟩; exact ⟨r0, rfl, h⟩
end Go.Proofs.Ytfmkemmgakdddaa
