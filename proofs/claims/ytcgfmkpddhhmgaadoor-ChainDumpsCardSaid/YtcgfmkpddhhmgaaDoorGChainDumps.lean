/- WRITTEN BY PROGRAM (dec.py): for each Go function the clean formula F, the call's contract C, and the proof S that F gives C. -/
import Derived.Test.YtcgfmkpddhhmgaaDoorRows
import Derived.Test.YtcgfmkpddhhmgaaDoorGF
namespace Go.Proofs.YtcgfmkpddhhmgaaDoor
open Go
set_option linter.unusedVariables false

/-! ### towpath/towpathlaw08.ChainDumps (function 4) -/
noncomputable def c_towpathlaw08_ChainDumps_0 : Code := (Tryd.f4.body).getD Code.skip
noncomputable def c_towpathlaw08_ChainDumps_1 : Code := Code.l c_towpathlaw08_ChainDumps_0
noncomputable def r_towpathlaw08_ChainDumps_1 : Array Oper := Code.ops c_towpathlaw08_ChainDumps_1
noncomputable def c_towpathlaw08_ChainDumps_3 : Code := Code.r c_towpathlaw08_ChainDumps_0
noncomputable def c_towpathlaw08_ChainDumps_4 : Code := Code.l c_towpathlaw08_ChainDumps_3
noncomputable def c_towpathlaw08_ChainDumps_5 : Code := Code.l c_towpathlaw08_ChainDumps_4
noncomputable def r_towpathlaw08_ChainDumps_5 : Array Oper := Code.ops c_towpathlaw08_ChainDumps_5
noncomputable def c_towpathlaw08_ChainDumps_7 : Code := Code.r c_towpathlaw08_ChainDumps_4
noncomputable def c_towpathlaw08_ChainDumps_8 : Code := Code.l c_towpathlaw08_ChainDumps_7
noncomputable def c_towpathlaw08_ChainDumps_9 : Code := Code.l c_towpathlaw08_ChainDumps_8
noncomputable def r_towpathlaw08_ChainDumps_9 : Array Oper := Code.ops c_towpathlaw08_ChainDumps_9
noncomputable def c_towpathlaw08_ChainDumps_11 : Code := Code.r c_towpathlaw08_ChainDumps_8
noncomputable def c_towpathlaw08_ChainDumps_12 : Code := Code.r c_towpathlaw08_ChainDumps_7
noncomputable def c_towpathlaw08_ChainDumps_13 : Code := Code.r c_towpathlaw08_ChainDumps_3
noncomputable def c_towpathlaw08_ChainDumps_14 : Code := Code.l c_towpathlaw08_ChainDumps_13
noncomputable def r_towpathlaw08_ChainDumps_14 : Array Oper := Code.ops c_towpathlaw08_ChainDumps_14
noncomputable def c_towpathlaw08_ChainDumps_16 : Code := Code.r c_towpathlaw08_ChainDumps_13
noncomputable def c_towpathlaw08_ChainDumps_17 : Code := Code.l c_towpathlaw08_ChainDumps_16
noncomputable def r_towpathlaw08_ChainDumps_17 : Array Oper := Code.ops c_towpathlaw08_ChainDumps_17
noncomputable def c_towpathlaw08_ChainDumps_19 : Code := Code.r c_towpathlaw08_ChainDumps_16
noncomputable def c_towpathlaw08_ChainDumps_20 : Code := Code.l c_towpathlaw08_ChainDumps_19
noncomputable def r_towpathlaw08_ChainDumps_20 : Array Oper := Code.ops c_towpathlaw08_ChainDumps_20
noncomputable def c_towpathlaw08_ChainDumps_22 : Code := Code.r c_towpathlaw08_ChainDumps_19
noncomputable def c_towpathlaw08_ChainDumps_23 : Code := Code.l c_towpathlaw08_ChainDumps_22
noncomputable def r_towpathlaw08_ChainDumps_23 : Array Oper := Code.ops c_towpathlaw08_ChainDumps_23
noncomputable def c_towpathlaw08_ChainDumps_25 : Code := Code.r c_towpathlaw08_ChainDumps_22
noncomputable def c_towpathlaw08_ChainDumps_26 : Code := Code.l c_towpathlaw08_ChainDumps_25
noncomputable def c_towpathlaw08_ChainDumps_27 : Code := Code.l c_towpathlaw08_ChainDumps_26
noncomputable def r_towpathlaw08_ChainDumps_27 : Array Oper := Code.ops c_towpathlaw08_ChainDumps_27
noncomputable def c_towpathlaw08_ChainDumps_29 : Code := Code.r c_towpathlaw08_ChainDumps_26
noncomputable def c_towpathlaw08_ChainDumps_30 : Code := Code.l c_towpathlaw08_ChainDumps_29
noncomputable def c_towpathlaw08_ChainDumps_31 : Code := Code.l c_towpathlaw08_ChainDumps_30
noncomputable def r_towpathlaw08_ChainDumps_31 : Array Oper := Code.ops c_towpathlaw08_ChainDumps_31
noncomputable def c_towpathlaw08_ChainDumps_33 : Code := Code.r c_towpathlaw08_ChainDumps_30
noncomputable def c_towpathlaw08_ChainDumps_34 : Code := Code.r c_towpathlaw08_ChainDumps_29
noncomputable def c_towpathlaw08_ChainDumps_35 : Code := Code.r c_towpathlaw08_ChainDumps_25
noncomputable def c_towpathlaw08_ChainDumps_36 : Code := Code.l c_towpathlaw08_ChainDumps_35
noncomputable def r_towpathlaw08_ChainDumps_36 : Array Oper := Code.ops c_towpathlaw08_ChainDumps_36
noncomputable def c_towpathlaw08_ChainDumps_38 : Code := Code.r c_towpathlaw08_ChainDumps_35
noncomputable def c_towpathlaw08_ChainDumps_39 : Code := Code.l c_towpathlaw08_ChainDumps_38
noncomputable def r_towpathlaw08_ChainDumps_39 : Array Oper := Code.ops c_towpathlaw08_ChainDumps_39
noncomputable def c_towpathlaw08_ChainDumps_41 : Code := Code.r c_towpathlaw08_ChainDumps_38
noncomputable def c_towpathlaw08_ChainDumps_42 : Code := Code.l c_towpathlaw08_ChainDumps_41
noncomputable def r_towpathlaw08_ChainDumps_42 : Array Oper := Code.ops c_towpathlaw08_ChainDumps_42
noncomputable def c_towpathlaw08_ChainDumps_44 : Code := Code.r c_towpathlaw08_ChainDumps_41
noncomputable def c_towpathlaw08_ChainDumps_45 : Code := Code.l c_towpathlaw08_ChainDumps_44
noncomputable def r_towpathlaw08_ChainDumps_45 : Array Oper := Code.ops c_towpathlaw08_ChainDumps_45
noncomputable def c_towpathlaw08_ChainDumps_47 : Code := Code.r c_towpathlaw08_ChainDumps_44
noncomputable def c_towpathlaw08_ChainDumps_48 : Code := Code.l c_towpathlaw08_ChainDumps_47
noncomputable def r_towpathlaw08_ChainDumps_48 : Array Oper := Code.ops c_towpathlaw08_ChainDumps_48
noncomputable def c_towpathlaw08_ChainDumps_50 : Code := Code.r c_towpathlaw08_ChainDumps_47

set_option maxRecDepth 100000 in
set_option maxHeartbeats 4000000 in
theorem S_towpathlaw08_ChainDumps {l_ : Slc} {mark : Int} {beyond : Slc} {w : World} {R : Bool → World → Prop} (h : F_towpathlaw08_ChainDumps l_ mark beyond R w) : C_towpathlaw08_ChainDumps l_ mark beyond w R := by
  unfold F_towpathlaw08_ChainDumps at h
  unfold C_towpathlaw08_ChainDumps
  refine Calls.mono (calls_of_wpE (args := [Value.slice l_.ptr l_.len l_.cap, Value.int .i64 mark, Value.slice beyond.ptr beyond.len beyond.cap]) (R := fun v w' => ∃ (r0 : Bool), v = Value.bool r0 ∧ R r0 w') Tryd.func4 (c := c_towpathlaw08_ChainDumps_0) (by kernel_rfl) 67 (by kernel_rfl) (by kernel_rfl) [(0, Value.slice l_.ptr l_.len l_.cap), (1, Value.int .i64 mark), (2, Value.slice beyond.ptr beyond.len beyond.cap)] (by kernel_rfl) ?_) ?_
  · refine wpE_seq (x := c_towpathlaw08_ChainDumps_1) (y := c_towpathlaw08_ChainDumps_3) (by kernel_rfl) ?_
    refine wpE_region (id := 0) (ops := r_towpathlaw08_ChainDumps_1) (by kernel_rfl) ?_
    refine reg_run [.plain] 1 [(0, [], Value.slice l_.ptr l_.len l_.cap), (1, [], Value.int .i64 mark), (2, [], Value.slice beyond.ptr beyond.len beyond.cap)] (by kernel_rfl) (by kernel_rfl) ?_
    refine reg_end [(0, Value.slice l_.ptr l_.len l_.cap), (1, Value.int .i64 mark), (2, Value.slice beyond.ptr beyond.len beyond.cap)] (by kernel_rfl) (by kernel_rfl) ?_
    change WpE _ _ c_towpathlaw08_ChainDumps_3 _ _ _
    refine wpE_seq (x := c_towpathlaw08_ChainDumps_4) (y := c_towpathlaw08_ChainDumps_13) (by kernel_rfl) ?_
    refine wpE_seq (x := c_towpathlaw08_ChainDumps_5) (y := c_towpathlaw08_ChainDumps_7) (by kernel_rfl) ?_
    refine wpE_region (id := 1) (ops := r_towpathlaw08_ChainDumps_5) (by kernel_rfl) ?_
    refine reg_run [.plain] 1 [(0, [], Value.slice l_.ptr l_.len l_.cap), (1, [], Value.int .i64 mark), (2, [], Value.slice beyond.ptr beyond.len beyond.cap), (14, [], Value.slice l_.ptr l_.len l_.cap)] (by kernel_rfl) (by kernel_rfl) ?_
    refine reg_enter (op := (Go.Op.call (Go.Call.mk (Go.Callee.value (Go.Operand.func 7)) #[(Go.Operand.tmp 14)] #[22]))) (ty := 3) (dst := some 15) 7 #[Value.slice l_.ptr l_.len l_.cap] (by kernel_rfl) (fun ww => by kernel_rfl) (Calls.mono h ?_)
    rintro _ w1 ⟨v15, rfl, h⟩
    refine ⟨_, rfl, ?_⟩
    refine reg_run [.plain, .plain] 4 [(0, [], Value.slice l_.ptr l_.len l_.cap), (1, [], Value.int .i64 mark), (2, [], Value.slice beyond.ptr beyond.len beyond.cap), (15, [], Value.int .i64 v15), (17, [], Value.int .i64 ((beyond.len : Nat) : Int))] (by kernel_rfl) (by kernel_rfl) ?_
    refine reg_new (op := (Go.Op.buildSlice 50 2 #[(0, (Go.Operand.tmp 15)), (1, (Go.Operand.tmp 17))])) (ty := 50) (dst := some 18) (fun bb => Value.slice (some ⟨bb, 0, none⟩) 2 2) (Obj.cells ([Value.int .i64 v15, Value.int .i64 ((beyond.len : Nat) : Int)]).toArray ty_int (0, 0)) (by kernel_rfl) (by kernel_rfl) (fun b_ w2 hb hw => ?_)
    replace h := h b_ w2 hb hw
    clear hb hw
    refine reg_run [] 5 [(0, [], Value.slice l_.ptr l_.len l_.cap), (1, [], Value.int .i64 mark), (2, [], Value.slice beyond.ptr beyond.len beyond.cap), (18, [], Value.slice (some ⟨b_, 0, none⟩) 2 2)] (by kernel_rfl) (by kernel_rfl) ?_
    refine reg_enter (op := (Go.Op.call (Go.Call.mk (Go.Callee.value (Go.Operand.func 6)) #[(Go.Operand.tmp 18)] #[50]))) (ty := 4) (dst := some 19) 6 #[Value.slice (some ⟨b_, 0, none⟩) 2 2] (by kernel_rfl) (fun ww => by kernel_rfl) (Calls.mono h ?_)
    rintro _ w3 ⟨v19, rfl, h⟩
    refine ⟨_, rfl, ?_⟩
    refine reg_end [(0, Value.slice l_.ptr l_.len l_.cap), (1, Value.int .i64 mark), (2, Value.slice beyond.ptr beyond.len beyond.cap), (19, Value.bool v19)] (by kernel_rfl) (by kernel_rfl) ?_
    change WpE _ _ c_towpathlaw08_ChainDumps_7 _ _ _
    refine wpE_cond (o := (Operand.tmp 19)) (b := v19) (x := c_towpathlaw08_ChainDumps_8) (y := c_towpathlaw08_ChainDumps_12) (by kernel_rfl) (by kernel_rfl) (fun hb => ?_) (fun hb => ?_)
    · replace h := h.1 hb
      refine wpE_seq (x := c_towpathlaw08_ChainDumps_9) (y := c_towpathlaw08_ChainDumps_11) (by kernel_rfl) ?_
      refine wpE_region (id := 2) (ops := r_towpathlaw08_ChainDumps_9) (by kernel_rfl) ?_
      refine reg_run [.plain] 1 [(6, [], Value.bool true)] (by kernel_rfl) (by kernel_rfl) ?_
      refine reg_end [(6, Value.bool true)] (by kernel_rfl) (by kernel_rfl) ?_
      change WpE _ _ c_towpathlaw08_ChainDumps_11 _ _ _
      refine wpE_ret (by kernel_rfl) ?_
      repeat (first | refine seqQ_ret ?_ | refine blockQ_ret ?_ | refine loopQ_ret ?_ | refine cutQ_ret ?_)
      exact retS (rs := [(Go.ResultVar.tmp 6)]) (v := Value.bool true) (by kernel_rfl) (⟨by kernel_rfl, trivial⟩) ⟨true, rfl, h⟩
    · replace h := h.2 hb
      refine wpE_skip (by kernel_rfl) ?_
      change WpE _ _ c_towpathlaw08_ChainDumps_13 _ _ _
      refine wpE_seq (x := c_towpathlaw08_ChainDumps_14) (y := c_towpathlaw08_ChainDumps_16) (by kernel_rfl) ?_
      refine wpE_region (id := 3) (ops := r_towpathlaw08_ChainDumps_14) (by kernel_rfl) ?_
      refine reg_run [.plain] 1 [(0, [], Value.slice l_.ptr l_.len l_.cap), (1, [], Value.int .i64 mark), (2, [], Value.slice beyond.ptr beyond.len beyond.cap), (20, [], Value.slice l_.ptr l_.len l_.cap)] (by kernel_rfl) (by kernel_rfl) ?_
      refine reg_enter (op := (Go.Op.call (Go.Call.mk (Go.Callee.value (Go.Operand.func 8)) #[(Go.Operand.tmp 20)] #[22]))) (ty := 22) (dst := some 21) 8 #[Value.slice l_.ptr l_.len l_.cap] (by kernel_rfl) (fun ww => by kernel_rfl) (Calls.mono h ?_)
      rintro _ w4 ⟨v21, rfl, h⟩
      refine ⟨_, rfl, ?_⟩
      refine reg_run [.plain] 3 [(0, [], Value.slice l_.ptr l_.len l_.cap), (1, [], Value.int .i64 mark), (2, [], Value.slice beyond.ptr beyond.len beyond.cap), (7, [], Value.slice v21.ptr v21.len v21.cap)] (by kernel_rfl) (by kernel_rfl) ?_
      refine reg_end [(0, Value.slice l_.ptr l_.len l_.cap), (1, Value.int .i64 mark), (2, Value.slice beyond.ptr beyond.len beyond.cap), (7, Value.slice v21.ptr v21.len v21.cap)] (by kernel_rfl) (by kernel_rfl) ?_
      change WpE _ _ c_towpathlaw08_ChainDumps_16 _ _ _
      refine wpE_seq (x := c_towpathlaw08_ChainDumps_17) (y := c_towpathlaw08_ChainDumps_19) (by kernel_rfl) ?_
      refine wpE_region (id := 4) (ops := r_towpathlaw08_ChainDumps_17) (by kernel_rfl) ?_
      refine reg_run [.plain] 1 [(0, [], Value.slice l_.ptr l_.len l_.cap), (1, [], Value.int .i64 mark), (2, [], Value.slice beyond.ptr beyond.len beyond.cap), (7, [], Value.slice v21.ptr v21.len v21.cap), (22, [], Value.slice beyond.ptr beyond.len beyond.cap)] (by kernel_rfl) (by kernel_rfl) ?_
      refine reg_enter (op := (Go.Op.call (Go.Call.mk (Go.Callee.value (Go.Operand.func 17)) #[(Go.Operand.tmp 22)] #[50]))) (ty := 50) (dst := some 23) 17 #[Value.slice beyond.ptr beyond.len beyond.cap] (by kernel_rfl) (fun ww => by kernel_rfl) (Calls.mono h ?_)
      rintro _ w5 ⟨v23, rfl, h⟩
      refine ⟨_, rfl, ?_⟩
      refine reg_run [.plain] 3 [(0, [], Value.slice l_.ptr l_.len l_.cap), (1, [], Value.int .i64 mark), (2, [], Value.slice beyond.ptr beyond.len beyond.cap), (7, [], Value.slice v21.ptr v21.len v21.cap), (8, [], Value.slice v23.ptr v23.len v23.cap)] (by kernel_rfl) (by kernel_rfl) ?_
      refine reg_end [(0, Value.slice l_.ptr l_.len l_.cap), (1, Value.int .i64 mark), (2, Value.slice beyond.ptr beyond.len beyond.cap), (7, Value.slice v21.ptr v21.len v21.cap), (8, Value.slice v23.ptr v23.len v23.cap)] (by kernel_rfl) (by kernel_rfl) ?_
      change WpE _ _ c_towpathlaw08_ChainDumps_19 _ _ _
      refine wpE_seq (x := c_towpathlaw08_ChainDumps_20) (y := c_towpathlaw08_ChainDumps_22) (by kernel_rfl) ?_
      refine wpE_region (id := 5) (ops := r_towpathlaw08_ChainDumps_20) (by kernel_rfl) ?_
      refine reg_run [.plain, .plain, .plain] 3 [(0, [], Value.slice l_.ptr l_.len l_.cap), (1, [], Value.int .i64 mark), (2, [], Value.slice beyond.ptr beyond.len beyond.cap), (7, [], Value.slice v21.ptr v21.len v21.cap), (8, [], Value.slice v23.ptr v23.len v23.cap), (25, [], Value.slice v21.ptr v21.len v21.cap), (26, [], Value.int .i64 mark), (27, [], Value.slice v23.ptr v23.len v23.cap)] (by kernel_rfl) (by kernel_rfl) ?_
      refine reg_enter (op := (Go.Op.call (Go.Call.mk (Go.Callee.value (Go.Operand.func 18)) #[(Go.Operand.tmp 25), (Go.Operand.tmp 26), (Go.Operand.tmp 27)] #[22, 3, 50]))) (ty := 52) (dst := some 28) 18 #[Value.slice v21.ptr v21.len v21.cap, Value.int .i64 mark, Value.slice v23.ptr v23.len v23.cap] (by kernel_rfl) (fun ww => by kernel_rfl) (Calls.mono h ?_)
      rintro _ w6 ⟨x, e, rfl, h⟩
      refine ⟨_, rfl, ?_⟩
      refine reg_run [.plain, .plain, .plain, .plain, .plain] 9 [(0, [], Value.slice l_.ptr l_.len l_.cap), (1, [], Value.int .i64 mark), (2, [], Value.slice beyond.ptr beyond.len beyond.cap), (7, [], Value.slice v21.ptr v21.len v21.cap), (8, [], Value.slice v23.ptr v23.len v23.cap), (9, [], Value.slice x.ptr x.len x.cap), (10, [], Value.int .i64 e)] (by kernel_rfl) (by kernel_rfl) ?_
      refine reg_end [(0, Value.slice l_.ptr l_.len l_.cap), (1, Value.int .i64 mark), (2, Value.slice beyond.ptr beyond.len beyond.cap), (7, Value.slice v21.ptr v21.len v21.cap), (8, Value.slice v23.ptr v23.len v23.cap), (9, Value.slice x.ptr x.len x.cap), (10, Value.int .i64 e)] (by kernel_rfl) (by kernel_rfl) ?_
      change WpE _ _ c_towpathlaw08_ChainDumps_22 _ _ _
      refine wpE_seq (x := c_towpathlaw08_ChainDumps_23) (y := c_towpathlaw08_ChainDumps_25) (by kernel_rfl) ?_
      refine wpE_region (id := 6) (ops := r_towpathlaw08_ChainDumps_23) (by kernel_rfl) ?_
      refine reg_run [.plain, .plain, .plain] 3 [(0, [], Value.slice l_.ptr l_.len l_.cap), (2, [], Value.slice beyond.ptr beyond.len beyond.cap), (7, [], Value.slice v21.ptr v21.len v21.cap), (8, [], Value.slice v23.ptr v23.len v23.cap), (9, [], Value.slice x.ptr x.len x.cap), (10, [], Value.int .i64 e), (32, [], Value.slice l_.ptr l_.len l_.cap), (33, [], Value.int .i64 mark), (34, [], Value.slice beyond.ptr beyond.len beyond.cap)] (by kernel_rfl) (by kernel_rfl) ?_
      refine reg_enter (op := (Go.Op.call (Go.Call.mk (Go.Callee.value (Go.Operand.func 19)) #[(Go.Operand.tmp 32), (Go.Operand.tmp 33), (Go.Operand.tmp 34)] #[22, 3, 50]))) (ty := 52) (dst := some 35) 19 #[Value.slice l_.ptr l_.len l_.cap, Value.int .i64 mark, Value.slice beyond.ptr beyond.len beyond.cap] (by kernel_rfl) (fun ww => by kernel_rfl) (Calls.mono h ?_)
      rintro _ w7 ⟨want, f, rfl, h⟩
      refine ⟨_, rfl, ?_⟩
      refine reg_run [.plain, .plain, .plain, .plain, .plain] 9 [(0, [], Value.slice l_.ptr l_.len l_.cap), (2, [], Value.slice beyond.ptr beyond.len beyond.cap), (7, [], Value.slice v21.ptr v21.len v21.cap), (8, [], Value.slice v23.ptr v23.len v23.cap), (9, [], Value.slice x.ptr x.len x.cap), (10, [], Value.int .i64 e), (11, [], Value.slice want.ptr want.len want.cap), (12, [], Value.int .i64 f)] (by kernel_rfl) (by kernel_rfl) ?_
      refine reg_end [(0, Value.slice l_.ptr l_.len l_.cap), (2, Value.slice beyond.ptr beyond.len beyond.cap), (7, Value.slice v21.ptr v21.len v21.cap), (8, Value.slice v23.ptr v23.len v23.cap), (9, Value.slice x.ptr x.len x.cap), (10, Value.int .i64 e), (11, Value.slice want.ptr want.len want.cap), (12, Value.int .i64 f)] (by kernel_rfl) (by kernel_rfl) ?_
      change WpE _ _ c_towpathlaw08_ChainDumps_25 _ _ _
      refine wpE_seq (x := c_towpathlaw08_ChainDumps_26) (y := c_towpathlaw08_ChainDumps_35) (by kernel_rfl) ?_
      refine wpE_seq_cut (x := c_towpathlaw08_ChainDumps_27) (y := c_towpathlaw08_ChainDumps_29) (by kernel_rfl) (fun l w => ∃ (t58 : Bool), l = [(7, Value.slice v21.ptr v21.len v21.cap), (8, Value.slice v23.ptr v23.len v23.cap), (9, Value.slice x.ptr x.len x.cap), (58, Value.bool t58)] ∧ F_towpathlaw08_ChainDumps_k0 R v21 v23 x t58 w) ?_ ?_
      · refine wpE_region (id := 7) (ops := r_towpathlaw08_ChainDumps_27) (by kernel_rfl) ?_
        refine reg_run [.plain, .plain, .plain, .plain, .plain, .plain] 6 [(0, [], Value.slice l_.ptr l_.len l_.cap), (2, [], Value.slice beyond.ptr beyond.len beyond.cap), (7, [], Value.slice v21.ptr v21.len v21.cap), (8, [], Value.slice v23.ptr v23.len v23.cap), (9, [], Value.slice x.ptr x.len x.cap), (41, [], Value.bool (e != f)), (42, [(41, false)], Value.slice x.ptr x.len x.cap), (43, [(41, false)], Value.slice want.ptr want.len want.cap)] (by kernel_rfl) (by kernel_rfl) ?_
        refine reg_split 41 (e != f) (by kernel_rfl) (fun hb => ?_) (fun hb => ?_)
        · replace h := h.1 hb
          refine reg_run [] 6 [(0, [], Value.slice l_.ptr l_.len l_.cap), (2, [], Value.slice beyond.ptr beyond.len beyond.cap), (7, [], Value.slice v21.ptr v21.len v21.cap), (8, [], Value.slice v23.ptr v23.len v23.cap), (9, [], Value.slice x.ptr x.len x.cap), (41, [], Value.bool true), (42, [], undef), (43, [], undef)] (by kernel_rfl) (by kernel_rfl) ?_
          refine reg_run [.skip, .skip, .plain, .plain, .skip, .skip, .skip, .skip, .plain, .plain, .skip, .skip, .skip, .skip, .plain] 21 [(7, [], Value.slice v21.ptr v21.len v21.cap), (8, [], Value.slice v23.ptr v23.len v23.cap), (9, [], Value.slice x.ptr x.len x.cap), (58, [], Value.bool true)] (by kernel_rfl) (by kernel_rfl) ?_
          refine reg_end [(7, Value.slice v21.ptr v21.len v21.cap), (8, Value.slice v23.ptr v23.len v23.cap), (9, Value.slice x.ptr x.len x.cap), (58, Value.bool true)] (by kernel_rfl) (by kernel_rfl) ?_
          exact ⟨[(7, Value.slice v21.ptr v21.len v21.cap), (8, Value.slice v23.ptr v23.len v23.cap), (9, Value.slice x.ptr x.len x.cap), (58, Value.bool true)], Sub.mk (by kernel_rfl), true, rfl, h⟩
        · replace h := h.2 hb
          refine reg_run [] 6 [(0, [], Value.slice l_.ptr l_.len l_.cap), (2, [], Value.slice beyond.ptr beyond.len beyond.cap), (7, [], Value.slice v21.ptr v21.len v21.cap), (8, [], Value.slice v23.ptr v23.len v23.cap), (9, [], Value.slice x.ptr x.len x.cap), (41, [], Value.bool false), (42, [], Value.slice x.ptr x.len x.cap), (43, [], Value.slice want.ptr want.len want.cap)] (by kernel_rfl) (by kernel_rfl) ?_
          refine reg_run [] 6 [(0, [], Value.slice l_.ptr l_.len l_.cap), (2, [], Value.slice beyond.ptr beyond.len beyond.cap), (7, [], Value.slice v21.ptr v21.len v21.cap), (8, [], Value.slice v23.ptr v23.len v23.cap), (9, [], Value.slice x.ptr x.len x.cap), (41, [], Value.bool false), (42, [], Value.slice x.ptr x.len x.cap), (43, [], Value.slice want.ptr want.len want.cap)] (by kernel_rfl) (by kernel_rfl) ?_
          refine reg_enter (op := (Go.Op.call (Go.Call.mk (Go.Callee.value (Go.Operand.func 13)) #[(Go.Operand.tmp 42), (Go.Operand.tmp 43)] #[22, 22]))) (ty := 4) (dst := some 44) 13 #[Value.slice x.ptr x.len x.cap, Value.slice want.ptr want.len want.cap] (by kernel_rfl) (fun ww => by kernel_rfl) (Calls.mono h ?_)
          rintro _ w15 ⟨v44, rfl, h⟩
          refine ⟨_, rfl, ?_⟩
          refine reg_run [.sure, .plain, .plain, .plain, .plain] 12 [(2, [], Value.slice beyond.ptr beyond.len beyond.cap), (7, [], Value.slice v21.ptr v21.len v21.cap), (8, [], Value.slice v23.ptr v23.len v23.cap), (9, [], Value.slice x.ptr x.len x.cap), (47, [], Value.bool (!v44)), (48, [(47, false)], Value.slice v21.ptr v21.len v21.cap), (49, [(47, false)], Value.slice l_.ptr l_.len l_.cap)] (by kernel_rfl) (by kernel_rfl) ?_
          refine reg_split 47 (!v44) (by kernel_rfl) (fun hb => ?_) (fun hb => ?_)
          · replace h := h.1 hb
            refine reg_run [] 12 [(2, [], Value.slice beyond.ptr beyond.len beyond.cap), (7, [], Value.slice v21.ptr v21.len v21.cap), (8, [], Value.slice v23.ptr v23.len v23.cap), (9, [], Value.slice x.ptr x.len x.cap), (47, [], Value.bool true), (48, [], undef), (49, [], undef)] (by kernel_rfl) (by kernel_rfl) ?_
            refine reg_run [.skip, .skip, .plain, .plain, .skip, .skip, .skip, .skip, .plain] 21 [(7, [], Value.slice v21.ptr v21.len v21.cap), (8, [], Value.slice v23.ptr v23.len v23.cap), (9, [], Value.slice x.ptr x.len x.cap), (58, [], Value.bool true)] (by kernel_rfl) (by kernel_rfl) ?_
            refine reg_end [(7, Value.slice v21.ptr v21.len v21.cap), (8, Value.slice v23.ptr v23.len v23.cap), (9, Value.slice x.ptr x.len x.cap), (58, Value.bool true)] (by kernel_rfl) (by kernel_rfl) ?_
            exact ⟨[(7, Value.slice v21.ptr v21.len v21.cap), (8, Value.slice v23.ptr v23.len v23.cap), (9, Value.slice x.ptr x.len x.cap), (58, Value.bool true)], Sub.mk (by kernel_rfl), true, rfl, h⟩
          · replace h := h.2 hb
            refine reg_run [] 12 [(2, [], Value.slice beyond.ptr beyond.len beyond.cap), (7, [], Value.slice v21.ptr v21.len v21.cap), (8, [], Value.slice v23.ptr v23.len v23.cap), (9, [], Value.slice x.ptr x.len x.cap), (47, [], Value.bool false), (48, [], Value.slice v21.ptr v21.len v21.cap), (49, [], Value.slice l_.ptr l_.len l_.cap)] (by kernel_rfl) (by kernel_rfl) ?_
            refine reg_run [] 12 [(2, [], Value.slice beyond.ptr beyond.len beyond.cap), (7, [], Value.slice v21.ptr v21.len v21.cap), (8, [], Value.slice v23.ptr v23.len v23.cap), (9, [], Value.slice x.ptr x.len x.cap), (47, [], Value.bool false), (48, [], Value.slice v21.ptr v21.len v21.cap), (49, [], Value.slice l_.ptr l_.len l_.cap)] (by kernel_rfl) (by kernel_rfl) ?_
            refine reg_enter (op := (Go.Op.call (Go.Call.mk (Go.Callee.value (Go.Operand.func 14)) #[(Go.Operand.tmp 48), (Go.Operand.tmp 49)] #[22, 22]))) (ty := 4) (dst := some 50) 14 #[Value.slice v21.ptr v21.len v21.cap, Value.slice l_.ptr l_.len l_.cap] (by kernel_rfl) (fun ww => by kernel_rfl) (Calls.mono h ?_)
            rintro _ w16 ⟨v50, rfl, h⟩
            refine ⟨_, rfl, ?_⟩
            refine reg_run [.sure, .plain, .plain, .plain, .plain] 18 [(7, [], Value.slice v21.ptr v21.len v21.cap), (8, [], Value.slice v23.ptr v23.len v23.cap), (9, [], Value.slice x.ptr x.len x.cap), (53, [], Value.bool (!v50)), (54, [(53, false)], Value.slice v23.ptr v23.len v23.cap), (55, [(53, false)], Value.slice beyond.ptr beyond.len beyond.cap)] (by kernel_rfl) (by kernel_rfl) ?_
            refine reg_split 53 (!v50) (by kernel_rfl) (fun hb => ?_) (fun hb => ?_)
            · replace h := h.1 hb
              refine reg_run [] 18 [(7, [], Value.slice v21.ptr v21.len v21.cap), (8, [], Value.slice v23.ptr v23.len v23.cap), (9, [], Value.slice x.ptr x.len x.cap), (53, [], Value.bool true), (54, [], undef), (55, [], undef)] (by kernel_rfl) (by kernel_rfl) ?_
              refine reg_run [.skip, .skip, .plain] 21 [(7, [], Value.slice v21.ptr v21.len v21.cap), (8, [], Value.slice v23.ptr v23.len v23.cap), (9, [], Value.slice x.ptr x.len x.cap), (58, [], Value.bool true)] (by kernel_rfl) (by kernel_rfl) ?_
              refine reg_end [(7, Value.slice v21.ptr v21.len v21.cap), (8, Value.slice v23.ptr v23.len v23.cap), (9, Value.slice x.ptr x.len x.cap), (58, Value.bool true)] (by kernel_rfl) (by kernel_rfl) ?_
              exact ⟨[(7, Value.slice v21.ptr v21.len v21.cap), (8, Value.slice v23.ptr v23.len v23.cap), (9, Value.slice x.ptr x.len x.cap), (58, Value.bool true)], Sub.mk (by kernel_rfl), true, rfl, h⟩
            · replace h := h.2 hb
              refine reg_run [] 18 [(7, [], Value.slice v21.ptr v21.len v21.cap), (8, [], Value.slice v23.ptr v23.len v23.cap), (9, [], Value.slice x.ptr x.len x.cap), (53, [], Value.bool false), (54, [], Value.slice v23.ptr v23.len v23.cap), (55, [], Value.slice beyond.ptr beyond.len beyond.cap)] (by kernel_rfl) (by kernel_rfl) ?_
              refine reg_run [] 18 [(7, [], Value.slice v21.ptr v21.len v21.cap), (8, [], Value.slice v23.ptr v23.len v23.cap), (9, [], Value.slice x.ptr x.len x.cap), (53, [], Value.bool false), (54, [], Value.slice v23.ptr v23.len v23.cap), (55, [], Value.slice beyond.ptr beyond.len beyond.cap)] (by kernel_rfl) (by kernel_rfl) ?_
              refine reg_enter (op := (Go.Op.call (Go.Call.mk (Go.Callee.value (Go.Operand.func 20)) #[(Go.Operand.tmp 54), (Go.Operand.tmp 55)] #[50, 50]))) (ty := 4) (dst := some 56) 20 #[Value.slice v23.ptr v23.len v23.cap, Value.slice beyond.ptr beyond.len beyond.cap] (by kernel_rfl) (fun ww => by kernel_rfl) (Calls.mono h ?_)
              rintro _ w17 ⟨v56, rfl, h⟩
              refine ⟨_, rfl, ?_⟩
              refine reg_run [.sure, .plain] 21 [(7, [], Value.slice v21.ptr v21.len v21.cap), (8, [], Value.slice v23.ptr v23.len v23.cap), (9, [], Value.slice x.ptr x.len x.cap), (58, [], Value.bool (!v56))] (by kernel_rfl) (by kernel_rfl) ?_
              refine reg_end [(7, Value.slice v21.ptr v21.len v21.cap), (8, Value.slice v23.ptr v23.len v23.cap), (9, Value.slice x.ptr x.len x.cap), (58, Value.bool (!v56))] (by kernel_rfl) (by kernel_rfl) ?_
              exact ⟨[(7, Value.slice v21.ptr v21.len v21.cap), (8, Value.slice v23.ptr v23.len v23.cap), (9, Value.slice x.ptr x.len x.cap), (58, Value.bool (!v56))], Sub.mk (by kernel_rfl), (!v56), rfl, h⟩
      · rintro _ w8 ⟨t58, rfl, h⟩
        unfold F_towpathlaw08_ChainDumps_k0 at h
        refine wpE_cond (o := (Operand.tmp 58)) (b := t58) (x := c_towpathlaw08_ChainDumps_30) (y := c_towpathlaw08_ChainDumps_34) (by kernel_rfl) (by kernel_rfl) (fun hb => ?_) (fun hb => ?_)
        · replace h := h.1 hb
          refine wpE_seq (x := c_towpathlaw08_ChainDumps_31) (y := c_towpathlaw08_ChainDumps_33) (by kernel_rfl) ?_
          refine wpE_region (id := 8) (ops := r_towpathlaw08_ChainDumps_31) (by kernel_rfl) ?_
          refine reg_run [.plain] 1 [(6, [], Value.bool false)] (by kernel_rfl) (by kernel_rfl) ?_
          refine reg_end [(6, Value.bool false)] (by kernel_rfl) (by kernel_rfl) ?_
          change WpE _ _ c_towpathlaw08_ChainDumps_33 _ _ _
          refine wpE_ret (by kernel_rfl) ?_
          repeat (first | refine seqQ_ret ?_ | refine blockQ_ret ?_ | refine loopQ_ret ?_ | refine cutQ_ret ?_)
          exact retS (rs := [(Go.ResultVar.tmp 6)]) (v := Value.bool false) (by kernel_rfl) (⟨by kernel_rfl, trivial⟩) ⟨false, rfl, h⟩
        · replace h := h.2 hb
          refine wpE_skip (by kernel_rfl) ?_
          change WpE _ _ c_towpathlaw08_ChainDumps_35 _ _ _
          refine wpE_seq (x := c_towpathlaw08_ChainDumps_36) (y := c_towpathlaw08_ChainDumps_38) (by kernel_rfl) ?_
          refine wpE_region (id := 9) (ops := r_towpathlaw08_ChainDumps_36) (by kernel_rfl) ?_
          refine reg_run [.plain] 1 [(7, [], Value.slice v21.ptr v21.len v21.cap), (8, [], Value.slice v23.ptr v23.len v23.cap), (9, [], Value.slice x.ptr x.len x.cap), (59, [], Value.agg #[Value.int .i64 0, Value.slice none 0 0, Value.slice none 0 0, Value.slice none 0 0, Value.slice none 0 0, Value.slice none 0 0, Value.slice none 0 0, Value.slice none 0 0, Value.slice none 0 0, Value.slice none 0 0, Value.slice none 0 0, Value.slice none 0 0])] (by kernel_rfl) (by kernel_rfl) ?_
          refine reg_new (op := (Go.Op.alloc 46)) (ty := 0) (dst := some 13) (fun bb => Value.pointer (some ⟨bb, 0, none⟩)) (Obj.cells ([Value.int .i64 0, Value.slice none 0 0, Value.slice none 0 0, Value.slice none 0 0, Value.slice none 0 0, Value.slice none 0 0, Value.slice none 0 0, Value.slice none 0 0, Value.slice none 0 0, Value.slice none 0 0, Value.slice none 0 0, Value.slice none 0 0]).toArray ty_towpathlaw01_Book (0, 0)) (by kernel_rfl) (by kernel_rfl) (fun b_1 w9 hb hw => ?_)
          replace h := h b_1 w9 hb hw
          clear hb hw
          refine reg_run [] 2 [(7, [], Value.slice v21.ptr v21.len v21.cap), (8, [], Value.slice v23.ptr v23.len v23.cap), (9, [], Value.slice x.ptr x.len x.cap), (13, [], Value.pointer (some ⟨b_1, 0, none⟩)), (59, [], Value.agg #[Value.int .i64 0, Value.slice none 0 0, Value.slice none 0 0, Value.slice none 0 0, Value.slice none 0 0, Value.slice none 0 0, Value.slice none 0 0, Value.slice none 0 0, Value.slice none 0 0, Value.slice none 0 0, Value.slice none 0 0, Value.slice none 0 0])] (by kernel_rfl) (by kernel_rfl) ?_
          obtain ⟨hc, h⟩ := h
          refine reg_store (t := 46) (a := (Go.Operand.tmp 13)) (x := (Go.Operand.tmp 59)) (b := b_1) (o := 0) (ty := 0) (dst := none) [Value.int .i64 0, Value.slice none 0 0, Value.slice none 0 0, Value.slice none 0 0, Value.slice none 0 0, Value.slice none 0 0, Value.slice none 0 0, Value.slice none 0 0, Value.slice none 0 0, Value.slice none 0 0, Value.slice none 0 0, Value.slice none 0 0] (by kernel_rfl) (by kernel_rfl) (by kernel_rfl) (k := 12) (by kernel_rfl) (by kernel_rfl) (by kernel_rfl) hc (fun w10 hw => ?_)
          replace h := h w10 hw
          clear hw
          refine reg_end [(7, Value.slice v21.ptr v21.len v21.cap), (8, Value.slice v23.ptr v23.len v23.cap), (9, Value.slice x.ptr x.len x.cap), (13, Value.pointer (some ⟨b_1, 0, none⟩))] (by kernel_rfl) (by kernel_rfl) ?_
          change WpE _ _ c_towpathlaw08_ChainDumps_38 _ _ _
          refine wpE_seq (x := c_towpathlaw08_ChainDumps_39) (y := c_towpathlaw08_ChainDumps_41) (by kernel_rfl) ?_
          refine wpE_region (id := 10) (ops := r_towpathlaw08_ChainDumps_39) (by kernel_rfl) ?_
          refine reg_run [.plain] 1 [(8, [], Value.slice v23.ptr v23.len v23.cap), (9, [], Value.slice x.ptr x.len x.cap), (13, [], Value.pointer (some ⟨b_1, 0, none⟩)), (60, [], Value.slice v21.ptr v21.len v21.cap)] (by kernel_rfl) (by kernel_rfl) ?_
          refine reg_enter (op := (Go.Op.call (Go.Call.mk (Go.Callee.value (Go.Operand.func 15)) #[(Go.Operand.tmp 13), (Go.Operand.tmp 60)] #[46, 22]))) (ty := 0) (dst := some 61) 15 #[Value.pointer (some ⟨b_1, 0, none⟩), Value.slice v21.ptr v21.len v21.cap] (by kernel_rfl) (fun ww => by kernel_rfl) (Calls.mono h ?_)
          rintro _ w11 ⟨rfl, h⟩
          refine ⟨_, rfl, ?_⟩
          refine reg_end [(8, Value.slice v23.ptr v23.len v23.cap), (9, Value.slice x.ptr x.len x.cap), (13, Value.pointer (some ⟨b_1, 0, none⟩))] (by kernel_rfl) (by kernel_rfl) ?_
          change WpE _ _ c_towpathlaw08_ChainDumps_41 _ _ _
          refine wpE_seq (x := c_towpathlaw08_ChainDumps_42) (y := c_towpathlaw08_ChainDumps_44) (by kernel_rfl) ?_
          refine wpE_region (id := 11) (ops := r_towpathlaw08_ChainDumps_42) (by kernel_rfl) ?_
          refine reg_run [.plain] 1 [(9, [], Value.slice x.ptr x.len x.cap), (13, [], Value.pointer (some ⟨b_1, 0, none⟩)), (62, [], Value.slice v23.ptr v23.len v23.cap)] (by kernel_rfl) (by kernel_rfl) ?_
          refine reg_enter (op := (Go.Op.call (Go.Call.mk (Go.Callee.value (Go.Operand.func 21)) #[(Go.Operand.tmp 13), (Go.Operand.tmp 62)] #[46, 50]))) (ty := 0) (dst := some 63) 21 #[Value.pointer (some ⟨b_1, 0, none⟩), Value.slice v23.ptr v23.len v23.cap] (by kernel_rfl) (fun ww => by kernel_rfl) (Calls.mono h ?_)
          rintro _ w12 ⟨rfl, h⟩
          refine ⟨_, rfl, ?_⟩
          refine reg_end [(9, Value.slice x.ptr x.len x.cap), (13, Value.pointer (some ⟨b_1, 0, none⟩))] (by kernel_rfl) (by kernel_rfl) ?_
          change WpE _ _ c_towpathlaw08_ChainDumps_44 _ _ _
          refine wpE_seq (x := c_towpathlaw08_ChainDumps_45) (y := c_towpathlaw08_ChainDumps_47) (by kernel_rfl) ?_
          refine wpE_region (id := 12) (ops := r_towpathlaw08_ChainDumps_45) (by kernel_rfl) ?_
          refine reg_run [.plain] 1 [(13, [], Value.pointer (some ⟨b_1, 0, none⟩)), (64, [], Value.slice x.ptr x.len x.cap)] (by kernel_rfl) (by kernel_rfl) ?_
          refine reg_enter (op := (Go.Op.call (Go.Call.mk (Go.Callee.value (Go.Operand.func 15)) #[(Go.Operand.tmp 13), (Go.Operand.tmp 64)] #[46, 22]))) (ty := 0) (dst := some 65) 15 #[Value.pointer (some ⟨b_1, 0, none⟩), Value.slice x.ptr x.len x.cap] (by kernel_rfl) (fun ww => by kernel_rfl) (Calls.mono h ?_)
          rintro _ w13 ⟨rfl, h⟩
          refine ⟨_, rfl, ?_⟩
          refine reg_end [(13, Value.pointer (some ⟨b_1, 0, none⟩))] (by kernel_rfl) (by kernel_rfl) ?_
          change WpE _ _ c_towpathlaw08_ChainDumps_47 _ _ _
          refine wpE_seq (x := c_towpathlaw08_ChainDumps_48) (y := c_towpathlaw08_ChainDumps_50) (by kernel_rfl) ?_
          refine wpE_region (id := 13) (ops := r_towpathlaw08_ChainDumps_48) (by kernel_rfl) ?_
          refine reg_run [] 0 [(13, [], Value.pointer (some ⟨b_1, 0, none⟩))] (by kernel_rfl) (by kernel_rfl) ?_
          refine reg_enter (op := (Go.Op.call (Go.Call.mk (Go.Callee.value (Go.Operand.func 16)) #[(Go.Operand.tmp 13)] #[46]))) (ty := 4) (dst := some 66) 16 #[Value.pointer (some ⟨b_1, 0, none⟩)] (by kernel_rfl) (fun ww => by kernel_rfl) (Calls.mono h ?_)
          rintro _ w14 ⟨v66, rfl, h⟩
          refine ⟨_, rfl, ?_⟩
          refine reg_run [.plain] 2 [(6, [], Value.bool v66)] (by kernel_rfl) (by kernel_rfl) ?_
          refine reg_end [(6, Value.bool v66)] (by kernel_rfl) (by kernel_rfl) ?_
          change WpE _ _ c_towpathlaw08_ChainDumps_50 _ _ _
          refine wpE_ret (by kernel_rfl) ?_
          repeat (first | refine seqQ_ret ?_ | refine blockQ_ret ?_ | refine loopQ_ret ?_ | refine cutQ_ret ?_)
          exact retS (rs := [(Go.ResultVar.tmp 6)]) (v := Value.bool v66) (by kernel_rfl) (⟨by kernel_rfl, trivial⟩) ⟨v66, rfl, h⟩
  · rintro e w' ⟨v, rfl, r0, rfl, h⟩; exact ⟨r0, rfl, h⟩
end Go.Proofs.YtcgfmkpddhhmgaaDoor
