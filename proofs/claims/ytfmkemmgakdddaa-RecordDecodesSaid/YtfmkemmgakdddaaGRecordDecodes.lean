/- WRITTEN BY PROGRAM (dec.py): for each Go function the clean formula F, the call's contract C, and the proof S that F gives C. -/
import Derived.Test.YtfmkemmgakdddaaRows
import Derived.Test.YtfmkemmgakdddaaGF
namespace Go.Proofs.Ytfmkemmgakdddaa
open Go
set_option linter.unusedVariables false

/-! ### towpath/towpathlaw05.RecordDecodes (function 3) -/
noncomputable def c_towpathlaw05_RecordDecodes_0 : Code := (Try.f3.body).getD Code.skip
noncomputable def c_towpathlaw05_RecordDecodes_1 : Code := Code.l c_towpathlaw05_RecordDecodes_0
noncomputable def r_towpathlaw05_RecordDecodes_1 : Array Oper := Code.ops c_towpathlaw05_RecordDecodes_1
noncomputable def c_towpathlaw05_RecordDecodes_3 : Code := Code.r c_towpathlaw05_RecordDecodes_0
noncomputable def c_towpathlaw05_RecordDecodes_4 : Code := Code.l c_towpathlaw05_RecordDecodes_3
noncomputable def c_towpathlaw05_RecordDecodes_5 : Code := Code.l c_towpathlaw05_RecordDecodes_4
noncomputable def r_towpathlaw05_RecordDecodes_5 : Array Oper := Code.ops c_towpathlaw05_RecordDecodes_5
noncomputable def c_towpathlaw05_RecordDecodes_7 : Code := Code.r c_towpathlaw05_RecordDecodes_4
noncomputable def c_towpathlaw05_RecordDecodes_8 : Code := Code.l c_towpathlaw05_RecordDecodes_7
noncomputable def c_towpathlaw05_RecordDecodes_9 : Code := Code.l c_towpathlaw05_RecordDecodes_8
noncomputable def r_towpathlaw05_RecordDecodes_9 : Array Oper := Code.ops c_towpathlaw05_RecordDecodes_9
noncomputable def c_towpathlaw05_RecordDecodes_11 : Code := Code.r c_towpathlaw05_RecordDecodes_8
noncomputable def c_towpathlaw05_RecordDecodes_12 : Code := Code.r c_towpathlaw05_RecordDecodes_7
noncomputable def c_towpathlaw05_RecordDecodes_13 : Code := Code.r c_towpathlaw05_RecordDecodes_3
noncomputable def c_towpathlaw05_RecordDecodes_14 : Code := Code.l c_towpathlaw05_RecordDecodes_13
noncomputable def r_towpathlaw05_RecordDecodes_14 : Array Oper := Code.ops c_towpathlaw05_RecordDecodes_14
noncomputable def c_towpathlaw05_RecordDecodes_16 : Code := Code.r c_towpathlaw05_RecordDecodes_13
noncomputable def c_towpathlaw05_RecordDecodes_17 : Code := Code.l c_towpathlaw05_RecordDecodes_16
noncomputable def r_towpathlaw05_RecordDecodes_17 : Array Oper := Code.ops c_towpathlaw05_RecordDecodes_17
noncomputable def c_towpathlaw05_RecordDecodes_19 : Code := Code.r c_towpathlaw05_RecordDecodes_16
noncomputable def c_towpathlaw05_RecordDecodes_20 : Code := Code.l c_towpathlaw05_RecordDecodes_19
noncomputable def r_towpathlaw05_RecordDecodes_20 : Array Oper := Code.ops c_towpathlaw05_RecordDecodes_20
noncomputable def c_towpathlaw05_RecordDecodes_22 : Code := Code.r c_towpathlaw05_RecordDecodes_19
noncomputable def c_towpathlaw05_RecordDecodes_23 : Code := Code.l c_towpathlaw05_RecordDecodes_22
noncomputable def c_towpathlaw05_RecordDecodes_24 : Code := Code.l c_towpathlaw05_RecordDecodes_23
noncomputable def r_towpathlaw05_RecordDecodes_24 : Array Oper := Code.ops c_towpathlaw05_RecordDecodes_24
noncomputable def c_towpathlaw05_RecordDecodes_26 : Code := Code.r c_towpathlaw05_RecordDecodes_23
noncomputable def c_towpathlaw05_RecordDecodes_27 : Code := Code.l c_towpathlaw05_RecordDecodes_26
noncomputable def c_towpathlaw05_RecordDecodes_28 : Code := Code.l c_towpathlaw05_RecordDecodes_27
noncomputable def r_towpathlaw05_RecordDecodes_28 : Array Oper := Code.ops c_towpathlaw05_RecordDecodes_28
noncomputable def c_towpathlaw05_RecordDecodes_30 : Code := Code.r c_towpathlaw05_RecordDecodes_27
noncomputable def c_towpathlaw05_RecordDecodes_31 : Code := Code.r c_towpathlaw05_RecordDecodes_26
noncomputable def c_towpathlaw05_RecordDecodes_32 : Code := Code.r c_towpathlaw05_RecordDecodes_22
noncomputable def c_towpathlaw05_RecordDecodes_33 : Code := Code.l c_towpathlaw05_RecordDecodes_32
noncomputable def c_towpathlaw05_RecordDecodes_34 : Code := Code.l c_towpathlaw05_RecordDecodes_33
noncomputable def r_towpathlaw05_RecordDecodes_34 : Array Oper := Code.ops c_towpathlaw05_RecordDecodes_34
noncomputable def c_towpathlaw05_RecordDecodes_36 : Code := Code.r c_towpathlaw05_RecordDecodes_33
noncomputable def c_towpathlaw05_RecordDecodes_37 : Code := Code.l c_towpathlaw05_RecordDecodes_36
noncomputable def c_towpathlaw05_RecordDecodes_38 : Code := Code.l c_towpathlaw05_RecordDecodes_37
noncomputable def c_towpathlaw05_RecordDecodes_39 : Code := Code.l c_towpathlaw05_RecordDecodes_38
noncomputable def c_towpathlaw05_RecordDecodes_40 : Code := Code.l c_towpathlaw05_RecordDecodes_39
noncomputable def r_towpathlaw05_RecordDecodes_40 : Array Oper := Code.ops c_towpathlaw05_RecordDecodes_40
noncomputable def c_towpathlaw05_RecordDecodes_42 : Code := Code.r c_towpathlaw05_RecordDecodes_39
noncomputable def c_towpathlaw05_RecordDecodes_43 : Code := Code.l c_towpathlaw05_RecordDecodes_42
noncomputable def c_towpathlaw05_RecordDecodes_44 : Code := Code.r c_towpathlaw05_RecordDecodes_42
noncomputable def c_towpathlaw05_RecordDecodes_45 : Code := Code.r c_towpathlaw05_RecordDecodes_38
noncomputable def c_towpathlaw05_RecordDecodes_46 : Code := Code.l c_towpathlaw05_RecordDecodes_45
noncomputable def c_towpathlaw05_RecordDecodes_47 : Code := Code.l c_towpathlaw05_RecordDecodes_46
noncomputable def r_towpathlaw05_RecordDecodes_47 : Array Oper := Code.ops c_towpathlaw05_RecordDecodes_47
noncomputable def c_towpathlaw05_RecordDecodes_49 : Code := Code.r c_towpathlaw05_RecordDecodes_45
noncomputable def r_towpathlaw05_RecordDecodes_49 : Array Oper := Code.ops c_towpathlaw05_RecordDecodes_49
noncomputable def c_towpathlaw05_RecordDecodes_51 : Code := Code.r c_towpathlaw05_RecordDecodes_32
noncomputable def c_towpathlaw05_RecordDecodes_52 : Code := Code.l c_towpathlaw05_RecordDecodes_51
noncomputable def r_towpathlaw05_RecordDecodes_52 : Array Oper := Code.ops c_towpathlaw05_RecordDecodes_52
noncomputable def c_towpathlaw05_RecordDecodes_54 : Code := Code.r c_towpathlaw05_RecordDecodes_51

set_option maxRecDepth 100000 in
set_option maxHeartbeats 4000000 in
theorem S_towpathlaw05_RecordDecodes {b_ : Slc} {w : World} {R : Bool → World → Prop} (h : F_towpathlaw05_RecordDecodes b_ R w) : C_towpathlaw05_RecordDecodes b_ w R := by
  unfold F_towpathlaw05_RecordDecodes at h
  unfold C_towpathlaw05_RecordDecodes
  refine Calls.mono (calls_of_wpE (args := [Value.slice b_.ptr b_.len b_.cap]) (R := fun v w' => ∃ (r0 : Bool), v = Value.bool r0 ∧ R r0 w') Try.func3 (c := c_towpathlaw05_RecordDecodes_0) (by kernel_rfl) 52 (by kernel_rfl) (by kernel_rfl) [(0, Value.slice b_.ptr b_.len b_.cap)] (by kernel_rfl) ?_) ?_
  · refine wpE_seq (x := c_towpathlaw05_RecordDecodes_1) (y := c_towpathlaw05_RecordDecodes_3) (by kernel_rfl) ?_
    refine wpE_region (id := 0) (ops := r_towpathlaw05_RecordDecodes_1) (by kernel_rfl) ?_
    refine reg_run [.plain] 1 [(0, [], Value.slice b_.ptr b_.len b_.cap)] (by kernel_rfl) (by kernel_rfl) ?_
    refine reg_end [(0, Value.slice b_.ptr b_.len b_.cap)] (by kernel_rfl) (by kernel_rfl) ?_
    change WpE _ _ c_towpathlaw05_RecordDecodes_3 _ _ _
    refine wpE_seq (x := c_towpathlaw05_RecordDecodes_4) (y := c_towpathlaw05_RecordDecodes_13) (by kernel_rfl) ?_
    refine wpE_seq (x := c_towpathlaw05_RecordDecodes_5) (y := c_towpathlaw05_RecordDecodes_7) (by kernel_rfl) ?_
    refine wpE_region (id := 1) (ops := r_towpathlaw05_RecordDecodes_5) (by kernel_rfl) ?_
    refine reg_run [.plain, .plain] 2 [(0, [], Value.slice b_.ptr b_.len b_.cap), (10, [], Value.int .i64 ((b_.len : Nat) : Int))] (by kernel_rfl) (by kernel_rfl) ?_
    refine reg_new (op := (Go.Op.buildSlice 63 1 #[(0, (Go.Operand.tmp 10))])) (ty := 63) (dst := some 11) (fun bb => Value.slice (some ⟨bb, 0, none⟩) 1 1) (Obj.cells ([Value.int .i64 ((b_.len : Nat) : Int)]).toArray ty_int (0, 0)) (by kernel_rfl) (by kernel_rfl) (fun b_1 w1 hb hw => ?_)
    replace h := h b_1 w1 hb hw
    clear hb hw
    refine reg_run [] 3 [(0, [], Value.slice b_.ptr b_.len b_.cap), (11, [], Value.slice (some ⟨b_1, 0, none⟩) 1 1)] (by kernel_rfl) (by kernel_rfl) ?_
    refine reg_enter (op := (Go.Op.call (Go.Call.mk (Go.Callee.value (Go.Operand.func 10)) #[(Go.Operand.tmp 11)] #[63]))) (ty := 4) (dst := some 12) 10 #[Value.slice (some ⟨b_1, 0, none⟩) 1 1] (by kernel_rfl) (fun ww => by kernel_rfl) (Calls.mono h ?_)
    rintro _ w2 ⟨v12, rfl, h⟩
    refine ⟨_, rfl, ?_⟩
    refine reg_end [(0, Value.slice b_.ptr b_.len b_.cap), (12, Value.bool v12)] (by kernel_rfl) (by kernel_rfl) ?_
    change WpE _ _ c_towpathlaw05_RecordDecodes_7 _ _ _
    refine wpE_cond (o := (Operand.tmp 12)) (b := v12) (x := c_towpathlaw05_RecordDecodes_8) (y := c_towpathlaw05_RecordDecodes_12) (by kernel_rfl) (by kernel_rfl) (fun hb => ?_) (fun hb => ?_)
    · replace h := h.1 hb
      refine wpE_seq (x := c_towpathlaw05_RecordDecodes_9) (y := c_towpathlaw05_RecordDecodes_11) (by kernel_rfl) ?_
      refine wpE_region (id := 2) (ops := r_towpathlaw05_RecordDecodes_9) (by kernel_rfl) ?_
      refine reg_run [.plain] 1 [(2, [], Value.bool true)] (by kernel_rfl) (by kernel_rfl) ?_
      refine reg_end [(2, Value.bool true)] (by kernel_rfl) (by kernel_rfl) ?_
      change WpE _ _ c_towpathlaw05_RecordDecodes_11 _ _ _
      refine wpE_ret (by kernel_rfl) ?_
      repeat (first | refine seqQ_ret ?_ | refine blockQ_ret ?_ | refine loopQ_ret ?_ | refine cutQ_ret ?_)
      exact retS (rs := [(Go.ResultVar.tmp 2)]) (v := Value.bool true) (by kernel_rfl) (⟨by kernel_rfl, trivial⟩) ⟨true, rfl, h⟩
    · replace h := h.2 hb
      refine wpE_skip (by kernel_rfl) ?_
      change WpE _ _ c_towpathlaw05_RecordDecodes_13 _ _ _
      refine wpE_seq (x := c_towpathlaw05_RecordDecodes_14) (y := c_towpathlaw05_RecordDecodes_16) (by kernel_rfl) ?_
      refine wpE_region (id := 3) (ops := r_towpathlaw05_RecordDecodes_14) (by kernel_rfl) ?_
      refine reg_run [.plain] 1 [(0, [], Value.slice b_.ptr b_.len b_.cap), (13, [], Value.slice b_.ptr b_.len b_.cap)] (by kernel_rfl) (by kernel_rfl) ?_
      refine reg_enter (op := (Go.Op.call (Go.Call.mk (Go.Callee.value (Go.Operand.func 11)) #[(Go.Operand.tmp 13)] #[22]))) (ty := 22) (dst := some 14) 11 #[Value.slice b_.ptr b_.len b_.cap] (by kernel_rfl) (fun ww => by kernel_rfl) (Calls.mono h ?_)
      rintro _ w3 ⟨v14, rfl, h⟩
      refine ⟨_, rfl, ?_⟩
      refine reg_run [.plain] 3 [(0, [], Value.slice b_.ptr b_.len b_.cap), (3, [], Value.slice v14.ptr v14.len v14.cap)] (by kernel_rfl) (by kernel_rfl) ?_
      refine reg_end [(0, Value.slice b_.ptr b_.len b_.cap), (3, Value.slice v14.ptr v14.len v14.cap)] (by kernel_rfl) (by kernel_rfl) ?_
      change WpE _ _ c_towpathlaw05_RecordDecodes_16 _ _ _
      refine wpE_seq (x := c_towpathlaw05_RecordDecodes_17) (y := c_towpathlaw05_RecordDecodes_19) (by kernel_rfl) ?_
      refine wpE_region (id := 4) (ops := r_towpathlaw05_RecordDecodes_17) (by kernel_rfl) ?_
      refine reg_run [.plain] 1 [(0, [], Value.slice b_.ptr b_.len b_.cap), (3, [], Value.slice v14.ptr v14.len v14.cap), (16, [], Value.slice v14.ptr v14.len v14.cap)] (by kernel_rfl) (by kernel_rfl) ?_
      refine reg_enter (op := (Go.Op.call (Go.Call.mk (Go.Callee.value (Go.Operand.func 12)) #[(Go.Operand.tmp 16)] #[22]))) (ty := 29) (dst := some 17) 12 #[Value.slice v14.ptr v14.len v14.cap] (by kernel_rfl) (fun ww => by kernel_rfl) (Calls.mono h ?_)
      rintro _ w4 ⟨v17, e, rfl, h⟩
      refine ⟨_, rfl, ?_⟩
      refine reg_run [.plain, .plain, .plain] 5 [(0, [], Value.slice b_.ptr b_.len b_.cap), (3, [], Value.slice v14.ptr v14.len v14.cap), (18, [], Value.agg #[Value.int .i64 v17.Number, Value.slice v17.Writes.ptr v17.Writes.len v17.Writes.cap]), (19, [], Value.int .i64 e)] (by kernel_rfl) (by kernel_rfl) ?_
      refine reg_new (op := (Go.Op.alloc 27)) (ty := 0) (dst := some 4) (fun bb => Value.pointer (some ⟨bb, 0, none⟩)) (Obj.cells ([Value.int .i64 0, Value.slice none 0 0]).toArray ty_api_Txn (0, 0)) (by kernel_rfl) (by kernel_rfl) (fun b_2 w5 hb hw => ?_)
      replace h := h b_2 w5 hb hw
      clear hb hw
      refine reg_run [] 6 [(0, [], Value.slice b_.ptr b_.len b_.cap), (3, [], Value.slice v14.ptr v14.len v14.cap), (4, [], Value.pointer (some ⟨b_2, 0, none⟩)), (18, [], Value.agg #[Value.int .i64 v17.Number, Value.slice v17.Writes.ptr v17.Writes.len v17.Writes.cap]), (19, [], Value.int .i64 e)] (by kernel_rfl) (by kernel_rfl) ?_
      obtain ⟨hc, h⟩ := h
      refine reg_store (t := 27) (a := (Go.Operand.tmp 4)) (x := (Go.Operand.tmp 18)) (b := b_2) (o := 0) (ty := 0) (dst := none) [Value.int .i64 v17.Number, Value.slice v17.Writes.ptr v17.Writes.len v17.Writes.cap] (by kernel_rfl) (by kernel_rfl) (by kernel_rfl) (k := 2) (by kernel_rfl) (by kernel_rfl) (by kernel_rfl) hc (fun w6 hw => ?_)
      replace h := h w6 hw
      clear hw
      refine reg_run [.plain] 8 [(0, [], Value.slice b_.ptr b_.len b_.cap), (3, [], Value.slice v14.ptr v14.len v14.cap), (4, [], Value.pointer (some ⟨b_2, 0, none⟩)), (5, [], Value.int .i64 e)] (by kernel_rfl) (by kernel_rfl) ?_
      refine reg_end [(0, Value.slice b_.ptr b_.len b_.cap), (3, Value.slice v14.ptr v14.len v14.cap), (4, Value.pointer (some ⟨b_2, 0, none⟩)), (5, Value.int .i64 e)] (by kernel_rfl) (by kernel_rfl) ?_
      change WpE _ _ c_towpathlaw05_RecordDecodes_19 _ _ _
      refine wpE_seq (x := c_towpathlaw05_RecordDecodes_20) (y := c_towpathlaw05_RecordDecodes_22) (by kernel_rfl) ?_
      refine wpE_region (id := 5) (ops := r_towpathlaw05_RecordDecodes_20) (by kernel_rfl) ?_
      refine reg_run [.plain] 1 [(0, [], Value.slice b_.ptr b_.len b_.cap), (3, [], Value.slice v14.ptr v14.len v14.cap), (4, [], Value.pointer (some ⟨b_2, 0, none⟩)), (5, [], Value.int .i64 e), (21, [], Value.slice b_.ptr b_.len b_.cap)] (by kernel_rfl) (by kernel_rfl) ?_
      refine reg_enter (op := (Go.Op.call (Go.Call.mk (Go.Callee.value (Go.Operand.func 13)) #[(Go.Operand.tmp 21)] #[22]))) (ty := 29) (dst := some 22) 13 #[Value.slice b_.ptr b_.len b_.cap] (by kernel_rfl) (fun ww => by kernel_rfl) (Calls.mono h ?_)
      rintro _ w7 ⟨v22, f, rfl, h⟩
      refine ⟨_, rfl, ?_⟩
      refine reg_run [.plain, .plain, .plain] 5 [(0, [], Value.slice b_.ptr b_.len b_.cap), (3, [], Value.slice v14.ptr v14.len v14.cap), (4, [], Value.pointer (some ⟨b_2, 0, none⟩)), (5, [], Value.int .i64 e), (23, [], Value.agg #[Value.int .i64 v22.Number, Value.slice v22.Writes.ptr v22.Writes.len v22.Writes.cap]), (24, [], Value.int .i64 f)] (by kernel_rfl) (by kernel_rfl) ?_
      refine reg_new (op := (Go.Op.alloc 27)) (ty := 0) (dst := some 6) (fun bb => Value.pointer (some ⟨bb, 0, none⟩)) (Obj.cells ([Value.int .i64 0, Value.slice none 0 0]).toArray ty_api_Txn (0, 0)) (by kernel_rfl) (by kernel_rfl) (fun b_3 w8 hb hw => ?_)
      replace h := h b_3 w8 hb hw
      clear hb hw
      refine reg_run [] 6 [(0, [], Value.slice b_.ptr b_.len b_.cap), (3, [], Value.slice v14.ptr v14.len v14.cap), (4, [], Value.pointer (some ⟨b_2, 0, none⟩)), (5, [], Value.int .i64 e), (6, [], Value.pointer (some ⟨b_3, 0, none⟩)), (23, [], Value.agg #[Value.int .i64 v22.Number, Value.slice v22.Writes.ptr v22.Writes.len v22.Writes.cap]), (24, [], Value.int .i64 f)] (by kernel_rfl) (by kernel_rfl) ?_
      obtain ⟨hc, h⟩ := h
      refine reg_store (t := 27) (a := (Go.Operand.tmp 6)) (x := (Go.Operand.tmp 23)) (b := b_3) (o := 0) (ty := 0) (dst := none) [Value.int .i64 v22.Number, Value.slice v22.Writes.ptr v22.Writes.len v22.Writes.cap] (by kernel_rfl) (by kernel_rfl) (by kernel_rfl) (k := 2) (by kernel_rfl) (by kernel_rfl) (by kernel_rfl) hc (fun w9 hw => ?_)
      replace h := h w9 hw
      clear hw
      refine reg_run [.plain] 8 [(0, [], Value.slice b_.ptr b_.len b_.cap), (3, [], Value.slice v14.ptr v14.len v14.cap), (4, [], Value.pointer (some ⟨b_2, 0, none⟩)), (5, [], Value.int .i64 e), (6, [], Value.pointer (some ⟨b_3, 0, none⟩)), (7, [], Value.int .i64 f)] (by kernel_rfl) (by kernel_rfl) ?_
      refine reg_end [(0, Value.slice b_.ptr b_.len b_.cap), (3, Value.slice v14.ptr v14.len v14.cap), (4, Value.pointer (some ⟨b_2, 0, none⟩)), (5, Value.int .i64 e), (6, Value.pointer (some ⟨b_3, 0, none⟩)), (7, Value.int .i64 f)] (by kernel_rfl) (by kernel_rfl) ?_
      change WpE _ _ c_towpathlaw05_RecordDecodes_22 _ _ _
      refine wpE_seq (x := c_towpathlaw05_RecordDecodes_23) (y := c_towpathlaw05_RecordDecodes_32) (by kernel_rfl) ?_
      refine wpE_seq_cut (x := c_towpathlaw05_RecordDecodes_24) (y := c_towpathlaw05_RecordDecodes_26) (by kernel_rfl) (fun l w => ∃ (t39 : Bool), l = [(3, Value.slice v14.ptr v14.len v14.cap), (4, Value.pointer (some ⟨b_2, 0, none⟩)), (6, Value.pointer (some ⟨b_3, 0, none⟩)), (39, Value.bool t39)] ∧ F_towpathlaw05_RecordDecodes_k0 R v14 b_2 b_3 t39 w) ?_ ?_
      · refine wpE_region (id := 6) (ops := r_towpathlaw05_RecordDecodes_24) (by kernel_rfl) ?_
        refine reg_run [.plain, .plain, .plain, .plain] 4 [(0, [], Value.slice b_.ptr b_.len b_.cap), (3, [], Value.slice v14.ptr v14.len v14.cap), (4, [], Value.pointer (some ⟨b_2, 0, none⟩)), (6, [], Value.pointer (some ⟨b_3, 0, none⟩)), (28, [], Value.bool (e != f))] (by kernel_rfl) (by kernel_rfl) ?_
        refine reg_split 28 (e != f) (by kernel_rfl) (fun hb => ?_) (fun hb => ?_)
        · replace h := h.1 hb
          refine reg_run [] 4 [(0, [], Value.slice b_.ptr b_.len b_.cap), (3, [], Value.slice v14.ptr v14.len v14.cap), (4, [], Value.pointer (some ⟨b_2, 0, none⟩)), (6, [], Value.pointer (some ⟨b_3, 0, none⟩)), (28, [], Value.bool true)] (by kernel_rfl) (by kernel_rfl) ?_
          refine reg_run [.skip, .skip, .skip, .skip, .plain, .plain, .skip, .skip, .skip, .skip, .plain] 15 [(3, [], Value.slice v14.ptr v14.len v14.cap), (4, [], Value.pointer (some ⟨b_2, 0, none⟩)), (6, [], Value.pointer (some ⟨b_3, 0, none⟩)), (39, [], Value.bool true)] (by kernel_rfl) (by kernel_rfl) ?_
          refine reg_end [(3, Value.slice v14.ptr v14.len v14.cap), (4, Value.pointer (some ⟨b_2, 0, none⟩)), (6, Value.pointer (some ⟨b_3, 0, none⟩)), (39, Value.bool true)] (by kernel_rfl) (by kernel_rfl) ?_
          exact ⟨[(3, Value.slice v14.ptr v14.len v14.cap), (4, Value.pointer (some ⟨b_2, 0, none⟩)), (6, Value.pointer (some ⟨b_3, 0, none⟩)), (39, Value.bool true)], Sub.mk (by kernel_rfl), true, rfl, h⟩
        · replace h := h.2 hb
          refine reg_run [] 4 [(0, [], Value.slice b_.ptr b_.len b_.cap), (3, [], Value.slice v14.ptr v14.len v14.cap), (4, [], Value.pointer (some ⟨b_2, 0, none⟩)), (6, [], Value.pointer (some ⟨b_3, 0, none⟩)), (28, [], Value.bool false)] (by kernel_rfl) (by kernel_rfl) ?_
          refine reg_run [] 4 [(0, [], Value.slice b_.ptr b_.len b_.cap), (3, [], Value.slice v14.ptr v14.len v14.cap), (4, [], Value.pointer (some ⟨b_2, 0, none⟩)), (6, [], Value.pointer (some ⟨b_3, 0, none⟩)), (28, [], Value.bool false)] (by kernel_rfl) (by kernel_rfl) ?_
          obtain ⟨v29, hc, h⟩ := h
          refine reg_loadN (t := 27) (a := (Go.Operand.tmp 4)) (b := b_2) (o := 0) (ty := 27) (dst := some 29) [Value.int .i64 v29.Number, Value.slice v29.Writes.ptr v29.Writes.len v29.Writes.cap] (by kernel_rfl) (by kernel_rfl) (by kernel_rfl) (k := 2) (by kernel_rfl) (by kernel_rfl) hc ?_
          refine reg_run [] 5 [(0, [], Value.slice b_.ptr b_.len b_.cap), (3, [], Value.slice v14.ptr v14.len v14.cap), (4, [], Value.pointer (some ⟨b_2, 0, none⟩)), (6, [], Value.pointer (some ⟨b_3, 0, none⟩)), (28, [], Value.bool false), (29, [], Value.agg #[Value.int .i64 v29.Number, Value.slice v29.Writes.ptr v29.Writes.len v29.Writes.cap])] (by kernel_rfl) (by kernel_rfl) ?_
          obtain ⟨v30, hc, h⟩ := h
          refine reg_loadN (t := 27) (a := (Go.Operand.tmp 6)) (b := b_3) (o := 0) (ty := 27) (dst := some 30) [Value.int .i64 v30.Number, Value.slice v30.Writes.ptr v30.Writes.len v30.Writes.cap] (by kernel_rfl) (by kernel_rfl) (by kernel_rfl) (k := 2) (by kernel_rfl) (by kernel_rfl) hc ?_
          refine reg_run [] 6 [(0, [], Value.slice b_.ptr b_.len b_.cap), (3, [], Value.slice v14.ptr v14.len v14.cap), (4, [], Value.pointer (some ⟨b_2, 0, none⟩)), (6, [], Value.pointer (some ⟨b_3, 0, none⟩)), (28, [], Value.bool false), (29, [], Value.agg #[Value.int .i64 v29.Number, Value.slice v29.Writes.ptr v29.Writes.len v29.Writes.cap]), (30, [], Value.agg #[Value.int .i64 v30.Number, Value.slice v30.Writes.ptr v30.Writes.len v30.Writes.cap])] (by kernel_rfl) (by kernel_rfl) ?_
          refine reg_enter (op := (Go.Op.call (Go.Call.mk (Go.Callee.value (Go.Operand.func 14)) #[(Go.Operand.tmp 29), (Go.Operand.tmp 30)] #[27, 27]))) (ty := 4) (dst := some 31) 14 #[Value.agg #[Value.int .i64 v29.Number, Value.slice v29.Writes.ptr v29.Writes.len v29.Writes.cap], Value.agg #[Value.int .i64 v30.Number, Value.slice v30.Writes.ptr v30.Writes.len v30.Writes.cap]] (by kernel_rfl) (fun ww => by kernel_rfl) (Calls.mono h ?_)
          rintro _ w14 ⟨v31, rfl, h⟩
          refine ⟨_, rfl, ?_⟩
          refine reg_run [.sure, .plain, .plain, .plain, .plain] 12 [(3, [], Value.slice v14.ptr v14.len v14.cap), (4, [], Value.pointer (some ⟨b_2, 0, none⟩)), (6, [], Value.pointer (some ⟨b_3, 0, none⟩)), (34, [], Value.bool (!v31)), (35, [(34, false)], Value.slice v14.ptr v14.len v14.cap), (36, [(34, false)], Value.slice b_.ptr b_.len b_.cap)] (by kernel_rfl) (by kernel_rfl) ?_
          refine reg_split 34 (!v31) (by kernel_rfl) (fun hb => ?_) (fun hb => ?_)
          · replace h := h.1 hb
            refine reg_run [] 12 [(3, [], Value.slice v14.ptr v14.len v14.cap), (4, [], Value.pointer (some ⟨b_2, 0, none⟩)), (6, [], Value.pointer (some ⟨b_3, 0, none⟩)), (34, [], Value.bool true), (35, [], undef), (36, [], undef)] (by kernel_rfl) (by kernel_rfl) ?_
            refine reg_run [.skip, .skip, .plain] 15 [(3, [], Value.slice v14.ptr v14.len v14.cap), (4, [], Value.pointer (some ⟨b_2, 0, none⟩)), (6, [], Value.pointer (some ⟨b_3, 0, none⟩)), (39, [], Value.bool true)] (by kernel_rfl) (by kernel_rfl) ?_
            refine reg_end [(3, Value.slice v14.ptr v14.len v14.cap), (4, Value.pointer (some ⟨b_2, 0, none⟩)), (6, Value.pointer (some ⟨b_3, 0, none⟩)), (39, Value.bool true)] (by kernel_rfl) (by kernel_rfl) ?_
            exact ⟨[(3, Value.slice v14.ptr v14.len v14.cap), (4, Value.pointer (some ⟨b_2, 0, none⟩)), (6, Value.pointer (some ⟨b_3, 0, none⟩)), (39, Value.bool true)], Sub.mk (by kernel_rfl), true, rfl, h⟩
          · replace h := h.2 hb
            refine reg_run [] 12 [(3, [], Value.slice v14.ptr v14.len v14.cap), (4, [], Value.pointer (some ⟨b_2, 0, none⟩)), (6, [], Value.pointer (some ⟨b_3, 0, none⟩)), (34, [], Value.bool false), (35, [], Value.slice v14.ptr v14.len v14.cap), (36, [], Value.slice b_.ptr b_.len b_.cap)] (by kernel_rfl) (by kernel_rfl) ?_
            refine reg_run [] 12 [(3, [], Value.slice v14.ptr v14.len v14.cap), (4, [], Value.pointer (some ⟨b_2, 0, none⟩)), (6, [], Value.pointer (some ⟨b_3, 0, none⟩)), (34, [], Value.bool false), (35, [], Value.slice v14.ptr v14.len v14.cap), (36, [], Value.slice b_.ptr b_.len b_.cap)] (by kernel_rfl) (by kernel_rfl) ?_
            refine reg_enter (op := (Go.Op.call (Go.Call.mk (Go.Callee.value (Go.Operand.func 15)) #[(Go.Operand.tmp 35), (Go.Operand.tmp 36)] #[22, 22]))) (ty := 4) (dst := some 37) 15 #[Value.slice v14.ptr v14.len v14.cap, Value.slice b_.ptr b_.len b_.cap] (by kernel_rfl) (fun ww => by kernel_rfl) (Calls.mono h ?_)
            rintro _ w15 ⟨v37, rfl, h⟩
            refine ⟨_, rfl, ?_⟩
            refine reg_run [.sure, .plain] 15 [(3, [], Value.slice v14.ptr v14.len v14.cap), (4, [], Value.pointer (some ⟨b_2, 0, none⟩)), (6, [], Value.pointer (some ⟨b_3, 0, none⟩)), (39, [], Value.bool (!v37))] (by kernel_rfl) (by kernel_rfl) ?_
            refine reg_end [(3, Value.slice v14.ptr v14.len v14.cap), (4, Value.pointer (some ⟨b_2, 0, none⟩)), (6, Value.pointer (some ⟨b_3, 0, none⟩)), (39, Value.bool (!v37))] (by kernel_rfl) (by kernel_rfl) ?_
            exact ⟨[(3, Value.slice v14.ptr v14.len v14.cap), (4, Value.pointer (some ⟨b_2, 0, none⟩)), (6, Value.pointer (some ⟨b_3, 0, none⟩)), (39, Value.bool (!v37))], Sub.mk (by kernel_rfl), (!v37), rfl, h⟩
      · rintro _ w10 ⟨t39, rfl, h⟩
        unfold F_towpathlaw05_RecordDecodes_k0 at h
        refine wpE_cond (o := (Operand.tmp 39)) (b := t39) (x := c_towpathlaw05_RecordDecodes_27) (y := c_towpathlaw05_RecordDecodes_31) (by kernel_rfl) (by kernel_rfl) (fun hb => ?_) (fun hb => ?_)
        · replace h := h.1 hb
          refine wpE_seq (x := c_towpathlaw05_RecordDecodes_28) (y := c_towpathlaw05_RecordDecodes_30) (by kernel_rfl) ?_
          refine wpE_region (id := 7) (ops := r_towpathlaw05_RecordDecodes_28) (by kernel_rfl) ?_
          refine reg_run [.plain] 1 [(2, [], Value.bool false)] (by kernel_rfl) (by kernel_rfl) ?_
          refine reg_end [(2, Value.bool false)] (by kernel_rfl) (by kernel_rfl) ?_
          change WpE _ _ c_towpathlaw05_RecordDecodes_30 _ _ _
          refine wpE_ret (by kernel_rfl) ?_
          repeat (first | refine seqQ_ret ?_ | refine blockQ_ret ?_ | refine loopQ_ret ?_ | refine cutQ_ret ?_)
          exact retS (rs := [(Go.ResultVar.tmp 2)]) (v := Value.bool false) (by kernel_rfl) (⟨by kernel_rfl, trivial⟩) ⟨false, rfl, h⟩
        · replace h := h.2 hb
          refine wpE_skip (by kernel_rfl) ?_
          change WpE _ _ c_towpathlaw05_RecordDecodes_32 _ _ _
          refine wpE_seq (x := c_towpathlaw05_RecordDecodes_33) (y := c_towpathlaw05_RecordDecodes_51) (by kernel_rfl) ?_
          refine wpE_seq (x := c_towpathlaw05_RecordDecodes_34) (y := c_towpathlaw05_RecordDecodes_36) (by kernel_rfl) ?_
          refine wpE_region (id := 8) (ops := r_towpathlaw05_RecordDecodes_34) (by kernel_rfl) ?_
          refine reg_run [.plain] 1 [(3, [], Value.slice v14.ptr v14.len v14.cap), (4, [], Value.pointer (some ⟨b_2, 0, none⟩)), (6, [], Value.pointer (some ⟨b_3, 0, none⟩)), (8, [], Value.int .i64 0)] (by kernel_rfl) (by kernel_rfl) ?_
          refine reg_end [(3, Value.slice v14.ptr v14.len v14.cap), (4, Value.pointer (some ⟨b_2, 0, none⟩)), (6, Value.pointer (some ⟨b_3, 0, none⟩)), (8, Value.int .i64 0)] (by kernel_rfl) (by kernel_rfl) ?_
          change WpE _ _ c_towpathlaw05_RecordDecodes_36 _ _ _
          refine wpE_block (id := 0) (x := c_towpathlaw05_RecordDecodes_37) (by kernel_rfl) ?_
          obtain ⟨I, μ, h0, hr⟩ := h
          refine wpE_loop (x := c_towpathlaw05_RecordDecodes_38) (by kernel_rfl) (fun m l w => ∃ (i : Int), l = [(3, Value.slice v14.ptr v14.len v14.cap), (4, Value.pointer (some ⟨b_2, 0, none⟩)), (6, Value.pointer (some ⟨b_3, 0, none⟩)), (8, Value.int .i64 i)] ∧ I i w ∧ μ i w = m) (l' := [(3, Value.slice v14.ptr v14.len v14.cap), (4, Value.pointer (some ⟨b_2, 0, none⟩)), (6, Value.pointer (some ⟨b_3, 0, none⟩)), (8, Value.int .i64 0)]) (Sub.mk (by kernel_rfl)) ⟨0, rfl, h0, rfl⟩ ?_
          rintro _ _ w11 ⟨i, rfl, hI, rfl⟩
          obtain ⟨again_, again__h, h⟩ : ∃ again_ : Int → World → Prop, (∀ i' w', again_ i' w' → I i' w' ∧ μ i' w' < μ i w11) ∧ F_towpathlaw05_RecordDecodes_L1 R v14 b_2 b_3 again_ i w11 := ⟨_, fun _ _ h => h, hr i w11 hI⟩
          clear h0 hI
          unfold F_towpathlaw05_RecordDecodes_L1 at h
          refine wpE_seq (x := c_towpathlaw05_RecordDecodes_39) (y := c_towpathlaw05_RecordDecodes_45) (by kernel_rfl) ?_
          refine wpE_seq (x := c_towpathlaw05_RecordDecodes_40) (y := c_towpathlaw05_RecordDecodes_42) (by kernel_rfl) ?_
          refine wpE_region (id := 9) (ops := r_towpathlaw05_RecordDecodes_40) (by kernel_rfl) ?_
          refine reg_run [.plain, .plain, .plain, .plain] 4 [(3, [], Value.slice v14.ptr v14.len v14.cap), (4, [], Value.pointer (some ⟨b_2, 0, none⟩)), (6, [], Value.pointer (some ⟨b_3, 0, none⟩)), (8, [], Value.int .i64 i), (43, [], Value.bool (decide (i < ((v14.len : Nat) : Int))))] (by kernel_rfl) (by kernel_rfl) ?_
          refine reg_end [(3, Value.slice v14.ptr v14.len v14.cap), (4, Value.pointer (some ⟨b_2, 0, none⟩)), (6, Value.pointer (some ⟨b_3, 0, none⟩)), (8, Value.int .i64 i), (43, Value.bool (decide (i < ((v14.len : Nat) : Int))))] (by kernel_rfl) (by kernel_rfl) ?_
          change WpE _ _ c_towpathlaw05_RecordDecodes_42 _ _ _
          refine wpE_cond (o := (Operand.tmp 43)) (b := (decide (i < ((v14.len : Nat) : Int)))) (x := c_towpathlaw05_RecordDecodes_43) (y := c_towpathlaw05_RecordDecodes_44) (by kernel_rfl) (by kernel_rfl) (fun hb => ?_) (fun hb => ?_)
          · replace h := h.1 hb
            refine wpE_skip (by kernel_rfl) ?_
            change WpE _ _ c_towpathlaw05_RecordDecodes_45 _ _ _
            refine wpE_seq (x := c_towpathlaw05_RecordDecodes_46) (y := c_towpathlaw05_RecordDecodes_49) (by kernel_rfl) ?_
            refine wpE_block (id := 1) (x := c_towpathlaw05_RecordDecodes_47) (by kernel_rfl) ?_
            refine wpE_region (id := 11) (ops := r_towpathlaw05_RecordDecodes_47) (by kernel_rfl) ?_
            refine reg_run [.plain, .plain] 2 [(3, [], Value.slice v14.ptr v14.len v14.cap), (4, [], Value.pointer (some ⟨b_2, 0, none⟩)), (6, [], Value.pointer (some ⟨b_3, 0, none⟩)), (8, [], Value.int .i64 i), (46, [], Value.slice v14.ptr v14.len v14.cap), (47, [], Value.int .i64 i)] (by kernel_rfl) (by kernel_rfl) ?_
            obtain ⟨hp_3, h⟩ := h
            refine reg_conv [(3, [], Value.slice v14.ptr v14.len v14.cap), (4, [], Value.pointer (some ⟨b_2, 0, none⟩)), (6, [], Value.pointer (some ⟨b_3, 0, none⟩)), (8, [], Value.int .i64 i), (46, [], Value.slice (some ⟨(pblk v14.ptr), (poff v14.ptr), none⟩) v14.len v14.cap), (47, [], Value.int .i64 i)] (congrArg (fun pp => ([(3, [], Value.slice v14.ptr v14.len v14.cap), (4, [], Value.pointer (some ⟨b_2, 0, none⟩)), (6, [], Value.pointer (some ⟨b_3, 0, none⟩)), (8, [], Value.int .i64 i), (46, [], Value.slice pp v14.len v14.cap), (47, [], Value.int .i64 i)] : GEnv)) hp_3) ?_
            obtain ⟨h0, h1, h⟩ := h
            refine reg_indexS1 (t := 22) (e := 5) (x := (Go.Operand.tmp 46)) (ix := (Go.Operand.tmp 47)) (b := (pblk v14.ptr)) (o := (poff v14.ptr)) (l := v14.len) (c := v14.cap) (k := .i64) (j := i) (ty := 0) (dst := some 48) (by kernel_rfl) (by kernel_rfl) (by kernel_rfl) (by kernel_rfl) (by kernel_rfl) h0 h1 ?_
            refine reg_run [] 3 [(3, [], Value.slice v14.ptr v14.len v14.cap), (4, [], Value.pointer (some ⟨b_2, 0, none⟩)), (6, [], Value.pointer (some ⟨b_3, 0, none⟩)), (8, [], Value.int .i64 i), (48, [], Value.pointer (some ⟨(pblk v14.ptr), (poff v14.ptr) + i.toNat, none⟩))] (by kernel_rfl) (by kernel_rfl) ?_
            obtain ⟨hc, h⟩ := h
            refine reg_store (t := 5) (a := (Go.Operand.tmp 48)) (x := (Go.Operand.const (Go.Value.int Go.IntKind.u8 238))) (b := (pblk v14.ptr)) (o := ((poff v14.ptr) + i.toNat)) (ty := 0) (dst := none) [Value.int .u8 238] (by kernel_rfl) (by kernel_rfl) (by kernel_rfl) (k := 1) (by kernel_rfl) (by kernel_rfl) (by kernel_rfl) hc (fun w12 hw => ?_)
            replace h := h w12 hw
            clear hw
            refine reg_end [(3, Value.slice v14.ptr v14.len v14.cap), (4, Value.pointer (some ⟨b_2, 0, none⟩)), (6, Value.pointer (some ⟨b_3, 0, none⟩)), (8, Value.int .i64 i)] (by kernel_rfl) (by kernel_rfl) ?_
            change WpE _ _ c_towpathlaw05_RecordDecodes_49 _ _ _
            refine wpE_region (id := 10) (ops := r_towpathlaw05_RecordDecodes_49) (by kernel_rfl) ?_
            refine reg_run [.plain, .plain, .plain] 3 [(3, [], Value.slice v14.ptr v14.len v14.cap), (4, [], Value.pointer (some ⟨b_2, 0, none⟩)), (6, [], Value.pointer (some ⟨b_3, 0, none⟩)), (8, [], Value.int .i64 (IntKind.i64.wrap (i + 1)))] (by kernel_rfl) (by kernel_rfl) ?_
            refine reg_end [(3, Value.slice v14.ptr v14.len v14.cap), (4, Value.pointer (some ⟨b_2, 0, none⟩)), (6, Value.pointer (some ⟨b_3, 0, none⟩)), (8, Value.int .i64 (IntKind.i64.wrap (i + 1)))] (by kernel_rfl) (by kernel_rfl) ?_
            have hb_ := again__h _ _ h
            exact ⟨_, hb_.2, [(3, Value.slice v14.ptr v14.len v14.cap), (4, Value.pointer (some ⟨b_2, 0, none⟩)), (6, Value.pointer (some ⟨b_3, 0, none⟩)), (8, Value.int .i64 (IntKind.i64.wrap (i + 1)))], Sub.mk (by kernel_rfl), (IntKind.i64.wrap (i + 1)), rfl, hb_.1, rfl⟩
          · replace h := h.2 hb
            refine wpE_exit (id := 0) (by kernel_rfl) ?_
            change WpE _ _ c_towpathlaw05_RecordDecodes_51 _ _ _
            refine wpE_seq (x := c_towpathlaw05_RecordDecodes_52) (y := c_towpathlaw05_RecordDecodes_54) (by kernel_rfl) ?_
            refine wpE_region (id := 12) (ops := r_towpathlaw05_RecordDecodes_52) (by kernel_rfl) ?_
            refine reg_run [] 0 [(4, [], Value.pointer (some ⟨b_2, 0, none⟩)), (6, [], Value.pointer (some ⟨b_3, 0, none⟩))] (by kernel_rfl) (by kernel_rfl) ?_
            obtain ⟨v49, hc, h⟩ := h
            refine reg_loadN (t := 27) (a := (Go.Operand.tmp 4)) (b := b_2) (o := 0) (ty := 27) (dst := some 49) [Value.int .i64 v49.Number, Value.slice v49.Writes.ptr v49.Writes.len v49.Writes.cap] (by kernel_rfl) (by kernel_rfl) (by kernel_rfl) (k := 2) (by kernel_rfl) (by kernel_rfl) hc ?_
            refine reg_run [] 1 [(6, [], Value.pointer (some ⟨b_3, 0, none⟩)), (49, [], Value.agg #[Value.int .i64 v49.Number, Value.slice v49.Writes.ptr v49.Writes.len v49.Writes.cap])] (by kernel_rfl) (by kernel_rfl) ?_
            obtain ⟨v50, hc, h⟩ := h
            refine reg_loadN (t := 27) (a := (Go.Operand.tmp 6)) (b := b_3) (o := 0) (ty := 27) (dst := some 50) [Value.int .i64 v50.Number, Value.slice v50.Writes.ptr v50.Writes.len v50.Writes.cap] (by kernel_rfl) (by kernel_rfl) (by kernel_rfl) (k := 2) (by kernel_rfl) (by kernel_rfl) hc ?_
            refine reg_run [] 2 [(49, [], Value.agg #[Value.int .i64 v49.Number, Value.slice v49.Writes.ptr v49.Writes.len v49.Writes.cap]), (50, [], Value.agg #[Value.int .i64 v50.Number, Value.slice v50.Writes.ptr v50.Writes.len v50.Writes.cap])] (by kernel_rfl) (by kernel_rfl) ?_
            refine reg_enter (op := (Go.Op.call (Go.Call.mk (Go.Callee.value (Go.Operand.func 14)) #[(Go.Operand.tmp 49), (Go.Operand.tmp 50)] #[27, 27]))) (ty := 4) (dst := some 51) 14 #[Value.agg #[Value.int .i64 v49.Number, Value.slice v49.Writes.ptr v49.Writes.len v49.Writes.cap], Value.agg #[Value.int .i64 v50.Number, Value.slice v50.Writes.ptr v50.Writes.len v50.Writes.cap]] (by kernel_rfl) (fun ww => by kernel_rfl) (Calls.mono h ?_)
            rintro _ w13 ⟨v51, rfl, h⟩
            refine ⟨_, rfl, ?_⟩
            refine reg_run [.plain] 4 [(2, [], Value.bool v51)] (by kernel_rfl) (by kernel_rfl) ?_
            refine reg_end [(2, Value.bool v51)] (by kernel_rfl) (by kernel_rfl) ?_
            change WpE _ _ c_towpathlaw05_RecordDecodes_54 _ _ _
            refine wpE_ret (by kernel_rfl) ?_
            repeat (first | refine seqQ_ret ?_ | refine blockQ_ret ?_ | refine loopQ_ret ?_ | refine cutQ_ret ?_)
            exact retS (rs := [(Go.ResultVar.tmp 2)]) (v := Value.bool v51) (by kernel_rfl) (⟨by kernel_rfl, trivial⟩) ⟨v51, rfl, h⟩
  · rintro e w' ⟨v, rfl, r0, rfl, h⟩; exact ⟨r0, rfl, h⟩
end Go.Proofs.Ytfmkemmgakdddaa
