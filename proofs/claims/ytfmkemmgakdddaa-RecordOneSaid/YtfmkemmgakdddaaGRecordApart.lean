/- WRITTEN BY PROGRAM (dec.py): for each Go function the clean formula F, the call's contract C, and the proof S that F gives C. -/
import Derived.Test.YtfmkemmgakdddaaRows
import Derived.Test.YtfmkemmgakdddaaGF
namespace Go.Proofs.Ytfmkemmgakdddaa
open Go
set_option linter.unusedVariables false

/-! ### towpath/towpathlaw05.RecordApart (function 8) -/
noncomputable def c_towpathlaw05_RecordApart_0 : Code := (Try.f8.body).getD Code.skip
noncomputable def c_towpathlaw05_RecordApart_1 : Code := Code.l c_towpathlaw05_RecordApart_0
noncomputable def r_towpathlaw05_RecordApart_1 : Array Oper := Code.ops c_towpathlaw05_RecordApart_1
noncomputable def c_towpathlaw05_RecordApart_3 : Code := Code.r c_towpathlaw05_RecordApart_0
noncomputable def c_towpathlaw05_RecordApart_4 : Code := Code.l c_towpathlaw05_RecordApart_3
noncomputable def c_towpathlaw05_RecordApart_5 : Code := Code.l c_towpathlaw05_RecordApart_4
noncomputable def r_towpathlaw05_RecordApart_5 : Array Oper := Code.ops c_towpathlaw05_RecordApart_5
noncomputable def c_towpathlaw05_RecordApart_7 : Code := Code.r c_towpathlaw05_RecordApart_4
noncomputable def c_towpathlaw05_RecordApart_8 : Code := Code.l c_towpathlaw05_RecordApart_7
noncomputable def c_towpathlaw05_RecordApart_9 : Code := Code.l c_towpathlaw05_RecordApart_8
noncomputable def r_towpathlaw05_RecordApart_9 : Array Oper := Code.ops c_towpathlaw05_RecordApart_9
noncomputable def c_towpathlaw05_RecordApart_11 : Code := Code.r c_towpathlaw05_RecordApart_8
noncomputable def c_towpathlaw05_RecordApart_12 : Code := Code.r c_towpathlaw05_RecordApart_7
noncomputable def c_towpathlaw05_RecordApart_13 : Code := Code.r c_towpathlaw05_RecordApart_3
noncomputable def c_towpathlaw05_RecordApart_14 : Code := Code.l c_towpathlaw05_RecordApart_13
noncomputable def r_towpathlaw05_RecordApart_14 : Array Oper := Code.ops c_towpathlaw05_RecordApart_14
noncomputable def c_towpathlaw05_RecordApart_16 : Code := Code.r c_towpathlaw05_RecordApart_13
noncomputable def c_towpathlaw05_RecordApart_17 : Code := Code.l c_towpathlaw05_RecordApart_16
noncomputable def r_towpathlaw05_RecordApart_17 : Array Oper := Code.ops c_towpathlaw05_RecordApart_17
noncomputable def c_towpathlaw05_RecordApart_19 : Code := Code.r c_towpathlaw05_RecordApart_16
noncomputable def c_towpathlaw05_RecordApart_20 : Code := Code.l c_towpathlaw05_RecordApart_19
noncomputable def c_towpathlaw05_RecordApart_21 : Code := Code.l c_towpathlaw05_RecordApart_20
noncomputable def r_towpathlaw05_RecordApart_21 : Array Oper := Code.ops c_towpathlaw05_RecordApart_21
noncomputable def c_towpathlaw05_RecordApart_23 : Code := Code.r c_towpathlaw05_RecordApart_20
noncomputable def c_towpathlaw05_RecordApart_24 : Code := Code.l c_towpathlaw05_RecordApart_23
noncomputable def c_towpathlaw05_RecordApart_25 : Code := Code.l c_towpathlaw05_RecordApart_24
noncomputable def r_towpathlaw05_RecordApart_25 : Array Oper := Code.ops c_towpathlaw05_RecordApart_25
noncomputable def c_towpathlaw05_RecordApart_27 : Code := Code.r c_towpathlaw05_RecordApart_24
noncomputable def c_towpathlaw05_RecordApart_28 : Code := Code.r c_towpathlaw05_RecordApart_23
noncomputable def c_towpathlaw05_RecordApart_29 : Code := Code.r c_towpathlaw05_RecordApart_19
noncomputable def c_towpathlaw05_RecordApart_30 : Code := Code.l c_towpathlaw05_RecordApart_29
noncomputable def r_towpathlaw05_RecordApart_30 : Array Oper := Code.ops c_towpathlaw05_RecordApart_30
noncomputable def c_towpathlaw05_RecordApart_32 : Code := Code.r c_towpathlaw05_RecordApart_29
noncomputable def c_towpathlaw05_RecordApart_33 : Code := Code.l c_towpathlaw05_RecordApart_32
noncomputable def r_towpathlaw05_RecordApart_33 : Array Oper := Code.ops c_towpathlaw05_RecordApart_33
noncomputable def c_towpathlaw05_RecordApart_35 : Code := Code.r c_towpathlaw05_RecordApart_32
def o_towpathlaw05_RecordApart_5 : List Nat := [0, 1, 2, 3, 5, 4, 6, 7, 8, 9]
def o_towpathlaw05_RecordApart_33 : List Nat := [0, 1, 2, 3, 4, 5, 7, 8, 6, 9, 10, 11]

set_option maxRecDepth 100000 in
set_option maxHeartbeats 4000000 in
theorem S_towpathlaw05_RecordApart {t_ : T_api_Txn} {u : T_api_Txn} {w : World} {R : Bool → World → Prop} (h : F_towpathlaw05_RecordApart t_ u R w) : C_towpathlaw05_RecordApart t_ u w R := by
  unfold F_towpathlaw05_RecordApart at h
  unfold C_towpathlaw05_RecordApart
  refine Calls.mono (calls_of_wpE (args := [Value.agg #[Value.int .i64 t_.Number, Value.slice t_.Writes.ptr t_.Writes.len t_.Writes.cap], Value.agg #[Value.int .i64 u.Number, Value.slice u.Writes.ptr u.Writes.len u.Writes.cap]]) (R := fun v w' => ∃ (r0 : Bool), v = Value.bool r0 ∧ R r0 w') Try.func8 (c := c_towpathlaw05_RecordApart_0) (by kernel_rfl) 67 (by kernel_rfl) (by kernel_rfl) [(0, Value.agg #[Value.int .i64 t_.Number, Value.slice t_.Writes.ptr t_.Writes.len t_.Writes.cap]), (1, Value.agg #[Value.int .i64 u.Number, Value.slice u.Writes.ptr u.Writes.len u.Writes.cap])] (by kernel_rfl) ?_) ?_
  · refine wpE_seq (x := c_towpathlaw05_RecordApart_1) (y := c_towpathlaw05_RecordApart_3) (by kernel_rfl) ?_
    refine wpE_region (id := 0) (ops := r_towpathlaw05_RecordApart_1) (by kernel_rfl) ?_
    refine reg_run [] 0 [(0, [], Value.agg #[Value.int .i64 t_.Number, Value.slice t_.Writes.ptr t_.Writes.len t_.Writes.cap]), (1, [], Value.agg #[Value.int .i64 u.Number, Value.slice u.Writes.ptr u.Writes.len u.Writes.cap])] (by kernel_rfl) (by kernel_rfl) ?_
    refine reg_new (op := (Go.Op.box 27 (Go.Operand.tmp 0))) (ty := 0) (dst := some 2) (fun bb => Value.pointer (some ⟨bb, 0, none⟩)) (Obj.cells ([Value.int .i64 t_.Number, Value.slice t_.Writes.ptr t_.Writes.len t_.Writes.cap]).toArray ty_api_Txn (0, 0)) (by kernel_rfl) (by kernel_rfl) (fun b_ w1 hb hw => ?_)
    replace h := h b_ w1 hb hw
    clear hb hw
    refine reg_run [] 1 [(1, [], Value.agg #[Value.int .i64 u.Number, Value.slice u.Writes.ptr u.Writes.len u.Writes.cap]), (2, [], Value.pointer (some ⟨b_, 0, none⟩))] (by kernel_rfl) (by kernel_rfl) ?_
    refine reg_new (op := (Go.Op.box 27 (Go.Operand.tmp 1))) (ty := 0) (dst := some 3) (fun bb => Value.pointer (some ⟨bb, 0, none⟩)) (Obj.cells ([Value.int .i64 u.Number, Value.slice u.Writes.ptr u.Writes.len u.Writes.cap]).toArray ty_api_Txn (0, 0)) (by kernel_rfl) (by kernel_rfl) (fun b_1 w2 hb hw => ?_)
    replace h := h b_1 w2 hb hw
    clear hb hw
    refine reg_run [.plain] 3 [(2, [], Value.pointer (some ⟨b_, 0, none⟩)), (3, [], Value.pointer (some ⟨b_1, 0, none⟩))] (by kernel_rfl) (by kernel_rfl) ?_
    refine reg_end [(2, Value.pointer (some ⟨b_, 0, none⟩)), (3, Value.pointer (some ⟨b_1, 0, none⟩))] (by kernel_rfl) (by kernel_rfl) ?_
    change WpE _ _ c_towpathlaw05_RecordApart_3 _ _ _
    refine wpE_seq (x := c_towpathlaw05_RecordApart_4) (y := c_towpathlaw05_RecordApart_13) (by kernel_rfl) ?_
    refine wpE_seq_cut (x := c_towpathlaw05_RecordApart_5) (y := c_towpathlaw05_RecordApart_7) (by kernel_rfl) (fun l w => ∃ (t19 : Bool), l = [(2, Value.pointer (some ⟨b_, 0, none⟩)), (3, Value.pointer (some ⟨b_1, 0, none⟩)), (19, Value.bool t19)] ∧ F_towpathlaw05_RecordApart_k0 R b_ b_1 t19 w) ?_ ?_
    · refine wpE_mixregion (id := 1) (ops := r_towpathlaw05_RecordApart_5) o_towpathlaw05_RecordApart_5 (by kernel_rfl) (by kernel_rfl) (by kernel_rfl) (by kernel_rfl) (fun w10 hw => ?_)
      replace h := h w10 hw
      clear hw
      refine mreg_run [] 0 [(2, [], Value.pointer (some ⟨b_, 0, none⟩)), (3, [], Value.pointer (some ⟨b_1, 0, none⟩))] (by kernel_rfl) (by kernel_rfl) ?_
      refine mreg_enter (op := (Go.Op.call (Go.Call.mk (Go.Callee.value (Go.Operand.func 34)) #[] #[]))) (ty := 4) (dst := some 10) 0 [] [] 34 #[] (by kernel_rfl) (by kernel_rfl) (by kernel_rfl) (by kernel_rfl) (by kernel_rfl) (fun ww => by kernel_rfl) (Calls.mono h ?_)
      rintro _ w11 ⟨v10, rfl, h⟩
      refine ⟨_, rfl, trivial, ?_⟩
      refine mreg_run [.plain, .plain] 3 [(2, [], Value.pointer (some ⟨b_, 0, none⟩)), (3, [], Value.pointer (some ⟨b_1, 0, none⟩)), (12, [], Value.bool (!v10))] (by kernel_rfl) (by kernel_rfl) ?_
      refine mreg_split 12 (!v10) (by kernel_rfl) (fun hb => ?_) (fun hb => ?_)
      · replace h := h.1 hb
        refine mreg_run [] 3 [(2, [], Value.pointer (some ⟨b_, 0, none⟩)), (3, [], Value.pointer (some ⟨b_1, 0, none⟩)), (12, [], Value.bool true)] (by kernel_rfl) (by kernel_rfl) ?_
        refine mreg_run [.skip, .skip, .skip, .skip, .skip, .skip, .plain] 10 [(2, [], Value.pointer (some ⟨b_, 0, none⟩)), (3, [], Value.pointer (some ⟨b_1, 0, none⟩)), (19, [], Value.bool true)] (by kernel_rfl) (by kernel_rfl) ?_
        refine mreg_end [(2, Value.pointer (some ⟨b_, 0, none⟩)), (3, Value.pointer (some ⟨b_1, 0, none⟩)), (19, Value.bool true)] (by kernel_rfl) (by kernel_rfl) (by kernel_rfl) ?_
        exact ⟨[(2, Value.pointer (some ⟨b_, 0, none⟩)), (3, Value.pointer (some ⟨b_1, 0, none⟩)), (19, Value.bool true)], Sub.mk (by kernel_rfl), true, rfl, h⟩
      · replace h := h.2 hb
        refine mreg_run [] 3 [(2, [], Value.pointer (some ⟨b_, 0, none⟩)), (3, [], Value.pointer (some ⟨b_1, 0, none⟩)), (12, [], Value.bool false)] (by kernel_rfl) (by kernel_rfl) ?_
        refine mreg_run [] 3 [(2, [], Value.pointer (some ⟨b_, 0, none⟩)), (3, [], Value.pointer (some ⟨b_1, 0, none⟩)), (12, [], Value.bool false)] (by kernel_rfl) (by kernel_rfl) ?_
        obtain ⟨v13, hc, h⟩ := h
        refine mreg_loadN (i := 3) (by kernel_rfl) (t := 27) (a := (Go.Operand.tmp 2)) (b := b_) (o := 0) (ty := 27) (dst := some 13) [Value.int .i64 v13.Number, Value.slice v13.Writes.ptr v13.Writes.len v13.Writes.cap] (by kernel_rfl) (by kernel_rfl) (by kernel_rfl) (k := 2) (by kernel_rfl) (by kernel_rfl) hc ?_
        refine mreg_run [] 4 [(2, [], Value.pointer (some ⟨b_, 0, none⟩)), (3, [], Value.pointer (some ⟨b_1, 0, none⟩)), (12, [], Value.bool false), (13, [], Value.agg #[Value.int .i64 v13.Number, Value.slice v13.Writes.ptr v13.Writes.len v13.Writes.cap])] (by kernel_rfl) (by kernel_rfl) ?_
        obtain ⟨v15, hc, h⟩ := h
        refine mreg_loadN (i := 5) (by kernel_rfl) (t := 27) (a := (Go.Operand.tmp 3)) (b := b_1) (o := 0) (ty := 27) (dst := some 15) [Value.int .i64 v15.Number, Value.slice v15.Writes.ptr v15.Writes.len v15.Writes.cap] (by kernel_rfl) (by kernel_rfl) (by kernel_rfl) (k := 2) (by kernel_rfl) (by kernel_rfl) hc ?_
        refine mreg_run [] 5 [(2, [], Value.pointer (some ⟨b_, 0, none⟩)), (3, [], Value.pointer (some ⟨b_1, 0, none⟩)), (12, [], Value.bool false), (13, [], Value.agg #[Value.int .i64 v13.Number, Value.slice v13.Writes.ptr v13.Writes.len v13.Writes.cap]), (15, [], Value.agg #[Value.int .i64 v15.Number, Value.slice v15.Writes.ptr v15.Writes.len v15.Writes.cap])] (by kernel_rfl) (by kernel_rfl) ?_
        refine mreg_enter (op := (Go.Op.call (Go.Call.mk (Go.Callee.value (Go.Operand.func 32)) #[(Go.Operand.tmp 13)] #[27]))) (ty := 3) (dst := some 14) 4 [2, 3, 0, 1] [(5, fun w' => CellsAt w' b_1 0 [Value.int .i64 v15.Number, Value.slice v15.Writes.ptr v15.Writes.len v15.Writes.cap])] 32 #[Value.agg #[Value.int .i64 v13.Number, Value.slice v13.Writes.ptr v13.Writes.len v13.Writes.cap]] (by kernel_rfl) (by kernel_rfl) (by kernel_rfl) (by kernel_rfl) (by kernel_rfl) (fun ww => by kernel_rfl) (Calls.mono h ?_)
        rintro _ w12 ⟨v14, rfl, h⟩
        obtain ⟨hk0, h⟩ := h
        refine ⟨_, rfl, ⟨hk0, trivial⟩, ?_⟩
        refine mreg_run [] 6 [(2, [], Value.pointer (some ⟨b_, 0, none⟩)), (3, [], Value.pointer (some ⟨b_1, 0, none⟩)), (12, [], Value.bool false), (14, [], Value.int .i64 v14), (15, [], Value.agg #[Value.int .i64 v15.Number, Value.slice v15.Writes.ptr v15.Writes.len v15.Writes.cap])] (by kernel_rfl) (by kernel_rfl) ?_
        refine mreg_enter (op := (Go.Op.call (Go.Call.mk (Go.Callee.value (Go.Operand.func 32)) #[(Go.Operand.tmp 15)] #[27]))) (ty := 3) (dst := some 16) 6 [2, 4, 5, 0, 1, 3] [] 32 #[Value.agg #[Value.int .i64 v15.Number, Value.slice v15.Writes.ptr v15.Writes.len v15.Writes.cap]] (by kernel_rfl) (by kernel_rfl) (by kernel_rfl) (by kernel_rfl) (by kernel_rfl) (fun ww => by kernel_rfl) (Calls.mono h ?_)
        rintro _ w13 ⟨v16, rfl, h⟩
        refine ⟨_, rfl, trivial, ?_⟩
        refine mreg_run [] 7 [(2, [], Value.pointer (some ⟨b_, 0, none⟩)), (3, [], Value.pointer (some ⟨b_1, 0, none⟩)), (12, [], Value.bool false), (14, [], Value.int .i64 v14), (16, [], Value.int .i64 v16)] (by kernel_rfl) (by kernel_rfl) ?_
        refine mreg_new (op := (Go.Op.buildSlice 63 2 #[(0, (Go.Operand.tmp 14)), (1, (Go.Operand.tmp 16))])) (ty := 63) (dst := some 17) 7 [2, 4, 6, 0, 1, 3, 5] [] (fun bb => Value.slice (some ⟨bb, 0, none⟩) 2 2) (Obj.cells ([Value.int .i64 v14, Value.int .i64 v16]).toArray ty_int (0, 0)) (by kernel_rfl) (by kernel_rfl) (by kernel_rfl) (by kernel_rfl) (by kernel_rfl) (by kernel_rfl) (fun b_3 w14 hb hw => ?_)
        replace h := h b_3 w14 hb hw
        clear hb hw
        refine ⟨trivial, ?_⟩
        refine mreg_run [] 8 [(2, [], Value.pointer (some ⟨b_, 0, none⟩)), (3, [], Value.pointer (some ⟨b_1, 0, none⟩)), (12, [], Value.bool false), (17, [], Value.slice (some ⟨b_3, 0, none⟩) 2 2)] (by kernel_rfl) (by kernel_rfl) ?_
        refine mreg_enter (op := (Go.Op.call (Go.Call.mk (Go.Callee.value (Go.Operand.func 10)) #[(Go.Operand.tmp 17)] #[63]))) (ty := 4) (dst := some 18) 8 [2, 6, 7, 0, 1, 4, 5, 3] [] 10 #[Value.slice (some ⟨b_3, 0, none⟩) 2 2] (by kernel_rfl) (by kernel_rfl) (by kernel_rfl) (by kernel_rfl) (by kernel_rfl) (fun ww => by kernel_rfl) (Calls.mono h ?_)
        rintro _ w15 ⟨v18, rfl, h⟩
        refine ⟨_, rfl, trivial, ?_⟩
        refine mreg_run [.plain] 10 [(2, [], Value.pointer (some ⟨b_, 0, none⟩)), (3, [], Value.pointer (some ⟨b_1, 0, none⟩)), (19, [], Value.bool v18)] (by kernel_rfl) (by kernel_rfl) ?_
        refine mreg_end [(2, Value.pointer (some ⟨b_, 0, none⟩)), (3, Value.pointer (some ⟨b_1, 0, none⟩)), (19, Value.bool v18)] (by kernel_rfl) (by kernel_rfl) (by kernel_rfl) ?_
        exact ⟨[(2, Value.pointer (some ⟨b_, 0, none⟩)), (3, Value.pointer (some ⟨b_1, 0, none⟩)), (19, Value.bool v18)], Sub.mk (by kernel_rfl), v18, rfl, h⟩
    · rintro _ w3 ⟨t19, rfl, h⟩
      unfold F_towpathlaw05_RecordApart_k0 at h
      refine wpE_cond (o := (Operand.tmp 19)) (b := t19) (x := c_towpathlaw05_RecordApart_8) (y := c_towpathlaw05_RecordApart_12) (by kernel_rfl) (by kernel_rfl) (fun hb => ?_) (fun hb => ?_)
      · replace h := h.1 hb
        refine wpE_seq (x := c_towpathlaw05_RecordApart_9) (y := c_towpathlaw05_RecordApart_11) (by kernel_rfl) ?_
        refine wpE_region (id := 2) (ops := r_towpathlaw05_RecordApart_9) (by kernel_rfl) ?_
        refine reg_run [] 0 [] (by kernel_rfl) (by kernel_rfl) ?_
        refine reg_enter (op := (Go.Op.call (Go.Call.mk (Go.Callee.value (Go.Operand.func 34)) #[] #[]))) (ty := 4) (dst := some 20) 34 #[] (by kernel_rfl) (fun ww => by kernel_rfl) (Calls.mono h ?_)
        rintro _ w4 ⟨v20, rfl, h⟩
        refine ⟨_, rfl, ?_⟩
        refine reg_run [.plain] 2 [(4, [], Value.bool v20)] (by kernel_rfl) (by kernel_rfl) ?_
        refine reg_end [(4, Value.bool v20)] (by kernel_rfl) (by kernel_rfl) ?_
        change WpE _ _ c_towpathlaw05_RecordApart_11 _ _ _
        refine wpE_ret (by kernel_rfl) ?_
        repeat (first | refine seqQ_ret ?_ | refine blockQ_ret ?_ | refine loopQ_ret ?_ | refine cutQ_ret ?_)
        exact retS (rs := [(Go.ResultVar.tmp 4)]) (v := Value.bool v20) (by kernel_rfl) (⟨by kernel_rfl, trivial⟩) ⟨v20, rfl, h⟩
      · replace h := h.2 hb
        refine wpE_skip (by kernel_rfl) ?_
        change WpE _ _ c_towpathlaw05_RecordApart_13 _ _ _
        refine wpE_seq (x := c_towpathlaw05_RecordApart_14) (y := c_towpathlaw05_RecordApart_16) (by kernel_rfl) ?_
        refine wpE_region (id := 3) (ops := r_towpathlaw05_RecordApart_14) (by kernel_rfl) ?_
        refine reg_run [] 0 [(2, [], Value.pointer (some ⟨b_, 0, none⟩)), (3, [], Value.pointer (some ⟨b_1, 0, none⟩))] (by kernel_rfl) (by kernel_rfl) ?_
        obtain ⟨v22, hc, h⟩ := h
        refine reg_loadN (t := 27) (a := (Go.Operand.tmp 2)) (b := b_) (o := 0) (ty := 27) (dst := some 22) [Value.int .i64 v22.Number, Value.slice v22.Writes.ptr v22.Writes.len v22.Writes.cap] (by kernel_rfl) (by kernel_rfl) (by kernel_rfl) (k := 2) (by kernel_rfl) (by kernel_rfl) hc ?_
        refine reg_run [] 1 [(2, [], Value.pointer (some ⟨b_, 0, none⟩)), (3, [], Value.pointer (some ⟨b_1, 0, none⟩)), (22, [], Value.agg #[Value.int .i64 v22.Number, Value.slice v22.Writes.ptr v22.Writes.len v22.Writes.cap])] (by kernel_rfl) (by kernel_rfl) ?_
        refine reg_enter (op := (Go.Op.call (Go.Call.mk (Go.Callee.value (Go.Operand.func 35)) #[(Go.Operand.tmp 22)] #[27]))) (ty := 77) (dst := some 23) 35 #[Value.agg #[Value.int .i64 v22.Number, Value.slice v22.Writes.ptr v22.Writes.len v22.Writes.cap]] (by kernel_rfl) (fun ww => by kernel_rfl) (Calls.mono h ?_)
        rintro _ w5 ⟨a_, e, rfl, h⟩
        refine ⟨_, rfl, ?_⟩
        refine reg_run [.plain, .plain, .plain, .plain, .plain] 7 [(2, [], Value.pointer (some ⟨b_, 0, none⟩)), (3, [], Value.pointer (some ⟨b_1, 0, none⟩)), (5, [], Value.slice a_.ptr a_.len a_.cap), (6, [], Value.int .i64 e)] (by kernel_rfl) (by kernel_rfl) ?_
        refine reg_end [(2, Value.pointer (some ⟨b_, 0, none⟩)), (3, Value.pointer (some ⟨b_1, 0, none⟩)), (5, Value.slice a_.ptr a_.len a_.cap), (6, Value.int .i64 e)] (by kernel_rfl) (by kernel_rfl) ?_
        change WpE _ _ c_towpathlaw05_RecordApart_16 _ _ _
        refine wpE_seq (x := c_towpathlaw05_RecordApart_17) (y := c_towpathlaw05_RecordApart_19) (by kernel_rfl) ?_
        refine wpE_region (id := 4) (ops := r_towpathlaw05_RecordApart_17) (by kernel_rfl) ?_
        refine reg_run [] 0 [(2, [], Value.pointer (some ⟨b_, 0, none⟩)), (3, [], Value.pointer (some ⟨b_1, 0, none⟩)), (5, [], Value.slice a_.ptr a_.len a_.cap), (6, [], Value.int .i64 e)] (by kernel_rfl) (by kernel_rfl) ?_
        obtain ⟨v27, hc, h⟩ := h
        refine reg_loadN (t := 27) (a := (Go.Operand.tmp 3)) (b := b_1) (o := 0) (ty := 27) (dst := some 27) [Value.int .i64 v27.Number, Value.slice v27.Writes.ptr v27.Writes.len v27.Writes.cap] (by kernel_rfl) (by kernel_rfl) (by kernel_rfl) (k := 2) (by kernel_rfl) (by kernel_rfl) hc ?_
        refine reg_run [] 1 [(2, [], Value.pointer (some ⟨b_, 0, none⟩)), (3, [], Value.pointer (some ⟨b_1, 0, none⟩)), (5, [], Value.slice a_.ptr a_.len a_.cap), (6, [], Value.int .i64 e), (27, [], Value.agg #[Value.int .i64 v27.Number, Value.slice v27.Writes.ptr v27.Writes.len v27.Writes.cap])] (by kernel_rfl) (by kernel_rfl) ?_
        refine reg_enter (op := (Go.Op.call (Go.Call.mk (Go.Callee.value (Go.Operand.func 35)) #[(Go.Operand.tmp 27)] #[27]))) (ty := 77) (dst := some 28) 35 #[Value.agg #[Value.int .i64 v27.Number, Value.slice v27.Writes.ptr v27.Writes.len v27.Writes.cap]] (by kernel_rfl) (fun ww => by kernel_rfl) (Calls.mono h ?_)
        rintro _ w6 ⟨b_2, f, rfl, h⟩
        refine ⟨_, rfl, ?_⟩
        refine reg_run [.plain, .plain, .plain, .plain, .plain] 7 [(2, [], Value.pointer (some ⟨b_, 0, none⟩)), (3, [], Value.pointer (some ⟨b_1, 0, none⟩)), (5, [], Value.slice a_.ptr a_.len a_.cap), (6, [], Value.int .i64 e), (7, [], Value.slice b_2.ptr b_2.len b_2.cap), (8, [], Value.int .i64 f)] (by kernel_rfl) (by kernel_rfl) ?_
        refine reg_end [(2, Value.pointer (some ⟨b_, 0, none⟩)), (3, Value.pointer (some ⟨b_1, 0, none⟩)), (5, Value.slice a_.ptr a_.len a_.cap), (6, Value.int .i64 e), (7, Value.slice b_2.ptr b_2.len b_2.cap), (8, Value.int .i64 f)] (by kernel_rfl) (by kernel_rfl) ?_
        change WpE _ _ c_towpathlaw05_RecordApart_19 _ _ _
        refine wpE_seq (x := c_towpathlaw05_RecordApart_20) (y := c_towpathlaw05_RecordApart_29) (by kernel_rfl) ?_
        refine wpE_seq (x := c_towpathlaw05_RecordApart_21) (y := c_towpathlaw05_RecordApart_23) (by kernel_rfl) ?_
        refine wpE_region (id := 5) (ops := r_towpathlaw05_RecordApart_21) (by kernel_rfl) ?_
        refine reg_run [.plain, .plain, .plain, .plain, .plain, .pick] 6 [(2, [], Value.pointer (some ⟨b_, 0, none⟩)), (3, [], Value.pointer (some ⟨b_1, 0, none⟩)), (5, [], Value.slice a_.ptr a_.len a_.cap), (6, [], Value.int .i64 e), (7, [], Value.slice b_2.ptr b_2.len b_2.cap), (8, [], Value.int .i64 f), (36, [], Value.bool ((e != 0) || (f != 0)))] (by kernel_rfl) (by kernel_rfl) ?_
        refine reg_end [(2, Value.pointer (some ⟨b_, 0, none⟩)), (3, Value.pointer (some ⟨b_1, 0, none⟩)), (5, Value.slice a_.ptr a_.len a_.cap), (6, Value.int .i64 e), (7, Value.slice b_2.ptr b_2.len b_2.cap), (8, Value.int .i64 f), (36, Value.bool ((e != 0) || (f != 0)))] (by kernel_rfl) (by kernel_rfl) ?_
        change WpE _ _ c_towpathlaw05_RecordApart_23 _ _ _
        refine wpE_cond (o := (Operand.tmp 36)) (b := ((e != 0) || (f != 0))) (x := c_towpathlaw05_RecordApart_24) (y := c_towpathlaw05_RecordApart_28) (by kernel_rfl) (by kernel_rfl) (fun hb => ?_) (fun hb => ?_)
        · replace h := h.1 hb
          refine wpE_seq (x := c_towpathlaw05_RecordApart_25) (y := c_towpathlaw05_RecordApart_27) (by kernel_rfl) ?_
          refine wpE_region (id := 6) (ops := r_towpathlaw05_RecordApart_25) (by kernel_rfl) ?_
          refine reg_run [.plain, .plain, .plain, .plain, .plain, .pick, .plain, .plain, .plain, .plain, .plain, .plain, .pick, .pick, .plain] 15 [(4, [], Value.bool (((e == 0) || (e == 1)) && ((f == 0) || (f == 1))))] (by kernel_rfl) (by kernel_rfl) ?_
          refine reg_end [(4, Value.bool (((e == 0) || (e == 1)) && ((f == 0) || (f == 1))))] (by kernel_rfl) (by kernel_rfl) ?_
          change WpE _ _ c_towpathlaw05_RecordApart_27 _ _ _
          refine wpE_ret (by kernel_rfl) ?_
          repeat (first | refine seqQ_ret ?_ | refine blockQ_ret ?_ | refine loopQ_ret ?_ | refine cutQ_ret ?_)
          exact retS (rs := [(Go.ResultVar.tmp 4)]) (v := Value.bool (((e == 0) || (e == 1)) && ((f == 0) || (f == 1)))) (by kernel_rfl) (⟨by kernel_rfl, trivial⟩) ⟨(((e == 0) || (e == 1)) && ((f == 0) || (f == 1))), rfl, h⟩
        · replace h := h.2 hb
          refine wpE_skip (by kernel_rfl) ?_
          change WpE _ _ c_towpathlaw05_RecordApart_29 _ _ _
          refine wpE_seq (x := c_towpathlaw05_RecordApart_30) (y := c_towpathlaw05_RecordApart_32) (by kernel_rfl) ?_
          refine wpE_region (id := 7) (ops := r_towpathlaw05_RecordApart_30) (by kernel_rfl) ?_
          refine reg_run [.plain, .plain, .plain, .plain, .plain, .plain] 6 [(2, [], Value.pointer (some ⟨b_, 0, none⟩)), (3, [], Value.pointer (some ⟨b_1, 0, none⟩)), (5, [], Value.slice a_.ptr a_.len a_.cap), (7, [], Value.slice b_2.ptr b_2.len b_2.cap), (9, [], Value.int .i64 (if ((b_2.len : Nat) : Int) < ((a_.len : Nat) : Int) then ((b_2.len : Nat) : Int) else ((a_.len : Nat) : Int)))] (by kernel_rfl) (by kernel_rfl) ?_
          refine reg_end [(2, Value.pointer (some ⟨b_, 0, none⟩)), (3, Value.pointer (some ⟨b_1, 0, none⟩)), (5, Value.slice a_.ptr a_.len a_.cap), (7, Value.slice b_2.ptr b_2.len b_2.cap), (9, Value.int .i64 (if ((b_2.len : Nat) : Int) < ((a_.len : Nat) : Int) then ((b_2.len : Nat) : Int) else ((a_.len : Nat) : Int)))] (by kernel_rfl) (by kernel_rfl) ?_
          change WpE _ _ c_towpathlaw05_RecordApart_32 _ _ _
          refine wpE_seq (x := c_towpathlaw05_RecordApart_33) (y := c_towpathlaw05_RecordApart_35) (by kernel_rfl) ?_
          refine wpE_mixregion (id := 8) (ops := r_towpathlaw05_RecordApart_33) o_towpathlaw05_RecordApart_33 (by kernel_rfl) (by kernel_rfl) (by kernel_rfl) (by kernel_rfl) (fun w7 hw => ?_)
          replace h := h w7 hw
          clear hw
          refine mreg_run [.plain, .plain] 2 [(2, [], Value.pointer (some ⟨b_, 0, none⟩)), (3, [], Value.pointer (some ⟨b_1, 0, none⟩)), (7, [], Value.slice b_2.ptr b_2.len b_2.cap), (9, [], Value.int .i64 (if ((b_2.len : Nat) : Int) < ((a_.len : Nat) : Int) then ((b_2.len : Nat) : Int) else ((a_.len : Nat) : Int))), (56, [], Value.slice a_.ptr a_.len a_.cap), (57, [], Value.int .i64 (if ((b_2.len : Nat) : Int) < ((a_.len : Nat) : Int) then ((b_2.len : Nat) : Int) else ((a_.len : Nat) : Int)))] (by kernel_rfl) (by kernel_rfl) ?_
          obtain ⟨h0, h1, h⟩ := h
          refine mreg_sliceHi (i := 2) (by kernel_rfl) (t := 22) (e := 5) (x := (Go.Operand.tmp 56)) (hi := (Go.Operand.tmp 57)) (p := a_.ptr) (l := a_.len) (c := a_.cap) (sz := 1) (k := .i64) (j := (if ((b_2.len : Nat) : Int) < ((a_.len : Nat) : Int) then ((b_2.len : Nat) : Int) else ((a_.len : Nat) : Int))) (ty := 22) (dst := some 58) (by kernel_rfl) (by kernel_rfl) (by kernel_rfl) (by kernel_rfl) (by kernel_rfl) h0 h1 ?_
          refine mreg_run [.plain, .plain] 5 [(2, [], Value.pointer (some ⟨b_, 0, none⟩)), (3, [], Value.pointer (some ⟨b_1, 0, none⟩)), (58, [], Value.slice a_.ptr ((if ((b_2.len : Nat) : Int) < ((a_.len : Nat) : Int) then ((b_2.len : Nat) : Int) else ((a_.len : Nat) : Int)).toNat) a_.cap), (59, [], Value.slice b_2.ptr b_2.len b_2.cap), (60, [], Value.int .i64 (if ((b_2.len : Nat) : Int) < ((a_.len : Nat) : Int) then ((b_2.len : Nat) : Int) else ((a_.len : Nat) : Int)))] (by kernel_rfl) (by kernel_rfl) ?_
          obtain ⟨h0, h1, h⟩ := h
          refine mreg_sliceHi (i := 5) (by kernel_rfl) (t := 22) (e := 5) (x := (Go.Operand.tmp 59)) (hi := (Go.Operand.tmp 60)) (p := b_2.ptr) (l := b_2.len) (c := b_2.cap) (sz := 1) (k := .i64) (j := (if ((b_2.len : Nat) : Int) < ((a_.len : Nat) : Int) then ((b_2.len : Nat) : Int) else ((a_.len : Nat) : Int))) (ty := 22) (dst := some 61) (by kernel_rfl) (by kernel_rfl) (by kernel_rfl) (by kernel_rfl) (by kernel_rfl) h0 h1 ?_
          refine mreg_run [] 6 [(2, [], Value.pointer (some ⟨b_, 0, none⟩)), (3, [], Value.pointer (some ⟨b_1, 0, none⟩)), (58, [], Value.slice a_.ptr ((if ((b_2.len : Nat) : Int) < ((a_.len : Nat) : Int) then ((b_2.len : Nat) : Int) else ((a_.len : Nat) : Int)).toNat) a_.cap), (61, [], Value.slice b_2.ptr ((if ((b_2.len : Nat) : Int) < ((a_.len : Nat) : Int) then ((b_2.len : Nat) : Int) else ((a_.len : Nat) : Int)).toNat) b_2.cap)] (by kernel_rfl) (by kernel_rfl) ?_
          obtain ⟨v63, hc, h⟩ := h
          refine mreg_loadN (i := 7) (by kernel_rfl) (t := 27) (a := (Go.Operand.tmp 2)) (b := b_) (o := 0) (ty := 27) (dst := some 63) [Value.int .i64 v63.Number, Value.slice v63.Writes.ptr v63.Writes.len v63.Writes.cap] (by kernel_rfl) (by kernel_rfl) (by kernel_rfl) (k := 2) (by kernel_rfl) (by kernel_rfl) hc ?_
          refine mreg_run [] 7 [(3, [], Value.pointer (some ⟨b_1, 0, none⟩)), (58, [], Value.slice a_.ptr ((if ((b_2.len : Nat) : Int) < ((a_.len : Nat) : Int) then ((b_2.len : Nat) : Int) else ((a_.len : Nat) : Int)).toNat) a_.cap), (61, [], Value.slice b_2.ptr ((if ((b_2.len : Nat) : Int) < ((a_.len : Nat) : Int) then ((b_2.len : Nat) : Int) else ((a_.len : Nat) : Int)).toNat) b_2.cap), (63, [], Value.agg #[Value.int .i64 v63.Number, Value.slice v63.Writes.ptr v63.Writes.len v63.Writes.cap])] (by kernel_rfl) (by kernel_rfl) ?_
          obtain ⟨v64, hc, h⟩ := h
          refine mreg_loadN (i := 8) (by kernel_rfl) (t := 27) (a := (Go.Operand.tmp 3)) (b := b_1) (o := 0) (ty := 27) (dst := some 64) [Value.int .i64 v64.Number, Value.slice v64.Writes.ptr v64.Writes.len v64.Writes.cap] (by kernel_rfl) (by kernel_rfl) (by kernel_rfl) (k := 2) (by kernel_rfl) (by kernel_rfl) hc ?_
          refine mreg_run [] 8 [(58, [], Value.slice a_.ptr ((if ((b_2.len : Nat) : Int) < ((a_.len : Nat) : Int) then ((b_2.len : Nat) : Int) else ((a_.len : Nat) : Int)).toNat) a_.cap), (61, [], Value.slice b_2.ptr ((if ((b_2.len : Nat) : Int) < ((a_.len : Nat) : Int) then ((b_2.len : Nat) : Int) else ((a_.len : Nat) : Int)).toNat) b_2.cap), (63, [], Value.agg #[Value.int .i64 v63.Number, Value.slice v63.Writes.ptr v63.Writes.len v63.Writes.cap]), (64, [], Value.agg #[Value.int .i64 v64.Number, Value.slice v64.Writes.ptr v64.Writes.len v64.Writes.cap])] (by kernel_rfl) (by kernel_rfl) ?_
          refine mreg_enter (op := (Go.Op.call (Go.Call.mk (Go.Callee.value (Go.Operand.func 36)) #[(Go.Operand.tmp 58), (Go.Operand.tmp 61)] #[22, 22]))) (ty := 4) (dst := some 62) 6 [2, 5, 0, 1, 3, 4] [(8, fun w' => CellsAt w' b_1 0 [Value.int .i64 v64.Number, Value.slice v64.Writes.ptr v64.Writes.len v64.Writes.cap]), (7, fun w' => CellsAt w' b_ 0 [Value.int .i64 v63.Number, Value.slice v63.Writes.ptr v63.Writes.len v63.Writes.cap])] 36 #[Value.slice a_.ptr ((if ((b_2.len : Nat) : Int) < ((a_.len : Nat) : Int) then ((b_2.len : Nat) : Int) else ((a_.len : Nat) : Int)).toNat) a_.cap, Value.slice b_2.ptr ((if ((b_2.len : Nat) : Int) < ((a_.len : Nat) : Int) then ((b_2.len : Nat) : Int) else ((a_.len : Nat) : Int)).toNat) b_2.cap] (by kernel_rfl) (by kernel_rfl) (by kernel_rfl) (by kernel_rfl) (by kernel_rfl) (fun ww => by kernel_rfl) (Calls.mono h ?_)
          rintro _ w8 ⟨v62, rfl, h⟩
          obtain ⟨hk0, hk1, h⟩ := h
          refine ⟨_, rfl, ⟨hk0, hk1, trivial⟩, ?_⟩
          refine mreg_run [] 9 [(62, [], Value.bool v62), (63, [], Value.agg #[Value.int .i64 v63.Number, Value.slice v63.Writes.ptr v63.Writes.len v63.Writes.cap]), (64, [], Value.agg #[Value.int .i64 v64.Number, Value.slice v64.Writes.ptr v64.Writes.len v64.Writes.cap])] (by kernel_rfl) (by kernel_rfl) ?_
          refine mreg_enter (op := (Go.Op.call (Go.Call.mk (Go.Callee.value (Go.Operand.func 14)) #[(Go.Operand.tmp 63), (Go.Operand.tmp 64)] #[27, 27]))) (ty := 4) (dst := some 65) 9 [6, 7, 8, 2, 5, 0, 1, 3, 4] [] 14 #[Value.agg #[Value.int .i64 v63.Number, Value.slice v63.Writes.ptr v63.Writes.len v63.Writes.cap], Value.agg #[Value.int .i64 v64.Number, Value.slice v64.Writes.ptr v64.Writes.len v64.Writes.cap]] (by kernel_rfl) (by kernel_rfl) (by kernel_rfl) (by kernel_rfl) (by kernel_rfl) (fun ww => by kernel_rfl) (Calls.mono h ?_)
          rintro _ w9 ⟨v65, rfl, h⟩
          refine ⟨_, rfl, trivial, ?_⟩
          refine mreg_run [.plain, .plain] 12 [(4, [], Value.bool (v62 == v65))] (by kernel_rfl) (by kernel_rfl) ?_
          refine mreg_end [(4, Value.bool (v62 == v65))] (by kernel_rfl) (by kernel_rfl) (by kernel_rfl) ?_
          change WpE _ _ c_towpathlaw05_RecordApart_35 _ _ _
          refine wpE_ret (by kernel_rfl) ?_
          repeat (first | refine seqQ_ret ?_ | refine blockQ_ret ?_ | refine loopQ_ret ?_ | refine cutQ_ret ?_)
          exact retS (rs := [(Go.ResultVar.tmp 4)]) (v := Value.bool (v62 == v65)) (by kernel_rfl) (⟨by kernel_rfl, trivial⟩) ⟨(v62 == v65), rfl, h⟩
  · rintro e w' ⟨v, rfl, r0, rfl, h⟩; exact ⟨r0, rfl, h⟩
end Go.Proofs.Ytfmkemmgakdddaa
