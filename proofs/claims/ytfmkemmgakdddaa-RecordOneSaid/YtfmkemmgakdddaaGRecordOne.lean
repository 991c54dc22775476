/- WRITTEN BY PROGRAM (dec.py): for each Go function the clean formula F, the call's contract C, and the proof S that F gives C. -/
import Derived.Test.YtfmkemmgakdddaaRows
import Derived.Test.YtfmkemmgakdddaaGF
namespace Go.Proofs.Ytfmkemmgakdddaa
open Go
set_option linter.unusedVariables false

/-! ### towpath/towpathlaw05.RecordOne (function 9) -/
noncomputable def c_towpathlaw05_RecordOne_0 : Code := (Try.f9.body).getD Code.skip
noncomputable def c_towpathlaw05_RecordOne_1 : Code := Code.l c_towpathlaw05_RecordOne_0
noncomputable def r_towpathlaw05_RecordOne_1 : Array Oper := Code.ops c_towpathlaw05_RecordOne_1
noncomputable def c_towpathlaw05_RecordOne_3 : Code := Code.r c_towpathlaw05_RecordOne_0
noncomputable def c_towpathlaw05_RecordOne_4 : Code := Code.l c_towpathlaw05_RecordOne_3
noncomputable def c_towpathlaw05_RecordOne_5 : Code := Code.l c_towpathlaw05_RecordOne_4
noncomputable def r_towpathlaw05_RecordOne_5 : Array Oper := Code.ops c_towpathlaw05_RecordOne_5
noncomputable def c_towpathlaw05_RecordOne_7 : Code := Code.r c_towpathlaw05_RecordOne_4
noncomputable def c_towpathlaw05_RecordOne_8 : Code := Code.l c_towpathlaw05_RecordOne_7
noncomputable def c_towpathlaw05_RecordOne_9 : Code := Code.l c_towpathlaw05_RecordOne_8
noncomputable def r_towpathlaw05_RecordOne_9 : Array Oper := Code.ops c_towpathlaw05_RecordOne_9
noncomputable def c_towpathlaw05_RecordOne_11 : Code := Code.r c_towpathlaw05_RecordOne_8
noncomputable def c_towpathlaw05_RecordOne_12 : Code := Code.r c_towpathlaw05_RecordOne_7
noncomputable def c_towpathlaw05_RecordOne_13 : Code := Code.r c_towpathlaw05_RecordOne_3
noncomputable def c_towpathlaw05_RecordOne_14 : Code := Code.l c_towpathlaw05_RecordOne_13
noncomputable def r_towpathlaw05_RecordOne_14 : Array Oper := Code.ops c_towpathlaw05_RecordOne_14
noncomputable def c_towpathlaw05_RecordOne_16 : Code := Code.r c_towpathlaw05_RecordOne_13
noncomputable def c_towpathlaw05_RecordOne_17 : Code := Code.l c_towpathlaw05_RecordOne_16
noncomputable def c_towpathlaw05_RecordOne_18 : Code := Code.l c_towpathlaw05_RecordOne_17
noncomputable def r_towpathlaw05_RecordOne_18 : Array Oper := Code.ops c_towpathlaw05_RecordOne_18
noncomputable def c_towpathlaw05_RecordOne_20 : Code := Code.r c_towpathlaw05_RecordOne_17
noncomputable def c_towpathlaw05_RecordOne_21 : Code := Code.l c_towpathlaw05_RecordOne_20
noncomputable def c_towpathlaw05_RecordOne_22 : Code := Code.l c_towpathlaw05_RecordOne_21
noncomputable def r_towpathlaw05_RecordOne_22 : Array Oper := Code.ops c_towpathlaw05_RecordOne_22
noncomputable def c_towpathlaw05_RecordOne_24 : Code := Code.r c_towpathlaw05_RecordOne_21
noncomputable def c_towpathlaw05_RecordOne_25 : Code := Code.r c_towpathlaw05_RecordOne_20
noncomputable def c_towpathlaw05_RecordOne_26 : Code := Code.r c_towpathlaw05_RecordOne_16
noncomputable def c_towpathlaw05_RecordOne_27 : Code := Code.l c_towpathlaw05_RecordOne_26
noncomputable def r_towpathlaw05_RecordOne_27 : Array Oper := Code.ops c_towpathlaw05_RecordOne_27
noncomputable def c_towpathlaw05_RecordOne_29 : Code := Code.r c_towpathlaw05_RecordOne_26
noncomputable def c_towpathlaw05_RecordOne_30 : Code := Code.l c_towpathlaw05_RecordOne_29
noncomputable def r_towpathlaw05_RecordOne_30 : Array Oper := Code.ops c_towpathlaw05_RecordOne_30
noncomputable def c_towpathlaw05_RecordOne_32 : Code := Code.r c_towpathlaw05_RecordOne_29
noncomputable def c_towpathlaw05_RecordOne_33 : Code := Code.l c_towpathlaw05_RecordOne_32
noncomputable def r_towpathlaw05_RecordOne_33 : Array Oper := Code.ops c_towpathlaw05_RecordOne_33
noncomputable def c_towpathlaw05_RecordOne_35 : Code := Code.r c_towpathlaw05_RecordOne_32

set_option maxRecDepth 100000 in
set_option maxHeartbeats 4000000 in
theorem S_towpathlaw05_RecordOne {b_ : Slc} {w : World} {R : Bool → World → Prop} (h : F_towpathlaw05_RecordOne b_ R w) : C_towpathlaw05_RecordOne b_ w R := by
  unfold F_towpathlaw05_RecordOne at h
  unfold C_towpathlaw05_RecordOne
  refine Calls.mono (calls_of_wpE (args := [Value.slice b_.ptr b_.len b_.cap]) (R := fun v w' => ∃ (r0 : Bool), v = Value.bool r0 ∧ R r0 w') Try.func9 (c := c_towpathlaw05_RecordOne_0) (by kernel_rfl) 66 (by kernel_rfl) (by kernel_rfl) [(0, Value.slice b_.ptr b_.len b_.cap)] (by kernel_rfl) ?_) ?_
  · refine wpE_seq (x := c_towpathlaw05_RecordOne_1) (y := c_towpathlaw05_RecordOne_3) (by kernel_rfl) ?_
    refine wpE_region (id := 0) (ops := r_towpathlaw05_RecordOne_1) (by kernel_rfl) ?_
    refine reg_run [.plain] 1 [(0, [], Value.slice b_.ptr b_.len b_.cap)] (by kernel_rfl) (by kernel_rfl) ?_
    refine reg_end [(0, Value.slice b_.ptr b_.len b_.cap)] (by kernel_rfl) (by kernel_rfl) ?_
    change WpE _ _ c_towpathlaw05_RecordOne_3 _ _ _
    refine wpE_seq (x := c_towpathlaw05_RecordOne_4) (y := c_towpathlaw05_RecordOne_13) (by kernel_rfl) ?_
    refine wpE_seq_cut (x := c_towpathlaw05_RecordOne_5) (y := c_towpathlaw05_RecordOne_7) (by kernel_rfl) (fun l w => ∃ (t16 : Bool), l = [(0, Value.slice b_.ptr b_.len b_.cap), (16, Value.bool t16)] ∧ F_towpathlaw05_RecordOne_k0 b_ R t16 w) ?_ ?_
    · refine wpE_region (id := 1) (ops := r_towpathlaw05_RecordOne_5) (by kernel_rfl) ?_
      refine reg_run [] 0 [(0, [], Value.slice b_.ptr b_.len b_.cap)] (by kernel_rfl) (by kernel_rfl) ?_
      refine reg_enter (op := (Go.Op.call (Go.Call.mk (Go.Callee.value (Go.Operand.func 34)) #[] #[]))) (ty := 4) (dst := some 9) 34 #[] (by kernel_rfl) (fun ww => by kernel_rfl) (Calls.mono h ?_)
      rintro _ w10 ⟨v9, rfl, h⟩
      refine ⟨_, rfl, ?_⟩
      refine reg_run [.plain, .plain, .plain, .plain] 5 [(0, [], Value.slice b_.ptr b_.len b_.cap), (11, [], Value.bool (!v9)), (13, [(11, false)], Value.int .i64 ((b_.len : Nat) : Int))] (by kernel_rfl) (by kernel_rfl) ?_
      refine reg_split 11 (!v9) (by kernel_rfl) (fun hb => ?_) (fun hb => ?_)
      · replace h := h.1 hb
        refine reg_run [] 5 [(0, [], Value.slice b_.ptr b_.len b_.cap), (11, [], Value.bool true), (13, [], undef)] (by kernel_rfl) (by kernel_rfl) ?_
        refine reg_run [.skip, .skip, .plain] 8 [(0, [], Value.slice b_.ptr b_.len b_.cap), (16, [], Value.bool true)] (by kernel_rfl) (by kernel_rfl) ?_
        refine reg_end [(0, Value.slice b_.ptr b_.len b_.cap), (16, Value.bool true)] (by kernel_rfl) (by kernel_rfl) ?_
        exact ⟨[(0, Value.slice b_.ptr b_.len b_.cap), (16, Value.bool true)], Sub.mk (by kernel_rfl), true, rfl, h⟩
      · replace h := h.2 hb
        refine reg_run [] 5 [(0, [], Value.slice b_.ptr b_.len b_.cap), (11, [], Value.bool false), (13, [], Value.int .i64 ((b_.len : Nat) : Int))] (by kernel_rfl) (by kernel_rfl) ?_
        refine reg_run [] 5 [(0, [], Value.slice b_.ptr b_.len b_.cap), (11, [], Value.bool false), (13, [], Value.int .i64 ((b_.len : Nat) : Int))] (by kernel_rfl) (by kernel_rfl) ?_
        refine reg_new (op := (Go.Op.buildSlice 63 1 #[(0, (Go.Operand.tmp 13))])) (ty := 63) (dst := some 14) (fun bb => Value.slice (some ⟨bb, 0, none⟩) 1 1) (Obj.cells ([Value.int .i64 ((b_.len : Nat) : Int)]).toArray ty_int (0, 0)) (by kernel_rfl) (by kernel_rfl) (fun b_2 w11 hb hw => ?_)
        replace h := h b_2 w11 hb hw
        clear hb hw
        refine reg_run [] 6 [(0, [], Value.slice b_.ptr b_.len b_.cap), (11, [], Value.bool false), (14, [], Value.slice (some ⟨b_2, 0, none⟩) 1 1)] (by kernel_rfl) (by kernel_rfl) ?_
        refine reg_enter (op := (Go.Op.call (Go.Call.mk (Go.Callee.value (Go.Operand.func 10)) #[(Go.Operand.tmp 14)] #[63]))) (ty := 4) (dst := some 15) 10 #[Value.slice (some ⟨b_2, 0, none⟩) 1 1] (by kernel_rfl) (fun ww => by kernel_rfl) (Calls.mono h ?_)
        rintro _ w12 ⟨v15, rfl, h⟩
        refine ⟨_, rfl, ?_⟩
        refine reg_run [.plain] 8 [(0, [], Value.slice b_.ptr b_.len b_.cap), (16, [], Value.bool v15)] (by kernel_rfl) (by kernel_rfl) ?_
        refine reg_end [(0, Value.slice b_.ptr b_.len b_.cap), (16, Value.bool v15)] (by kernel_rfl) (by kernel_rfl) ?_
        exact ⟨[(0, Value.slice b_.ptr b_.len b_.cap), (16, Value.bool v15)], Sub.mk (by kernel_rfl), v15, rfl, h⟩
    · rintro _ w1 ⟨t16, rfl, h⟩
      unfold F_towpathlaw05_RecordOne_k0 at h
      refine wpE_cond (o := (Operand.tmp 16)) (b := t16) (x := c_towpathlaw05_RecordOne_8) (y := c_towpathlaw05_RecordOne_12) (by kernel_rfl) (by kernel_rfl) (fun hb => ?_) (fun hb => ?_)
      · replace h := h.1 hb
        refine wpE_seq (x := c_towpathlaw05_RecordOne_9) (y := c_towpathlaw05_RecordOne_11) (by kernel_rfl) ?_
        refine wpE_region (id := 2) (ops := r_towpathlaw05_RecordOne_9) (by kernel_rfl) ?_
        refine reg_run [] 0 [] (by kernel_rfl) (by kernel_rfl) ?_
        refine reg_enter (op := (Go.Op.call (Go.Call.mk (Go.Callee.value (Go.Operand.func 34)) #[] #[]))) (ty := 4) (dst := some 17) 34 #[] (by kernel_rfl) (fun ww => by kernel_rfl) (Calls.mono h ?_)
        rintro _ w2 ⟨v17, rfl, h⟩
        refine ⟨_, rfl, ?_⟩
        refine reg_run [.plain] 2 [(2, [], Value.bool v17)] (by kernel_rfl) (by kernel_rfl) ?_
        refine reg_end [(2, Value.bool v17)] (by kernel_rfl) (by kernel_rfl) ?_
        change WpE _ _ c_towpathlaw05_RecordOne_11 _ _ _
        refine wpE_ret (by kernel_rfl) ?_
        repeat (first | refine seqQ_ret ?_ | refine blockQ_ret ?_ | refine loopQ_ret ?_ | refine cutQ_ret ?_)
        exact retS (rs := [(Go.ResultVar.tmp 2)]) (v := Value.bool v17) (by kernel_rfl) (⟨by kernel_rfl, trivial⟩) ⟨v17, rfl, h⟩
      · replace h := h.2 hb
        refine wpE_skip (by kernel_rfl) ?_
        change WpE _ _ c_towpathlaw05_RecordOne_13 _ _ _
        refine wpE_seq (x := c_towpathlaw05_RecordOne_14) (y := c_towpathlaw05_RecordOne_16) (by kernel_rfl) ?_
        refine wpE_region (id := 3) (ops := r_towpathlaw05_RecordOne_14) (by kernel_rfl) ?_
        refine reg_run [.plain] 1 [(0, [], Value.slice b_.ptr b_.len b_.cap), (19, [], Value.slice b_.ptr b_.len b_.cap)] (by kernel_rfl) (by kernel_rfl) ?_
        refine reg_enter (op := (Go.Op.call (Go.Call.mk (Go.Callee.value (Go.Operand.func 12)) #[(Go.Operand.tmp 19)] #[22]))) (ty := 29) (dst := some 20) 12 #[Value.slice b_.ptr b_.len b_.cap] (by kernel_rfl) (fun ww => by kernel_rfl) (Calls.mono h ?_)
        rintro _ w3 ⟨v20, e, rfl, h⟩
        refine ⟨_, rfl, ?_⟩
        refine reg_run [.plain, .plain, .plain] 5 [(0, [], Value.slice b_.ptr b_.len b_.cap), (21, [], Value.agg #[Value.int .i64 v20.Number, Value.slice v20.Writes.ptr v20.Writes.len v20.Writes.cap]), (22, [], Value.int .i64 e)] (by kernel_rfl) (by kernel_rfl) ?_
        refine reg_new (op := (Go.Op.alloc 27)) (ty := 0) (dst := some 3) (fun bb => Value.pointer (some ⟨bb, 0, none⟩)) (Obj.cells ([Value.int .i64 0, Value.slice none 0 0]).toArray ty_api_Txn (0, 0)) (by kernel_rfl) (by kernel_rfl) (fun b_1 w4 hb hw => ?_)
        replace h := h b_1 w4 hb hw
        clear hb hw
        refine reg_run [] 6 [(0, [], Value.slice b_.ptr b_.len b_.cap), (3, [], Value.pointer (some ⟨b_1, 0, none⟩)), (21, [], Value.agg #[Value.int .i64 v20.Number, Value.slice v20.Writes.ptr v20.Writes.len v20.Writes.cap]), (22, [], Value.int .i64 e)] (by kernel_rfl) (by kernel_rfl) ?_
        obtain ⟨hc, h⟩ := h
        refine reg_store (t := 27) (a := (Go.Operand.tmp 3)) (x := (Go.Operand.tmp 21)) (b := b_1) (o := 0) (ty := 0) (dst := none) [Value.int .i64 v20.Number, Value.slice v20.Writes.ptr v20.Writes.len v20.Writes.cap] (by kernel_rfl) (by kernel_rfl) (by kernel_rfl) (k := 2) (by kernel_rfl) (by kernel_rfl) (by kernel_rfl) hc (fun w5 hw => ?_)
        replace h := h w5 hw
        clear hw
        refine reg_run [.plain] 8 [(0, [], Value.slice b_.ptr b_.len b_.cap), (3, [], Value.pointer (some ⟨b_1, 0, none⟩)), (4, [], Value.int .i64 e)] (by kernel_rfl) (by kernel_rfl) ?_
        refine reg_end [(0, Value.slice b_.ptr b_.len b_.cap), (3, Value.pointer (some ⟨b_1, 0, none⟩)), (4, Value.int .i64 e)] (by kernel_rfl) (by kernel_rfl) ?_
        change WpE _ _ c_towpathlaw05_RecordOne_16 _ _ _
        refine wpE_seq (x := c_towpathlaw05_RecordOne_17) (y := c_towpathlaw05_RecordOne_26) (by kernel_rfl) ?_
        refine wpE_seq (x := c_towpathlaw05_RecordOne_18) (y := c_towpathlaw05_RecordOne_20) (by kernel_rfl) ?_
        refine wpE_region (id := 4) (ops := r_towpathlaw05_RecordOne_18) (by kernel_rfl) ?_
        refine reg_run [.plain, .plain] 2 [(0, [], Value.slice b_.ptr b_.len b_.cap), (3, [], Value.pointer (some ⟨b_1, 0, none⟩)), (24, [], Value.bool (e != 0))] (by kernel_rfl) (by kernel_rfl) ?_
        refine reg_end [(0, Value.slice b_.ptr b_.len b_.cap), (3, Value.pointer (some ⟨b_1, 0, none⟩)), (24, Value.bool (e != 0))] (by kernel_rfl) (by kernel_rfl) ?_
        change WpE _ _ c_towpathlaw05_RecordOne_20 _ _ _
        refine wpE_cond (o := (Operand.tmp 24)) (b := (e != 0)) (x := c_towpathlaw05_RecordOne_21) (y := c_towpathlaw05_RecordOne_25) (by kernel_rfl) (by kernel_rfl) (fun hb => ?_) (fun hb => ?_)
        · replace h := h.1 hb
          refine wpE_seq (x := c_towpathlaw05_RecordOne_22) (y := c_towpathlaw05_RecordOne_24) (by kernel_rfl) ?_
          refine wpE_region (id := 5) (ops := r_towpathlaw05_RecordOne_22) (by kernel_rfl) ?_
          refine reg_run [.plain] 1 [(3, [], Value.pointer (some ⟨b_1, 0, none⟩)), (25, [], Value.pointer (some ⟨b_1, 0, none⟩))] (by kernel_rfl) (by kernel_rfl) ?_
          obtain ⟨v26, hc, h⟩ := h
          refine reg_load1 (t := 3) (a := (Go.Operand.tmp 25)) (b := b_1) (o := 0) (ty := 3) (dst := some 26) (by kernel_rfl) (by kernel_rfl) (by kernel_rfl) hc ?_
          refine reg_run [.plain, .plain, .plain] 5 [(28, [], Value.bool (v26 == 0)), (29, [(28, true)], Value.pointer (some ⟨b_1, 1, none⟩))] (by kernel_rfl) (by kernel_rfl) ?_
          refine reg_split 28 (v26 == 0) (by kernel_rfl) (fun hb => ?_) (fun hb => ?_)
          · replace h := h.1 hb
            refine reg_run [] 5 [(28, [], Value.bool true), (29, [], Value.pointer (some ⟨b_1, 1, none⟩))] (by kernel_rfl) (by kernel_rfl) ?_
            refine reg_run [] 5 [(28, [], Value.bool true), (29, [], Value.pointer (some ⟨b_1, 1, none⟩))] (by kernel_rfl) (by kernel_rfl) ?_
            obtain ⟨v30, hc, h⟩ := h
            refine reg_load1 (t := 25) (a := (Go.Operand.tmp 29)) (b := b_1) (o := 1) (ty := 25) (dst := some 30) (by kernel_rfl) (by kernel_rfl) (by kernel_rfl) hc ?_
            refine reg_run [.sure, .sure, .plain, .plain] 10 [(2, [], Value.bool (((v30.len : Nat) : Int) == 0))] (by kernel_rfl) (by kernel_rfl) ?_
            refine reg_end [(2, Value.bool (((v30.len : Nat) : Int) == 0))] (by kernel_rfl) (by kernel_rfl) ?_
            change WpE _ _ c_towpathlaw05_RecordOne_24 _ _ _
            refine wpE_ret (by kernel_rfl) ?_
            repeat (first | refine seqQ_ret ?_ | refine blockQ_ret ?_ | refine loopQ_ret ?_ | refine cutQ_ret ?_)
            exact retS (rs := [(Go.ResultVar.tmp 2)]) (v := Value.bool (((v30.len : Nat) : Int) == 0)) (by kernel_rfl) (⟨by kernel_rfl, trivial⟩) ⟨(((v30.len : Nat) : Int) == 0), rfl, h⟩
          · replace h := h.2 hb
            refine reg_run [] 5 [(28, [], Value.bool false), (29, [], undef)] (by kernel_rfl) (by kernel_rfl) ?_
            refine reg_run [.skip, .skip, .skip, .plain, .plain] 10 [(2, [], Value.bool false)] (by kernel_rfl) (by kernel_rfl) ?_
            refine reg_end [(2, Value.bool false)] (by kernel_rfl) (by kernel_rfl) ?_
            change WpE _ _ c_towpathlaw05_RecordOne_24 _ _ _
            refine wpE_ret (by kernel_rfl) ?_
            repeat (first | refine seqQ_ret ?_ | refine blockQ_ret ?_ | refine loopQ_ret ?_ | refine cutQ_ret ?_)
            exact retS (rs := [(Go.ResultVar.tmp 2)]) (v := Value.bool false) (by kernel_rfl) (⟨by kernel_rfl, trivial⟩) ⟨false, rfl, h⟩
        · replace h := h.2 hb
          refine wpE_skip (by kernel_rfl) ?_
          change WpE _ _ c_towpathlaw05_RecordOne_26 _ _ _
          refine wpE_seq (x := c_towpathlaw05_RecordOne_27) (y := c_towpathlaw05_RecordOne_29) (by kernel_rfl) ?_
          refine wpE_region (id := 6) (ops := r_towpathlaw05_RecordOne_27) (by kernel_rfl) ?_
          refine reg_run [] 0 [(0, [], Value.slice b_.ptr b_.len b_.cap), (3, [], Value.pointer (some ⟨b_1, 0, none⟩))] (by kernel_rfl) (by kernel_rfl) ?_
          obtain ⟨v35, hc, h⟩ := h
          refine reg_loadN (t := 27) (a := (Go.Operand.tmp 3)) (b := b_1) (o := 0) (ty := 27) (dst := some 35) [Value.int .i64 v35.Number, Value.slice v35.Writes.ptr v35.Writes.len v35.Writes.cap] (by kernel_rfl) (by kernel_rfl) (by kernel_rfl) (k := 2) (by kernel_rfl) (by kernel_rfl) hc ?_
          refine reg_run [] 1 [(0, [], Value.slice b_.ptr b_.len b_.cap), (3, [], Value.pointer (some ⟨b_1, 0, none⟩)), (35, [], Value.agg #[Value.int .i64 v35.Number, Value.slice v35.Writes.ptr v35.Writes.len v35.Writes.cap])] (by kernel_rfl) (by kernel_rfl) ?_
          refine reg_enter (op := (Go.Op.call (Go.Call.mk (Go.Callee.value (Go.Operand.func 35)) #[(Go.Operand.tmp 35)] #[27]))) (ty := 77) (dst := some 36) 35 #[Value.agg #[Value.int .i64 v35.Number, Value.slice v35.Writes.ptr v35.Writes.len v35.Writes.cap]] (by kernel_rfl) (fun ww => by kernel_rfl) (Calls.mono h ?_)
          rintro _ w6 ⟨c, f, rfl, h⟩
          refine ⟨_, rfl, ?_⟩
          refine reg_run [.plain, .plain, .plain, .plain, .plain] 7 [(0, [], Value.slice b_.ptr b_.len b_.cap), (3, [], Value.pointer (some ⟨b_1, 0, none⟩)), (5, [], Value.slice c.ptr c.len c.cap), (6, [], Value.int .i64 f)] (by kernel_rfl) (by kernel_rfl) ?_
          refine reg_end [(0, Value.slice b_.ptr b_.len b_.cap), (3, Value.pointer (some ⟨b_1, 0, none⟩)), (5, Value.slice c.ptr c.len c.cap), (6, Value.int .i64 f)] (by kernel_rfl) (by kernel_rfl) ?_
          change WpE _ _ c_towpathlaw05_RecordOne_29 _ _ _
          refine wpE_seq (x := c_towpathlaw05_RecordOne_30) (y := c_towpathlaw05_RecordOne_32) (by kernel_rfl) ?_
          refine wpE_region (id := 7) (ops := r_towpathlaw05_RecordOne_30) (by kernel_rfl) ?_
          refine reg_run [] 0 [(0, [], Value.slice b_.ptr b_.len b_.cap), (3, [], Value.pointer (some ⟨b_1, 0, none⟩)), (5, [], Value.slice c.ptr c.len c.cap), (6, [], Value.int .i64 f)] (by kernel_rfl) (by kernel_rfl) ?_
          obtain ⟨v40, hc, h⟩ := h
          refine reg_loadN (t := 27) (a := (Go.Operand.tmp 3)) (b := b_1) (o := 0) (ty := 27) (dst := some 40) [Value.int .i64 v40.Number, Value.slice v40.Writes.ptr v40.Writes.len v40.Writes.cap] (by kernel_rfl) (by kernel_rfl) (by kernel_rfl) (k := 2) (by kernel_rfl) (by kernel_rfl) hc ?_
          refine reg_run [] 1 [(0, [], Value.slice b_.ptr b_.len b_.cap), (3, [], Value.pointer (some ⟨b_1, 0, none⟩)), (5, [], Value.slice c.ptr c.len c.cap), (6, [], Value.int .i64 f), (40, [], Value.agg #[Value.int .i64 v40.Number, Value.slice v40.Writes.ptr v40.Writes.len v40.Writes.cap])] (by kernel_rfl) (by kernel_rfl) ?_
          refine reg_enter (op := (Go.Op.call (Go.Call.mk (Go.Callee.value (Go.Operand.func 37)) #[(Go.Operand.tmp 40)] #[27]))) (ty := 68) (dst := some 41) 37 #[Value.agg #[Value.int .i64 v40.Number, Value.slice v40.Writes.ptr v40.Writes.len v40.Writes.cap]] (by kernel_rfl) (fun ww => by kernel_rfl) (Calls.mono h ?_)
          rintro _ w7 ⟨n_, g, rfl, h⟩
          refine ⟨_, rfl, ?_⟩
          refine reg_run [.plain, .plain, .plain, .plain, .plain] 7 [(0, [], Value.slice b_.ptr b_.len b_.cap), (3, [], Value.pointer (some ⟨b_1, 0, none⟩)), (5, [], Value.slice c.ptr c.len c.cap), (6, [], Value.int .i64 f), (7, [], Value.int .i64 n_), (8, [], Value.int .i64 g)] (by kernel_rfl) (by kernel_rfl) ?_
          refine reg_end [(0, Value.slice b_.ptr b_.len b_.cap), (3, Value.pointer (some ⟨b_1, 0, none⟩)), (5, Value.slice c.ptr c.len c.cap), (6, Value.int .i64 f), (7, Value.int .i64 n_), (8, Value.int .i64 g)] (by kernel_rfl) (by kernel_rfl) ?_
          change WpE _ _ c_towpathlaw05_RecordOne_32 _ _ _
          refine wpE_seq (x := c_towpathlaw05_RecordOne_33) (y := c_towpathlaw05_RecordOne_35) (by kernel_rfl) ?_
          refine wpE_region (id := 8) (ops := r_towpathlaw05_RecordOne_33) (by kernel_rfl) ?_
          refine reg_run [.plain, .plain, .plain, .plain, .plain, .pick, .plain, .plain, .plain, .plain, .plain, .pick, .plain] 13 [(0, [], Value.slice b_.ptr b_.len b_.cap), (3, [], Value.pointer (some ⟨b_1, 0, none⟩)), (5, [], Value.slice c.ptr c.len c.cap), (56, [], Value.bool (((f == 0) && (g == 0)) && (n_ == ((b_.len : Nat) : Int))))] (by kernel_rfl) (by kernel_rfl) ?_
          refine reg_split 56 (((f == 0) && (g == 0)) && (n_ == ((b_.len : Nat) : Int))) (by kernel_rfl) (fun hb => ?_) (fun hb => ?_)
          · replace h := h.1 hb
            refine reg_run [] 13 [(0, [], Value.slice b_.ptr b_.len b_.cap), (3, [], Value.pointer (some ⟨b_1, 0, none⟩)), (5, [], Value.slice c.ptr c.len c.cap), (56, [], Value.bool true)] (by kernel_rfl) (by kernel_rfl) ?_
            refine reg_run [] 13 [(0, [], Value.slice b_.ptr b_.len b_.cap), (3, [], Value.pointer (some ⟨b_1, 0, none⟩)), (5, [], Value.slice c.ptr c.len c.cap), (56, [], Value.bool true)] (by kernel_rfl) (by kernel_rfl) ?_
            obtain ⟨v57, hc, h⟩ := h
            refine reg_loadN (t := 27) (a := (Go.Operand.tmp 3)) (b := b_1) (o := 0) (ty := 27) (dst := some 57) [Value.int .i64 v57.Number, Value.slice v57.Writes.ptr v57.Writes.len v57.Writes.cap] (by kernel_rfl) (by kernel_rfl) (by kernel_rfl) (k := 2) (by kernel_rfl) (by kernel_rfl) hc ?_
            refine reg_run [] 14 [(0, [], Value.slice b_.ptr b_.len b_.cap), (5, [], Value.slice c.ptr c.len c.cap), (56, [], Value.bool true), (57, [], Value.agg #[Value.int .i64 v57.Number, Value.slice v57.Writes.ptr v57.Writes.len v57.Writes.cap])] (by kernel_rfl) (by kernel_rfl) ?_
            refine reg_enter (op := (Go.Op.call (Go.Call.mk (Go.Callee.value (Go.Operand.func 24)) #[(Go.Operand.tmp 57)] #[27]))) (ty := 28) (dst := some 58) 24 #[Value.agg #[Value.int .i64 v57.Number, Value.slice v57.Writes.ptr v57.Writes.len v57.Writes.cap]] (by kernel_rfl) (fun ww => by kernel_rfl) (Calls.mono h ?_)
            rintro _ w8 ⟨v58, rfl, h⟩
            refine ⟨_, rfl, ?_⟩
            refine reg_run [.sure, .plain, .plain, .plain, .plain] 20 [(61, [], Value.bool (v58 == 0)), (62, [(61, true)], Value.slice b_.ptr b_.len b_.cap), (63, [(61, true)], Value.slice c.ptr c.len c.cap)] (by kernel_rfl) (by kernel_rfl) ?_
            refine reg_split 61 (v58 == 0) (by kernel_rfl) (fun hb => ?_) (fun hb => ?_)
            · replace h := h.1 hb
              refine reg_run [] 20 [(61, [], Value.bool true), (62, [], Value.slice b_.ptr b_.len b_.cap), (63, [], Value.slice c.ptr c.len c.cap)] (by kernel_rfl) (by kernel_rfl) ?_
              refine reg_run [] 20 [(61, [], Value.bool true), (62, [], Value.slice b_.ptr b_.len b_.cap), (63, [], Value.slice c.ptr c.len c.cap)] (by kernel_rfl) (by kernel_rfl) ?_
              refine reg_enter (op := (Go.Op.call (Go.Call.mk (Go.Callee.value (Go.Operand.func 36)) #[(Go.Operand.tmp 62), (Go.Operand.tmp 63)] #[22, 22]))) (ty := 4) (dst := some 64) 36 #[Value.slice b_.ptr b_.len b_.cap, Value.slice c.ptr c.len c.cap] (by kernel_rfl) (fun ww => by kernel_rfl) (Calls.mono h ?_)
              rintro _ w9 ⟨v64, rfl, h⟩
              refine ⟨_, rfl, ?_⟩
              refine reg_run [.plain, .plain] 23 [(2, [], Value.bool v64)] (by kernel_rfl) (by kernel_rfl) ?_
              refine reg_end [(2, Value.bool v64)] (by kernel_rfl) (by kernel_rfl) ?_
              change WpE _ _ c_towpathlaw05_RecordOne_35 _ _ _
              refine wpE_ret (by kernel_rfl) ?_
              repeat (first | refine seqQ_ret ?_ | refine blockQ_ret ?_ | refine loopQ_ret ?_ | refine cutQ_ret ?_)
              exact retS (rs := [(Go.ResultVar.tmp 2)]) (v := Value.bool v64) (by kernel_rfl) (⟨by kernel_rfl, trivial⟩) ⟨v64, rfl, h⟩
            · replace h := h.2 hb
              refine reg_run [] 20 [(61, [], Value.bool false), (62, [], undef), (63, [], undef)] (by kernel_rfl) (by kernel_rfl) ?_
              refine reg_run [.skip, .plain, .plain] 23 [(2, [], Value.bool false)] (by kernel_rfl) (by kernel_rfl) ?_
              refine reg_end [(2, Value.bool false)] (by kernel_rfl) (by kernel_rfl) ?_
              change WpE _ _ c_towpathlaw05_RecordOne_35 _ _ _
              refine wpE_ret (by kernel_rfl) ?_
              repeat (first | refine seqQ_ret ?_ | refine blockQ_ret ?_ | refine loopQ_ret ?_ | refine cutQ_ret ?_)
              exact retS (rs := [(Go.ResultVar.tmp 2)]) (v := Value.bool false) (by kernel_rfl) (⟨by kernel_rfl, trivial⟩) ⟨false, rfl, h⟩
          · replace h := h.2 hb
            refine reg_run [] 13 [(0, [], Value.slice b_.ptr b_.len b_.cap), (3, [], Value.pointer (some ⟨b_1, 0, none⟩)), (5, [], Value.slice c.ptr c.len c.cap), (56, [], Value.bool false)] (by kernel_rfl) (by kernel_rfl) ?_
            refine reg_run [.skip, .skip, .skip, .plain, .plain, .skip, .skip, .skip, .plain, .plain] 23 [(2, [], Value.bool false)] (by kernel_rfl) (by kernel_rfl) ?_
            refine reg_end [(2, Value.bool false)] (by kernel_rfl) (by kernel_rfl) ?_
            change WpE _ _ c_towpathlaw05_RecordOne_35 _ _ _
            refine wpE_ret (by kernel_rfl) ?_
            repeat (first | refine seqQ_ret ?_ | refine blockQ_ret ?_ | refine loopQ_ret ?_ | refine cutQ_ret ?_)
            exact retS (rs := [(Go.ResultVar.tmp 2)]) (v := Value.bool false) (by kernel_rfl) (⟨by kernel_rfl, trivial⟩) ⟨false, rfl, h⟩
  · rintro e w' ⟨v, rfl, r0, rfl, h⟩; exact ⟨r0, rfl, h⟩
end Go.Proofs.Ytfmkemmgakdddaa
