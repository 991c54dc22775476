/- WRITTEN BY PROGRAM (dec.py): for each Go function the clean formula F, the call's contract C, and the proof S that F gives C. -/
import Derived.Test.YtfmkemmgakdddaaRows
import Derived.Test.YtfmkemmgakdddaaGF
namespace Go.Proofs.Ytfmkemmgakdddaa
open Go
set_option linter.unusedVariables false

/-! ### towpath/towpathlaw05.RecordBack (function 7) -/
noncomputable def c_towpathlaw05_RecordBack_0 : Code := (Try.f7.body).getD Code.skip
noncomputable def c_towpathlaw05_RecordBack_1 : Code := Code.l c_towpathlaw05_RecordBack_0
noncomputable def r_towpathlaw05_RecordBack_1 : Array Oper := Code.ops c_towpathlaw05_RecordBack_1
noncomputable def c_towpathlaw05_RecordBack_3 : Code := Code.r c_towpathlaw05_RecordBack_0
noncomputable def c_towpathlaw05_RecordBack_4 : Code := Code.l c_towpathlaw05_RecordBack_3
noncomputable def c_towpathlaw05_RecordBack_5 : Code := Code.l c_towpathlaw05_RecordBack_4
noncomputable def r_towpathlaw05_RecordBack_5 : Array Oper := Code.ops c_towpathlaw05_RecordBack_5
noncomputable def c_towpathlaw05_RecordBack_7 : Code := Code.r c_towpathlaw05_RecordBack_4
noncomputable def c_towpathlaw05_RecordBack_8 : Code := Code.l c_towpathlaw05_RecordBack_7
noncomputable def c_towpathlaw05_RecordBack_9 : Code := Code.l c_towpathlaw05_RecordBack_8
noncomputable def r_towpathlaw05_RecordBack_9 : Array Oper := Code.ops c_towpathlaw05_RecordBack_9
noncomputable def c_towpathlaw05_RecordBack_11 : Code := Code.r c_towpathlaw05_RecordBack_8
noncomputable def c_towpathlaw05_RecordBack_12 : Code := Code.r c_towpathlaw05_RecordBack_7
noncomputable def c_towpathlaw05_RecordBack_13 : Code := Code.r c_towpathlaw05_RecordBack_3
noncomputable def c_towpathlaw05_RecordBack_14 : Code := Code.l c_towpathlaw05_RecordBack_13
noncomputable def r_towpathlaw05_RecordBack_14 : Array Oper := Code.ops c_towpathlaw05_RecordBack_14
noncomputable def c_towpathlaw05_RecordBack_16 : Code := Code.r c_towpathlaw05_RecordBack_13
noncomputable def c_towpathlaw05_RecordBack_17 : Code := Code.l c_towpathlaw05_RecordBack_16
noncomputable def c_towpathlaw05_RecordBack_18 : Code := Code.l c_towpathlaw05_RecordBack_17
noncomputable def r_towpathlaw05_RecordBack_18 : Array Oper := Code.ops c_towpathlaw05_RecordBack_18
noncomputable def c_towpathlaw05_RecordBack_20 : Code := Code.r c_towpathlaw05_RecordBack_17
noncomputable def c_towpathlaw05_RecordBack_21 : Code := Code.l c_towpathlaw05_RecordBack_20
noncomputable def c_towpathlaw05_RecordBack_22 : Code := Code.l c_towpathlaw05_RecordBack_21
noncomputable def r_towpathlaw05_RecordBack_22 : Array Oper := Code.ops c_towpathlaw05_RecordBack_22
noncomputable def c_towpathlaw05_RecordBack_24 : Code := Code.r c_towpathlaw05_RecordBack_21
noncomputable def c_towpathlaw05_RecordBack_25 : Code := Code.r c_towpathlaw05_RecordBack_20
noncomputable def c_towpathlaw05_RecordBack_26 : Code := Code.r c_towpathlaw05_RecordBack_16
noncomputable def c_towpathlaw05_RecordBack_27 : Code := Code.l c_towpathlaw05_RecordBack_26
noncomputable def r_towpathlaw05_RecordBack_27 : Array Oper := Code.ops c_towpathlaw05_RecordBack_27
noncomputable def c_towpathlaw05_RecordBack_29 : Code := Code.r c_towpathlaw05_RecordBack_26
noncomputable def c_towpathlaw05_RecordBack_30 : Code := Code.l c_towpathlaw05_RecordBack_29
noncomputable def c_towpathlaw05_RecordBack_31 : Code := Code.l c_towpathlaw05_RecordBack_30
noncomputable def r_towpathlaw05_RecordBack_31 : Array Oper := Code.ops c_towpathlaw05_RecordBack_31
noncomputable def c_towpathlaw05_RecordBack_33 : Code := Code.r c_towpathlaw05_RecordBack_30
noncomputable def c_towpathlaw05_RecordBack_34 : Code := Code.l c_towpathlaw05_RecordBack_33
noncomputable def c_towpathlaw05_RecordBack_35 : Code := Code.l c_towpathlaw05_RecordBack_34
noncomputable def r_towpathlaw05_RecordBack_35 : Array Oper := Code.ops c_towpathlaw05_RecordBack_35
noncomputable def c_towpathlaw05_RecordBack_37 : Code := Code.r c_towpathlaw05_RecordBack_34
noncomputable def c_towpathlaw05_RecordBack_38 : Code := Code.r c_towpathlaw05_RecordBack_33
noncomputable def c_towpathlaw05_RecordBack_39 : Code := Code.r c_towpathlaw05_RecordBack_29
noncomputable def c_towpathlaw05_RecordBack_40 : Code := Code.l c_towpathlaw05_RecordBack_39
noncomputable def r_towpathlaw05_RecordBack_40 : Array Oper := Code.ops c_towpathlaw05_RecordBack_40
noncomputable def c_towpathlaw05_RecordBack_42 : Code := Code.r c_towpathlaw05_RecordBack_39
noncomputable def c_towpathlaw05_RecordBack_43 : Code := Code.l c_towpathlaw05_RecordBack_42
noncomputable def r_towpathlaw05_RecordBack_43 : Array Oper := Code.ops c_towpathlaw05_RecordBack_43
noncomputable def c_towpathlaw05_RecordBack_45 : Code := Code.r c_towpathlaw05_RecordBack_42
noncomputable def c_towpathlaw05_RecordBack_46 : Code := Code.l c_towpathlaw05_RecordBack_45
noncomputable def r_towpathlaw05_RecordBack_46 : Array Oper := Code.ops c_towpathlaw05_RecordBack_46
noncomputable def c_towpathlaw05_RecordBack_48 : Code := Code.r c_towpathlaw05_RecordBack_45

set_option maxRecDepth 100000 in
set_option maxHeartbeats 4000000 in
theorem S_towpathlaw05_RecordBack {t_ : T_api_Txn} {cut : Int} {more : Int} {w : World} {R : Bool → World → Prop} (h : F_towpathlaw05_RecordBack t_ cut more R w) : C_towpathlaw05_RecordBack t_ cut more w R := by
  unfold F_towpathlaw05_RecordBack at h
  unfold C_towpathlaw05_RecordBack
  refine Calls.mono (calls_of_wpE (args := [Value.agg #[Value.int .i64 t_.Number, Value.slice t_.Writes.ptr t_.Writes.len t_.Writes.cap], Value.int .u16 cut, Value.int .u8 more]) (R := fun v w' => ∃ (r0 : Bool), v = Value.bool r0 ∧ R r0 w') Try.func7 (c := c_towpathlaw05_RecordBack_0) (by kernel_rfl) 92 (by kernel_rfl) (by kernel_rfl) [(0, Value.agg #[Value.int .i64 t_.Number, Value.slice t_.Writes.ptr t_.Writes.len t_.Writes.cap]), (1, Value.int .u16 cut), (2, Value.int .u8 more)] (by kernel_rfl) ?_) ?_
  · refine wpE_seq (x := c_towpathlaw05_RecordBack_1) (y := c_towpathlaw05_RecordBack_3) (by kernel_rfl) ?_
    refine wpE_region (id := 0) (ops := r_towpathlaw05_RecordBack_1) (by kernel_rfl) ?_
    refine reg_run [] 0 [(0, [], Value.agg #[Value.int .i64 t_.Number, Value.slice t_.Writes.ptr t_.Writes.len t_.Writes.cap]), (1, [], Value.int .u16 cut), (2, [], Value.int .u8 more)] (by kernel_rfl) (by kernel_rfl) ?_
    refine reg_new (op := (Go.Op.box 27 (Go.Operand.tmp 0))) (ty := 0) (dst := some 3) (fun bb => Value.pointer (some ⟨bb, 0, none⟩)) (Obj.cells ([Value.int .i64 t_.Number, Value.slice t_.Writes.ptr t_.Writes.len t_.Writes.cap]).toArray ty_api_Txn (0, 0)) (by kernel_rfl) (by kernel_rfl) (fun b_ w1 hb hw => ?_)
    replace h := h b_ w1 hb hw
    clear hb hw
    refine reg_run [.plain] 2 [(1, [], Value.int .u16 cut), (2, [], Value.int .u8 more), (3, [], Value.pointer (some ⟨b_, 0, none⟩))] (by kernel_rfl) (by kernel_rfl) ?_
    refine reg_end [(1, Value.int .u16 cut), (2, Value.int .u8 more), (3, Value.pointer (some ⟨b_, 0, none⟩))] (by kernel_rfl) (by kernel_rfl) ?_
    change WpE _ _ c_towpathlaw05_RecordBack_3 _ _ _
    refine wpE_seq (x := c_towpathlaw05_RecordBack_4) (y := c_towpathlaw05_RecordBack_13) (by kernel_rfl) ?_
    refine wpE_seq_cut (x := c_towpathlaw05_RecordBack_5) (y := c_towpathlaw05_RecordBack_7) (by kernel_rfl) (fun l w => ∃ (t22 : Bool), l = [(1, Value.int .u16 cut), (2, Value.int .u8 more), (3, Value.pointer (some ⟨b_, 0, none⟩)), (22, Value.bool t22)] ∧ F_towpathlaw05_RecordBack_k0 cut more R b_ t22 w) ?_ ?_
    · refine wpE_region (id := 1) (ops := r_towpathlaw05_RecordBack_5) (by kernel_rfl) ?_
      refine reg_run [] 0 [(1, [], Value.int .u16 cut), (2, [], Value.int .u8 more), (3, [], Value.pointer (some ⟨b_, 0, none⟩))] (by kernel_rfl) (by kernel_rfl) ?_
      refine reg_enter (op := (Go.Op.call (Go.Call.mk (Go.Callee.value (Go.Operand.func 34)) #[] #[]))) (ty := 4) (dst := some 15) 34 #[] (by kernel_rfl) (fun ww => by kernel_rfl) (Calls.mono h ?_)
      rintro _ w21 ⟨v15, rfl, h⟩
      refine ⟨_, rfl, ?_⟩
      refine reg_run [.plain, .plain] 3 [(1, [], Value.int .u16 cut), (2, [], Value.int .u8 more), (3, [], Value.pointer (some ⟨b_, 0, none⟩)), (17, [], Value.bool (!v15))] (by kernel_rfl) (by kernel_rfl) ?_
      refine reg_split 17 (!v15) (by kernel_rfl) (fun hb => ?_) (fun hb => ?_)
      · replace h := h.1 hb
        refine reg_run [] 3 [(1, [], Value.int .u16 cut), (2, [], Value.int .u8 more), (3, [], Value.pointer (some ⟨b_, 0, none⟩)), (17, [], Value.bool true)] (by kernel_rfl) (by kernel_rfl) ?_
        refine reg_run [.skip, .skip, .skip, .skip, .plain] 8 [(1, [], Value.int .u16 cut), (2, [], Value.int .u8 more), (3, [], Value.pointer (some ⟨b_, 0, none⟩)), (22, [], Value.bool true)] (by kernel_rfl) (by kernel_rfl) ?_
        refine reg_end [(1, Value.int .u16 cut), (2, Value.int .u8 more), (3, Value.pointer (some ⟨b_, 0, none⟩)), (22, Value.bool true)] (by kernel_rfl) (by kernel_rfl) ?_
        exact ⟨[(1, Value.int .u16 cut), (2, Value.int .u8 more), (3, Value.pointer (some ⟨b_, 0, none⟩)), (22, Value.bool true)], Sub.mk (by kernel_rfl), true, rfl, h⟩
      · replace h := h.2 hb
        refine reg_run [] 3 [(1, [], Value.int .u16 cut), (2, [], Value.int .u8 more), (3, [], Value.pointer (some ⟨b_, 0, none⟩)), (17, [], Value.bool false)] (by kernel_rfl) (by kernel_rfl) ?_
        refine reg_run [] 3 [(1, [], Value.int .u16 cut), (2, [], Value.int .u8 more), (3, [], Value.pointer (some ⟨b_, 0, none⟩)), (17, [], Value.bool false)] (by kernel_rfl) (by kernel_rfl) ?_
        obtain ⟨v18, hc, h⟩ := h
        refine reg_loadN (t := 27) (a := (Go.Operand.tmp 3)) (b := b_) (o := 0) (ty := 27) (dst := some 18) [Value.int .i64 v18.Number, Value.slice v18.Writes.ptr v18.Writes.len v18.Writes.cap] (by kernel_rfl) (by kernel_rfl) (by kernel_rfl) (k := 2) (by kernel_rfl) (by kernel_rfl) hc ?_
        refine reg_run [] 4 [(1, [], Value.int .u16 cut), (2, [], Value.int .u8 more), (3, [], Value.pointer (some ⟨b_, 0, none⟩)), (17, [], Value.bool false), (18, [], Value.agg #[Value.int .i64 v18.Number, Value.slice v18.Writes.ptr v18.Writes.len v18.Writes.cap])] (by kernel_rfl) (by kernel_rfl) ?_
        refine reg_enter (op := (Go.Op.call (Go.Call.mk (Go.Callee.value (Go.Operand.func 32)) #[(Go.Operand.tmp 18)] #[27]))) (ty := 3) (dst := some 19) 32 #[Value.agg #[Value.int .i64 v18.Number, Value.slice v18.Writes.ptr v18.Writes.len v18.Writes.cap]] (by kernel_rfl) (fun ww => by kernel_rfl) (Calls.mono h ?_)
        rintro _ w22 ⟨v19, rfl, h⟩
        refine ⟨_, rfl, ?_⟩
        refine reg_run [] 5 [(1, [], Value.int .u16 cut), (2, [], Value.int .u8 more), (3, [], Value.pointer (some ⟨b_, 0, none⟩)), (17, [], Value.bool false), (19, [], Value.int .i64 v19)] (by kernel_rfl) (by kernel_rfl) ?_
        refine reg_new (op := (Go.Op.buildSlice 63 1 #[(0, (Go.Operand.tmp 19))])) (ty := 63) (dst := some 20) (fun bb => Value.slice (some ⟨bb, 0, none⟩) 1 1) (Obj.cells ([Value.int .i64 v19]).toArray ty_int (0, 0)) (by kernel_rfl) (by kernel_rfl) (fun b_6 w23 hb hw => ?_)
        replace h := h b_6 w23 hb hw
        clear hb hw
        refine reg_run [] 6 [(1, [], Value.int .u16 cut), (2, [], Value.int .u8 more), (3, [], Value.pointer (some ⟨b_, 0, none⟩)), (17, [], Value.bool false), (20, [], Value.slice (some ⟨b_6, 0, none⟩) 1 1)] (by kernel_rfl) (by kernel_rfl) ?_
        refine reg_enter (op := (Go.Op.call (Go.Call.mk (Go.Callee.value (Go.Operand.func 10)) #[(Go.Operand.tmp 20)] #[63]))) (ty := 4) (dst := some 21) 10 #[Value.slice (some ⟨b_6, 0, none⟩) 1 1] (by kernel_rfl) (fun ww => by kernel_rfl) (Calls.mono h ?_)
        rintro _ w24 ⟨v21, rfl, h⟩
        refine ⟨_, rfl, ?_⟩
        refine reg_run [.plain] 8 [(1, [], Value.int .u16 cut), (2, [], Value.int .u8 more), (3, [], Value.pointer (some ⟨b_, 0, none⟩)), (22, [], Value.bool v21)] (by kernel_rfl) (by kernel_rfl) ?_
        refine reg_end [(1, Value.int .u16 cut), (2, Value.int .u8 more), (3, Value.pointer (some ⟨b_, 0, none⟩)), (22, Value.bool v21)] (by kernel_rfl) (by kernel_rfl) ?_
        exact ⟨[(1, Value.int .u16 cut), (2, Value.int .u8 more), (3, Value.pointer (some ⟨b_, 0, none⟩)), (22, Value.bool v21)], Sub.mk (by kernel_rfl), v21, rfl, h⟩
    · rintro _ w2 ⟨t22, rfl, h⟩
      unfold F_towpathlaw05_RecordBack_k0 at h
      refine wpE_cond (o := (Operand.tmp 22)) (b := t22) (x := c_towpathlaw05_RecordBack_8) (y := c_towpathlaw05_RecordBack_12) (by kernel_rfl) (by kernel_rfl) (fun hb => ?_) (fun hb => ?_)
      · replace h := h.1 hb
        refine wpE_seq (x := c_towpathlaw05_RecordBack_9) (y := c_towpathlaw05_RecordBack_11) (by kernel_rfl) ?_
        refine wpE_region (id := 2) (ops := r_towpathlaw05_RecordBack_9) (by kernel_rfl) ?_
        refine reg_run [] 0 [] (by kernel_rfl) (by kernel_rfl) ?_
        refine reg_enter (op := (Go.Op.call (Go.Call.mk (Go.Callee.value (Go.Operand.func 34)) #[] #[]))) (ty := 4) (dst := some 23) 34 #[] (by kernel_rfl) (fun ww => by kernel_rfl) (Calls.mono h ?_)
        rintro _ w3 ⟨v23, rfl, h⟩
        refine ⟨_, rfl, ?_⟩
        refine reg_run [.plain] 2 [(6, [], Value.bool v23)] (by kernel_rfl) (by kernel_rfl) ?_
        refine reg_end [(6, Value.bool v23)] (by kernel_rfl) (by kernel_rfl) ?_
        change WpE _ _ c_towpathlaw05_RecordBack_11 _ _ _
        refine wpE_ret (by kernel_rfl) ?_
        repeat (first | refine seqQ_ret ?_ | refine blockQ_ret ?_ | refine loopQ_ret ?_ | refine cutQ_ret ?_)
        exact retS (rs := [(Go.ResultVar.tmp 6)]) (v := Value.bool v23) (by kernel_rfl) (⟨by kernel_rfl, trivial⟩) ⟨v23, rfl, h⟩
      · replace h := h.2 hb
        refine wpE_skip (by kernel_rfl) ?_
        change WpE _ _ c_towpathlaw05_RecordBack_13 _ _ _
        refine wpE_seq (x := c_towpathlaw05_RecordBack_14) (y := c_towpathlaw05_RecordBack_16) (by kernel_rfl) ?_
        refine wpE_region (id := 3) (ops := r_towpathlaw05_RecordBack_14) (by kernel_rfl) ?_
        refine reg_run [] 0 [(1, [], Value.int .u16 cut), (2, [], Value.int .u8 more), (3, [], Value.pointer (some ⟨b_, 0, none⟩))] (by kernel_rfl) (by kernel_rfl) ?_
        obtain ⟨v25, hc, h⟩ := h
        refine reg_loadN (t := 27) (a := (Go.Operand.tmp 3)) (b := b_) (o := 0) (ty := 27) (dst := some 25) [Value.int .i64 v25.Number, Value.slice v25.Writes.ptr v25.Writes.len v25.Writes.cap] (by kernel_rfl) (by kernel_rfl) (by kernel_rfl) (k := 2) (by kernel_rfl) (by kernel_rfl) hc ?_
        refine reg_run [] 1 [(1, [], Value.int .u16 cut), (2, [], Value.int .u8 more), (3, [], Value.pointer (some ⟨b_, 0, none⟩)), (25, [], Value.agg #[Value.int .i64 v25.Number, Value.slice v25.Writes.ptr v25.Writes.len v25.Writes.cap])] (by kernel_rfl) (by kernel_rfl) ?_
        refine reg_enter (op := (Go.Op.call (Go.Call.mk (Go.Callee.value (Go.Operand.func 35)) #[(Go.Operand.tmp 25)] #[27]))) (ty := 77) (dst := some 26) 35 #[Value.agg #[Value.int .i64 v25.Number, Value.slice v25.Writes.ptr v25.Writes.len v25.Writes.cap]] (by kernel_rfl) (fun ww => by kernel_rfl) (Calls.mono h ?_)
        rintro _ w4 ⟨b_1, e, rfl, h⟩
        refine ⟨_, rfl, ?_⟩
        refine reg_run [.plain, .plain, .plain, .plain, .plain] 7 [(1, [], Value.int .u16 cut), (2, [], Value.int .u8 more), (3, [], Value.pointer (some ⟨b_, 0, none⟩)), (7, [], Value.slice b_1.ptr b_1.len b_1.cap), (8, [], Value.int .i64 e)] (by kernel_rfl) (by kernel_rfl) ?_
        refine reg_end [(1, Value.int .u16 cut), (2, Value.int .u8 more), (3, Value.pointer (some ⟨b_, 0, none⟩)), (7, Value.slice b_1.ptr b_1.len b_1.cap), (8, Value.int .i64 e)] (by kernel_rfl) (by kernel_rfl) ?_
        change WpE _ _ c_towpathlaw05_RecordBack_16 _ _ _
        refine wpE_seq (x := c_towpathlaw05_RecordBack_17) (y := c_towpathlaw05_RecordBack_26) (by kernel_rfl) ?_
        refine wpE_seq (x := c_towpathlaw05_RecordBack_18) (y := c_towpathlaw05_RecordBack_20) (by kernel_rfl) ?_
        refine wpE_region (id := 4) (ops := r_towpathlaw05_RecordBack_18) (by kernel_rfl) ?_
        refine reg_run [.plain, .plain] 2 [(1, [], Value.int .u16 cut), (2, [], Value.int .u8 more), (3, [], Value.pointer (some ⟨b_, 0, none⟩)), (7, [], Value.slice b_1.ptr b_1.len b_1.cap), (8, [], Value.int .i64 e), (30, [], Value.bool (e != 0))] (by kernel_rfl) (by kernel_rfl) ?_
        refine reg_end [(1, Value.int .u16 cut), (2, Value.int .u8 more), (3, Value.pointer (some ⟨b_, 0, none⟩)), (7, Value.slice b_1.ptr b_1.len b_1.cap), (8, Value.int .i64 e), (30, Value.bool (e != 0))] (by kernel_rfl) (by kernel_rfl) ?_
        change WpE _ _ c_towpathlaw05_RecordBack_20 _ _ _
        refine wpE_cond (o := (Operand.tmp 30)) (b := (e != 0)) (x := c_towpathlaw05_RecordBack_21) (y := c_towpathlaw05_RecordBack_25) (by kernel_rfl) (by kernel_rfl) (fun hb => ?_) (fun hb => ?_)
        · replace h := h.1 hb
          refine wpE_seq (x := c_towpathlaw05_RecordBack_22) (y := c_towpathlaw05_RecordBack_24) (by kernel_rfl) ?_
          refine wpE_region (id := 5) (ops := r_towpathlaw05_RecordBack_22) (by kernel_rfl) ?_
          refine reg_run [.plain, .plain, .plain] 3 [(3, [], Value.pointer (some ⟨b_, 0, none⟩)), (7, [], Value.slice b_1.ptr b_1.len b_1.cap), (33, [], Value.bool (e == 1))] (by kernel_rfl) (by kernel_rfl) ?_
          refine reg_split 33 (e == 1) (by kernel_rfl) (fun hb => ?_) (fun hb => ?_)
          · replace h := h.1 hb
            refine reg_run [] 3 [(3, [], Value.pointer (some ⟨b_, 0, none⟩)), (7, [], Value.slice b_1.ptr b_1.len b_1.cap), (33, [], Value.bool true)] (by kernel_rfl) (by kernel_rfl) ?_
            refine reg_run [] 3 [(3, [], Value.pointer (some ⟨b_, 0, none⟩)), (7, [], Value.slice b_1.ptr b_1.len b_1.cap), (33, [], Value.bool true)] (by kernel_rfl) (by kernel_rfl) ?_
            obtain ⟨v34, hc, h⟩ := h
            refine reg_loadN (t := 27) (a := (Go.Operand.tmp 3)) (b := b_) (o := 0) (ty := 27) (dst := some 34) [Value.int .i64 v34.Number, Value.slice v34.Writes.ptr v34.Writes.len v34.Writes.cap] (by kernel_rfl) (by kernel_rfl) (by kernel_rfl) (k := 2) (by kernel_rfl) (by kernel_rfl) hc ?_
            refine reg_run [] 4 [(7, [], Value.slice b_1.ptr b_1.len b_1.cap), (33, [], Value.bool true), (34, [], Value.agg #[Value.int .i64 v34.Number, Value.slice v34.Writes.ptr v34.Writes.len v34.Writes.cap])] (by kernel_rfl) (by kernel_rfl) ?_
            refine reg_enter (op := (Go.Op.call (Go.Call.mk (Go.Callee.value (Go.Operand.func 24)) #[(Go.Operand.tmp 34)] #[27]))) (ty := 28) (dst := some 35) 24 #[Value.agg #[Value.int .i64 v34.Number, Value.slice v34.Writes.ptr v34.Writes.len v34.Writes.cap]] (by kernel_rfl) (fun ww => by kernel_rfl) (Calls.mono h ?_)
            rintro _ w5 ⟨v35, rfl, h⟩
            refine ⟨_, rfl, ?_⟩
            refine reg_run [.sure, .plain, .plain, .plain, .plain, .plain, .pick, .plain] 13 [(6, [], Value.bool ((v35 == 1) && (((b_1.len : Nat) : Int) == 0)))] (by kernel_rfl) (by kernel_rfl) ?_
            refine reg_end [(6, Value.bool ((v35 == 1) && (((b_1.len : Nat) : Int) == 0)))] (by kernel_rfl) (by kernel_rfl) ?_
            change WpE _ _ c_towpathlaw05_RecordBack_24 _ _ _
            refine wpE_ret (by kernel_rfl) ?_
            repeat (first | refine seqQ_ret ?_ | refine blockQ_ret ?_ | refine loopQ_ret ?_ | refine cutQ_ret ?_)
            exact retS (rs := [(Go.ResultVar.tmp 6)]) (v := Value.bool ((v35 == 1) && (((b_1.len : Nat) : Int) == 0))) (by kernel_rfl) (⟨by kernel_rfl, trivial⟩) ⟨((v35 == 1) && (((b_1.len : Nat) : Int) == 0)), rfl, h⟩
          · replace h := h.2 hb
            refine reg_run [] 3 [(3, [], Value.pointer (some ⟨b_, 0, none⟩)), (7, [], Value.slice b_1.ptr b_1.len b_1.cap), (33, [], Value.bool false)] (by kernel_rfl) (by kernel_rfl) ?_
            refine reg_run [.skip, .skip, .skip, .plain, .plain, .skip, .skip, .skip, .plain, .plain] 13 [(6, [], Value.bool false)] (by kernel_rfl) (by kernel_rfl) ?_
            refine reg_end [(6, Value.bool false)] (by kernel_rfl) (by kernel_rfl) ?_
            change WpE _ _ c_towpathlaw05_RecordBack_24 _ _ _
            refine wpE_ret (by kernel_rfl) ?_
            repeat (first | refine seqQ_ret ?_ | refine blockQ_ret ?_ | refine loopQ_ret ?_ | refine cutQ_ret ?_)
            exact retS (rs := [(Go.ResultVar.tmp 6)]) (v := Value.bool false) (by kernel_rfl) (⟨by kernel_rfl, trivial⟩) ⟨false, rfl, h⟩
        · replace h := h.2 hb
          refine wpE_skip (by kernel_rfl) ?_
          change WpE _ _ c_towpathlaw05_RecordBack_26 _ _ _
          refine wpE_seq (x := c_towpathlaw05_RecordBack_27) (y := c_towpathlaw05_RecordBack_29) (by kernel_rfl) ?_
          refine wpE_region (id := 6) (ops := r_towpathlaw05_RecordBack_27) (by kernel_rfl) ?_
          refine reg_run [.plain] 1 [(1, [], Value.int .u16 cut), (2, [], Value.int .u8 more), (3, [], Value.pointer (some ⟨b_, 0, none⟩)), (7, [], Value.slice b_1.ptr b_1.len b_1.cap), (44, [], Value.slice b_1.ptr b_1.len b_1.cap)] (by kernel_rfl) (by kernel_rfl) ?_
          refine reg_enter (op := (Go.Op.call (Go.Call.mk (Go.Callee.value (Go.Operand.func 12)) #[(Go.Operand.tmp 44)] #[22]))) (ty := 29) (dst := some 45) 12 #[Value.slice b_1.ptr b_1.len b_1.cap] (by kernel_rfl) (fun ww => by kernel_rfl) (Calls.mono h ?_)
          rintro _ w6 ⟨v45, f, rfl, h⟩
          refine ⟨_, rfl, ?_⟩
          refine reg_run [.plain, .plain, .plain] 5 [(1, [], Value.int .u16 cut), (2, [], Value.int .u8 more), (3, [], Value.pointer (some ⟨b_, 0, none⟩)), (7, [], Value.slice b_1.ptr b_1.len b_1.cap), (46, [], Value.agg #[Value.int .i64 v45.Number, Value.slice v45.Writes.ptr v45.Writes.len v45.Writes.cap]), (47, [], Value.int .i64 f)] (by kernel_rfl) (by kernel_rfl) ?_
          refine reg_new (op := (Go.Op.alloc 27)) (ty := 0) (dst := some 9) (fun bb => Value.pointer (some ⟨bb, 0, none⟩)) (Obj.cells ([Value.int .i64 0, Value.slice none 0 0]).toArray ty_api_Txn (0, 0)) (by kernel_rfl) (by kernel_rfl) (fun b_2 w7 hb hw => ?_)
          replace h := h b_2 w7 hb hw
          clear hb hw
          refine reg_run [] 6 [(1, [], Value.int .u16 cut), (2, [], Value.int .u8 more), (3, [], Value.pointer (some ⟨b_, 0, none⟩)), (7, [], Value.slice b_1.ptr b_1.len b_1.cap), (9, [], Value.pointer (some ⟨b_2, 0, none⟩)), (46, [], Value.agg #[Value.int .i64 v45.Number, Value.slice v45.Writes.ptr v45.Writes.len v45.Writes.cap]), (47, [], Value.int .i64 f)] (by kernel_rfl) (by kernel_rfl) ?_
          obtain ⟨hc, h⟩ := h
          refine reg_store (t := 27) (a := (Go.Operand.tmp 9)) (x := (Go.Operand.tmp 46)) (b := b_2) (o := 0) (ty := 0) (dst := none) [Value.int .i64 v45.Number, Value.slice v45.Writes.ptr v45.Writes.len v45.Writes.cap] (by kernel_rfl) (by kernel_rfl) (by kernel_rfl) (k := 2) (by kernel_rfl) (by kernel_rfl) (by kernel_rfl) hc (fun w8 hw => ?_)
          replace h := h w8 hw
          clear hw
          refine reg_run [.plain] 8 [(1, [], Value.int .u16 cut), (2, [], Value.int .u8 more), (3, [], Value.pointer (some ⟨b_, 0, none⟩)), (7, [], Value.slice b_1.ptr b_1.len b_1.cap), (9, [], Value.pointer (some ⟨b_2, 0, none⟩)), (10, [], Value.int .i64 f)] (by kernel_rfl) (by kernel_rfl) ?_
          refine reg_end [(1, Value.int .u16 cut), (2, Value.int .u8 more), (3, Value.pointer (some ⟨b_, 0, none⟩)), (7, Value.slice b_1.ptr b_1.len b_1.cap), (9, Value.pointer (some ⟨b_2, 0, none⟩)), (10, Value.int .i64 f)] (by kernel_rfl) (by kernel_rfl) ?_
          change WpE _ _ c_towpathlaw05_RecordBack_29 _ _ _
          refine wpE_seq (x := c_towpathlaw05_RecordBack_30) (y := c_towpathlaw05_RecordBack_39) (by kernel_rfl) ?_
          refine wpE_seq_cut (x := c_towpathlaw05_RecordBack_31) (y := c_towpathlaw05_RecordBack_33) (by kernel_rfl) (fun l w => ∃ (t65 : Bool), l = [(1, Value.int .u16 cut), (2, Value.int .u8 more), (7, Value.slice b_1.ptr b_1.len b_1.cap), (65, Value.bool t65)] ∧ F_towpathlaw05_RecordBack_k1 cut more R b_1 t65 w) ?_ ?_
          · refine wpE_region (id := 7) (ops := r_towpathlaw05_RecordBack_31) (by kernel_rfl) ?_
            refine reg_run [.plain, .plain, .plain] 3 [(1, [], Value.int .u16 cut), (2, [], Value.int .u8 more), (3, [], Value.pointer (some ⟨b_, 0, none⟩)), (7, [], Value.slice b_1.ptr b_1.len b_1.cap), (9, [], Value.pointer (some ⟨b_2, 0, none⟩)), (50, [], Value.bool (f != 0))] (by kernel_rfl) (by kernel_rfl) ?_
            refine reg_split 50 (f != 0) (by kernel_rfl) (fun hb => ?_) (fun hb => ?_)
            · replace h := h.1 hb
              refine reg_run [] 3 [(1, [], Value.int .u16 cut), (2, [], Value.int .u8 more), (3, [], Value.pointer (some ⟨b_, 0, none⟩)), (7, [], Value.slice b_1.ptr b_1.len b_1.cap), (9, [], Value.pointer (some ⟨b_2, 0, none⟩)), (50, [], Value.bool true)] (by kernel_rfl) (by kernel_rfl) ?_
              refine reg_run [.skip, .skip, .skip, .plain, .plain, .skip, .skip, .skip, .skip, .plain, .plain, .skip, .skip, .skip, .plain] 18 [(1, [], Value.int .u16 cut), (2, [], Value.int .u8 more), (7, [], Value.slice b_1.ptr b_1.len b_1.cap), (65, [], Value.bool true)] (by kernel_rfl) (by kernel_rfl) ?_
              refine reg_end [(1, Value.int .u16 cut), (2, Value.int .u8 more), (7, Value.slice b_1.ptr b_1.len b_1.cap), (65, Value.bool true)] (by kernel_rfl) (by kernel_rfl) ?_
              exact ⟨[(1, Value.int .u16 cut), (2, Value.int .u8 more), (7, Value.slice b_1.ptr b_1.len b_1.cap), (65, Value.bool true)], Sub.mk (by kernel_rfl), true, rfl, h⟩
            · replace h := h.2 hb
              refine reg_run [] 3 [(1, [], Value.int .u16 cut), (2, [], Value.int .u8 more), (3, [], Value.pointer (some ⟨b_, 0, none⟩)), (7, [], Value.slice b_1.ptr b_1.len b_1.cap), (9, [], Value.pointer (some ⟨b_2, 0, none⟩)), (50, [], Value.bool false)] (by kernel_rfl) (by kernel_rfl) ?_
              refine reg_run [] 3 [(1, [], Value.int .u16 cut), (2, [], Value.int .u8 more), (3, [], Value.pointer (some ⟨b_, 0, none⟩)), (7, [], Value.slice b_1.ptr b_1.len b_1.cap), (9, [], Value.pointer (some ⟨b_2, 0, none⟩)), (50, [], Value.bool false)] (by kernel_rfl) (by kernel_rfl) ?_
              obtain ⟨v51, hc, h⟩ := h
              refine reg_loadN (t := 27) (a := (Go.Operand.tmp 3)) (b := b_) (o := 0) (ty := 27) (dst := some 51) [Value.int .i64 v51.Number, Value.slice v51.Writes.ptr v51.Writes.len v51.Writes.cap] (by kernel_rfl) (by kernel_rfl) (by kernel_rfl) (k := 2) (by kernel_rfl) (by kernel_rfl) hc ?_
              refine reg_run [] 4 [(1, [], Value.int .u16 cut), (2, [], Value.int .u8 more), (3, [], Value.pointer (some ⟨b_, 0, none⟩)), (7, [], Value.slice b_1.ptr b_1.len b_1.cap), (9, [], Value.pointer (some ⟨b_2, 0, none⟩)), (50, [], Value.bool false), (51, [], Value.agg #[Value.int .i64 v51.Number, Value.slice v51.Writes.ptr v51.Writes.len v51.Writes.cap])] (by kernel_rfl) (by kernel_rfl) ?_
              refine reg_enter (op := (Go.Op.call (Go.Call.mk (Go.Callee.value (Go.Operand.func 24)) #[(Go.Operand.tmp 51)] #[27]))) (ty := 28) (dst := some 52) 24 #[Value.agg #[Value.int .i64 v51.Number, Value.slice v51.Writes.ptr v51.Writes.len v51.Writes.cap]] (by kernel_rfl) (fun ww => by kernel_rfl) (Calls.mono h ?_)
              rintro _ w19 ⟨v52, rfl, h⟩
              refine ⟨_, rfl, ?_⟩
              refine reg_run [.sure, .plain, .plain] 8 [(1, [], Value.int .u16 cut), (2, [], Value.int .u8 more), (3, [], Value.pointer (some ⟨b_, 0, none⟩)), (7, [], Value.slice b_1.ptr b_1.len b_1.cap), (9, [], Value.pointer (some ⟨b_2, 0, none⟩)), (55, [], Value.bool (v52 != 0))] (by kernel_rfl) (by kernel_rfl) ?_
              refine reg_split 55 (v52 != 0) (by kernel_rfl) (fun hb => ?_) (fun hb => ?_)
              · replace h := h.1 hb
                refine reg_run [] 8 [(1, [], Value.int .u16 cut), (2, [], Value.int .u8 more), (3, [], Value.pointer (some ⟨b_, 0, none⟩)), (7, [], Value.slice b_1.ptr b_1.len b_1.cap), (9, [], Value.pointer (some ⟨b_2, 0, none⟩)), (55, [], Value.bool true)] (by kernel_rfl) (by kernel_rfl) ?_
                refine reg_run [.skip, .skip, .skip, .skip, .plain, .plain, .skip, .skip, .skip, .plain] 18 [(1, [], Value.int .u16 cut), (2, [], Value.int .u8 more), (7, [], Value.slice b_1.ptr b_1.len b_1.cap), (65, [], Value.bool true)] (by kernel_rfl) (by kernel_rfl) ?_
                refine reg_end [(1, Value.int .u16 cut), (2, Value.int .u8 more), (7, Value.slice b_1.ptr b_1.len b_1.cap), (65, Value.bool true)] (by kernel_rfl) (by kernel_rfl) ?_
                exact ⟨[(1, Value.int .u16 cut), (2, Value.int .u8 more), (7, Value.slice b_1.ptr b_1.len b_1.cap), (65, Value.bool true)], Sub.mk (by kernel_rfl), true, rfl, h⟩
              · replace h := h.2 hb
                refine reg_run [] 8 [(1, [], Value.int .u16 cut), (2, [], Value.int .u8 more), (3, [], Value.pointer (some ⟨b_, 0, none⟩)), (7, [], Value.slice b_1.ptr b_1.len b_1.cap), (9, [], Value.pointer (some ⟨b_2, 0, none⟩)), (55, [], Value.bool false)] (by kernel_rfl) (by kernel_rfl) ?_
                refine reg_run [] 8 [(1, [], Value.int .u16 cut), (2, [], Value.int .u8 more), (3, [], Value.pointer (some ⟨b_, 0, none⟩)), (7, [], Value.slice b_1.ptr b_1.len b_1.cap), (9, [], Value.pointer (some ⟨b_2, 0, none⟩)), (55, [], Value.bool false)] (by kernel_rfl) (by kernel_rfl) ?_
                obtain ⟨v56, hc, h⟩ := h
                refine reg_loadN (t := 27) (a := (Go.Operand.tmp 9)) (b := b_2) (o := 0) (ty := 27) (dst := some 56) [Value.int .i64 v56.Number, Value.slice v56.Writes.ptr v56.Writes.len v56.Writes.cap] (by kernel_rfl) (by kernel_rfl) (by kernel_rfl) (k := 2) (by kernel_rfl) (by kernel_rfl) hc ?_
                refine reg_run [] 9 [(1, [], Value.int .u16 cut), (2, [], Value.int .u8 more), (3, [], Value.pointer (some ⟨b_, 0, none⟩)), (7, [], Value.slice b_1.ptr b_1.len b_1.cap), (55, [], Value.bool false), (56, [], Value.agg #[Value.int .i64 v56.Number, Value.slice v56.Writes.ptr v56.Writes.len v56.Writes.cap])] (by kernel_rfl) (by kernel_rfl) ?_
                obtain ⟨v57, hc, h⟩ := h
                refine reg_loadN (t := 27) (a := (Go.Operand.tmp 3)) (b := b_) (o := 0) (ty := 27) (dst := some 57) [Value.int .i64 v57.Number, Value.slice v57.Writes.ptr v57.Writes.len v57.Writes.cap] (by kernel_rfl) (by kernel_rfl) (by kernel_rfl) (k := 2) (by kernel_rfl) (by kernel_rfl) hc ?_
                refine reg_run [] 10 [(1, [], Value.int .u16 cut), (2, [], Value.int .u8 more), (7, [], Value.slice b_1.ptr b_1.len b_1.cap), (55, [], Value.bool false), (56, [], Value.agg #[Value.int .i64 v56.Number, Value.slice v56.Writes.ptr v56.Writes.len v56.Writes.cap]), (57, [], Value.agg #[Value.int .i64 v57.Number, Value.slice v57.Writes.ptr v57.Writes.len v57.Writes.cap])] (by kernel_rfl) (by kernel_rfl) ?_
                refine reg_enter (op := (Go.Op.call (Go.Call.mk (Go.Callee.value (Go.Operand.func 14)) #[(Go.Operand.tmp 56), (Go.Operand.tmp 57)] #[27, 27]))) (ty := 4) (dst := some 58) 14 #[Value.agg #[Value.int .i64 v56.Number, Value.slice v56.Writes.ptr v56.Writes.len v56.Writes.cap], Value.agg #[Value.int .i64 v57.Number, Value.slice v57.Writes.ptr v57.Writes.len v57.Writes.cap]] (by kernel_rfl) (fun ww => by kernel_rfl) (Calls.mono h ?_)
                rintro _ w20 ⟨v58, rfl, h⟩
                refine ⟨_, rfl, ?_⟩
                refine reg_run [.sure, .plain, .plain, .plain, .plain, .plain, .pick] 18 [(1, [], Value.int .u16 cut), (2, [], Value.int .u8 more), (7, [], Value.slice b_1.ptr b_1.len b_1.cap), (65, [], Value.bool ((!v58) || (((b_1.len : Nat) : Int) == 0)))] (by kernel_rfl) (by kernel_rfl) ?_
                refine reg_end [(1, Value.int .u16 cut), (2, Value.int .u8 more), (7, Value.slice b_1.ptr b_1.len b_1.cap), (65, Value.bool ((!v58) || (((b_1.len : Nat) : Int) == 0)))] (by kernel_rfl) (by kernel_rfl) ?_
                exact ⟨[(1, Value.int .u16 cut), (2, Value.int .u8 more), (7, Value.slice b_1.ptr b_1.len b_1.cap), (65, Value.bool ((!v58) || (((b_1.len : Nat) : Int) == 0)))], Sub.mk (by kernel_rfl), ((!v58) || (((b_1.len : Nat) : Int) == 0)), rfl, h⟩
          · rintro _ w9 ⟨t65, rfl, h⟩
            unfold F_towpathlaw05_RecordBack_k1 at h
            refine wpE_cond (o := (Operand.tmp 65)) (b := t65) (x := c_towpathlaw05_RecordBack_34) (y := c_towpathlaw05_RecordBack_38) (by kernel_rfl) (by kernel_rfl) (fun hb => ?_) (fun hb => ?_)
            · replace h := h.1 hb
              refine wpE_seq (x := c_towpathlaw05_RecordBack_35) (y := c_towpathlaw05_RecordBack_37) (by kernel_rfl) ?_
              refine wpE_region (id := 8) (ops := r_towpathlaw05_RecordBack_35) (by kernel_rfl) ?_
              refine reg_run [.plain] 1 [(6, [], Value.bool false)] (by kernel_rfl) (by kernel_rfl) ?_
              refine reg_end [(6, Value.bool false)] (by kernel_rfl) (by kernel_rfl) ?_
              change WpE _ _ c_towpathlaw05_RecordBack_37 _ _ _
              refine wpE_ret (by kernel_rfl) ?_
              repeat (first | refine seqQ_ret ?_ | refine blockQ_ret ?_ | refine loopQ_ret ?_ | refine cutQ_ret ?_)
              exact retS (rs := [(Go.ResultVar.tmp 6)]) (v := Value.bool false) (by kernel_rfl) (⟨by kernel_rfl, trivial⟩) ⟨false, rfl, h⟩
            · replace h := h.2 hb
              refine wpE_skip (by kernel_rfl) ?_
              change WpE _ _ c_towpathlaw05_RecordBack_39 _ _ _
              refine wpE_seq (x := c_towpathlaw05_RecordBack_40) (y := c_towpathlaw05_RecordBack_42) (by kernel_rfl) ?_
              refine wpE_region (id := 9) (ops := r_towpathlaw05_RecordBack_40) (by kernel_rfl) ?_
              refine reg_run [.plain, .plain, .plain, .plain, .plain] 5 [(2, [], Value.int .u8 more), (7, [], Value.slice b_1.ptr b_1.len b_1.cap), (67, [], Value.slice b_1.ptr b_1.len b_1.cap), (69, [], Value.int .i64 (IntKind.i64.wrap cut)), (71, [], Value.int .i64 ((b_1.len : Nat) : Int))] (by kernel_rfl) (by kernel_rfl) ?_
              obtain ⟨h0, h⟩ := h
              refine reg_val (op := (Go.Op.binOp Go.BinOp.rem 3 (Go.Operand.tmp 69) (Go.Operand.tmp 71) 3)) (ty := 3) (dst := some 72) (Value.int .i64 (Int.tmod (IntKind.i64.wrap cut) ((b_1.len : Nat) : Int))) (by kernel_rfl) (fun ww => run_rem (by kernel_rfl) (by kernel_rfl) h0 ww) ?_
              refine reg_run [] 6 [(2, [], Value.int .u8 more), (7, [], Value.slice b_1.ptr b_1.len b_1.cap), (67, [], Value.slice b_1.ptr b_1.len b_1.cap), (72, [], Value.int .i64 (Int.tmod (IntKind.i64.wrap cut) ((b_1.len : Nat) : Int)))] (by kernel_rfl) (by kernel_rfl) ?_
              obtain ⟨h0, h1, h⟩ := h
              refine reg_sliceHi (t := 22) (e := 5) (x := (Go.Operand.tmp 67)) (hi := (Go.Operand.tmp 72)) (p := b_1.ptr) (l := b_1.len) (c := b_1.cap) (sz := 1) (k := .i64) (j := (Int.tmod (IntKind.i64.wrap cut) ((b_1.len : Nat) : Int))) (ty := 22) (dst := some 73) (by kernel_rfl) (by kernel_rfl) (by kernel_rfl) (by kernel_rfl) (by kernel_rfl) h0 h1 ?_
              refine reg_run [] 7 [(2, [], Value.int .u8 more), (7, [], Value.slice b_1.ptr b_1.len b_1.cap), (73, [], Value.slice b_1.ptr ((Int.tmod (IntKind.i64.wrap cut) ((b_1.len : Nat) : Int)).toNat) b_1.cap)] (by kernel_rfl) (by kernel_rfl) ?_
              refine reg_enter (op := (Go.Op.call (Go.Call.mk (Go.Callee.value (Go.Operand.func 12)) #[(Go.Operand.tmp 73)] #[22]))) (ty := 29) (dst := some 74) 12 #[Value.slice b_1.ptr ((Int.tmod (IntKind.i64.wrap cut) ((b_1.len : Nat) : Int)).toNat) b_1.cap] (by kernel_rfl) (fun ww => by kernel_rfl) (Calls.mono h ?_)
              rintro _ w10 ⟨v74, g, rfl, h⟩
              refine ⟨_, rfl, ?_⟩
              refine reg_run [.plain, .plain, .plain] 11 [(2, [], Value.int .u8 more), (7, [], Value.slice b_1.ptr b_1.len b_1.cap), (75, [], Value.agg #[Value.int .i64 v74.Number, Value.slice v74.Writes.ptr v74.Writes.len v74.Writes.cap]), (76, [], Value.int .i64 g)] (by kernel_rfl) (by kernel_rfl) ?_
              refine reg_new (op := (Go.Op.alloc 27)) (ty := 0) (dst := some 11) (fun bb => Value.pointer (some ⟨bb, 0, none⟩)) (Obj.cells ([Value.int .i64 0, Value.slice none 0 0]).toArray ty_api_Txn (0, 0)) (by kernel_rfl) (by kernel_rfl) (fun b_3 w11 hb hw => ?_)
              replace h := h b_3 w11 hb hw
              clear hb hw
              refine reg_run [] 12 [(2, [], Value.int .u8 more), (7, [], Value.slice b_1.ptr b_1.len b_1.cap), (11, [], Value.pointer (some ⟨b_3, 0, none⟩)), (75, [], Value.agg #[Value.int .i64 v74.Number, Value.slice v74.Writes.ptr v74.Writes.len v74.Writes.cap]), (76, [], Value.int .i64 g)] (by kernel_rfl) (by kernel_rfl) ?_
              obtain ⟨hc, h⟩ := h
              refine reg_store (t := 27) (a := (Go.Operand.tmp 11)) (x := (Go.Operand.tmp 75)) (b := b_3) (o := 0) (ty := 0) (dst := none) [Value.int .i64 v74.Number, Value.slice v74.Writes.ptr v74.Writes.len v74.Writes.cap] (by kernel_rfl) (by kernel_rfl) (by kernel_rfl) (k := 2) (by kernel_rfl) (by kernel_rfl) (by kernel_rfl) hc (fun w12 hw => ?_)
              replace h := h w12 hw
              clear hw
              refine reg_run [.plain] 14 [(2, [], Value.int .u8 more), (7, [], Value.slice b_1.ptr b_1.len b_1.cap), (12, [], Value.int .i64 g)] (by kernel_rfl) (by kernel_rfl) ?_
              refine reg_end [(2, Value.int .u8 more), (7, Value.slice b_1.ptr b_1.len b_1.cap), (12, Value.int .i64 g)] (by kernel_rfl) (by kernel_rfl) ?_
              change WpE _ _ c_towpathlaw05_RecordBack_42 _ _ _
              refine wpE_seq (x := c_towpathlaw05_RecordBack_43) (y := c_towpathlaw05_RecordBack_45) (by kernel_rfl) ?_
              refine wpE_region (id := 10) (ops := r_towpathlaw05_RecordBack_43) (by kernel_rfl) ?_
              refine reg_run [.plain] 1 [(2, [], Value.int .u8 more), (12, [], Value.int .i64 g), (78, [], Value.slice b_1.ptr b_1.len b_1.cap)] (by kernel_rfl) (by kernel_rfl) ?_
              refine reg_enter (op := (Go.Op.call (Go.Call.mk (Go.Callee.value (Go.Operand.func 11)) #[(Go.Operand.tmp 78)] #[22]))) (ty := 22) (dst := some 79) 11 #[Value.slice b_1.ptr b_1.len b_1.cap] (by kernel_rfl) (fun ww => by kernel_rfl) (Calls.mono h ?_)
              rintro _ w13 ⟨v79, rfl, h⟩
              refine ⟨_, rfl, ?_⟩
              refine reg_run [.plain] 3 [(12, [], Value.int .i64 g), (79, [], Value.slice v79.ptr v79.len v79.cap), (80, [], Value.int .u8 more)] (by kernel_rfl) (by kernel_rfl) ?_
              refine reg_new (op := (Go.Op.buildSlice 22 1 #[(0, (Go.Operand.tmp 80))])) (ty := 22) (dst := some 81) (fun bb => Value.slice (some ⟨bb, 0, none⟩) 1 1) (Obj.cells ([Value.int .u8 more]).toArray ty_uint8 (0, 0)) (by kernel_rfl) (by kernel_rfl) (fun b_4 w14 hb hw => ?_)
              replace h := h b_4 w14 hb hw
              clear hb hw
              refine reg_run [] 4 [(12, [], Value.int .i64 g), (79, [], Value.slice v79.ptr v79.len v79.cap), (81, [], Value.slice (some ⟨b_4, 0, none⟩) 1 1)] (by kernel_rfl) (by kernel_rfl) ?_
              obtain ⟨src, hs, h⟩ := h
              refine reg_append (t := 22) (tx := 22) (e := 5) (a := (Go.Operand.tmp 79)) (xo := (Go.Operand.tmp 81)) (s := v79) (x := (Slc.mk (some ⟨b_4, 0, none⟩) 1 1)) (sz := 1) (by_ := 1) (zs := [Value.int .u8 0]) (ty := 22) (dst := some 82)  src (by kernel_rfl) (by kernel_rfl) (by kernel_rfl) (by kernel_rfl) (by kernel_rfl) (by kernel_rfl) (by kernel_rfl) (by kernel_rfl) (by kernel_rfl) hs (AppendW.mono h (fun v82 w15 h => ?_))
              refine reg_run [] 5 [(12, [], Value.int .i64 g), (82, [], Value.slice v82.ptr v82.len v82.cap)] (by kernel_rfl) (by kernel_rfl) ?_
              refine reg_enter (op := (Go.Op.call (Go.Call.mk (Go.Callee.value (Go.Operand.func 12)) #[(Go.Operand.tmp 82)] #[22]))) (ty := 29) (dst := some 83) 12 #[Value.slice v82.ptr v82.len v82.cap] (by kernel_rfl) (fun ww => by kernel_rfl) (Calls.mono h ?_)
              rintro _ w16 ⟨v83, h_, rfl, h⟩
              refine ⟨_, rfl, ?_⟩
              refine reg_run [.plain, .plain, .plain] 9 [(12, [], Value.int .i64 g), (84, [], Value.agg #[Value.int .i64 v83.Number, Value.slice v83.Writes.ptr v83.Writes.len v83.Writes.cap]), (85, [], Value.int .i64 h_)] (by kernel_rfl) (by kernel_rfl) ?_
              refine reg_new (op := (Go.Op.alloc 27)) (ty := 0) (dst := some 13) (fun bb => Value.pointer (some ⟨bb, 0, none⟩)) (Obj.cells ([Value.int .i64 0, Value.slice none 0 0]).toArray ty_api_Txn (0, 0)) (by kernel_rfl) (by kernel_rfl) (fun b_5 w17 hb hw => ?_)
              replace h := h b_5 w17 hb hw
              clear hb hw
              refine reg_run [] 10 [(12, [], Value.int .i64 g), (13, [], Value.pointer (some ⟨b_5, 0, none⟩)), (84, [], Value.agg #[Value.int .i64 v83.Number, Value.slice v83.Writes.ptr v83.Writes.len v83.Writes.cap]), (85, [], Value.int .i64 h_)] (by kernel_rfl) (by kernel_rfl) ?_
              obtain ⟨hc, h⟩ := h
              refine reg_store (t := 27) (a := (Go.Operand.tmp 13)) (x := (Go.Operand.tmp 84)) (b := b_5) (o := 0) (ty := 0) (dst := none) [Value.int .i64 v83.Number, Value.slice v83.Writes.ptr v83.Writes.len v83.Writes.cap] (by kernel_rfl) (by kernel_rfl) (by kernel_rfl) (k := 2) (by kernel_rfl) (by kernel_rfl) (by kernel_rfl) hc (fun w18 hw => ?_)
              replace h := h w18 hw
              clear hw
              refine reg_run [.plain] 12 [(12, [], Value.int .i64 g), (14, [], Value.int .i64 h_)] (by kernel_rfl) (by kernel_rfl) ?_
              refine reg_end [(12, Value.int .i64 g), (14, Value.int .i64 h_)] (by kernel_rfl) (by kernel_rfl) ?_
              change WpE _ _ c_towpathlaw05_RecordBack_45 _ _ _
              refine wpE_seq (x := c_towpathlaw05_RecordBack_46) (y := c_towpathlaw05_RecordBack_48) (by kernel_rfl) ?_
              refine wpE_region (id := 11) (ops := r_towpathlaw05_RecordBack_46) (by kernel_rfl) ?_
              refine reg_run [.plain, .plain, .plain, .plain, .plain, .pick, .plain] 7 [(6, [], Value.bool ((g == 5) && (h_ == 4)))] (by kernel_rfl) (by kernel_rfl) ?_
              refine reg_end [(6, Value.bool ((g == 5) && (h_ == 4)))] (by kernel_rfl) (by kernel_rfl) ?_
              change WpE _ _ c_towpathlaw05_RecordBack_48 _ _ _
              refine wpE_ret (by kernel_rfl) ?_
              repeat (first | refine seqQ_ret ?_ | refine blockQ_ret ?_ | refine loopQ_ret ?_ | refine cutQ_ret ?_)
              exact retS (rs := [(Go.ResultVar.tmp 6)]) (v := Value.bool ((g == 5) && (h_ == 4))) (by kernel_rfl) (⟨by kernel_rfl, trivial⟩) ⟨((g == 5) && (h_ == 4)), rfl, h⟩
  · rintro e w' ⟨v, rfl, r0, rfl, h⟩; exact ⟨r0, rfl, h⟩
end Go.Proofs.Ytfmkemmgakdddaa
