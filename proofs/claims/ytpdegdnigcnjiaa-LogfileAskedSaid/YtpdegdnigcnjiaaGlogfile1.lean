/- WRITTEN BY PROGRAM (dec.py): for each Go function the clean formula F, the call's contract C, and the proof S that F gives C. -/
import Derived.Test.YtpdegdnigcnjiaaRows
import Derived.Test.YtpdegdnigcnjiaaGF
namespace Go.Proofs.Ytpdegdnigcnjiaa
open Go
set_option linter.unusedVariables false

/-! ### towpath/logfile.turns$1 (function 82) -/
noncomputable def c_logfile_turns_1_0 : Code := (Try.f82.body).getD Code.skip
noncomputable def c_logfile_turns_1_1 : Code := Code.l c_logfile_turns_1_0
noncomputable def r_logfile_turns_1_1 : Array Oper := Code.ops c_logfile_turns_1_1
noncomputable def c_logfile_turns_1_3 : Code := Code.r c_logfile_turns_1_0
noncomputable def c_logfile_turns_1_4 : Code := Code.l c_logfile_turns_1_3
noncomputable def c_logfile_turns_1_5 : Code := Code.l c_logfile_turns_1_4
noncomputable def r_logfile_turns_1_5 : Array Oper := Code.ops c_logfile_turns_1_5
noncomputable def c_logfile_turns_1_7 : Code := Code.r c_logfile_turns_1_4
noncomputable def c_logfile_turns_1_8 : Code := Code.l c_logfile_turns_1_7
noncomputable def r_logfile_turns_1_8 : Array Oper := Code.ops c_logfile_turns_1_8
noncomputable def c_logfile_turns_1_10 : Code := Code.r c_logfile_turns_1_7
noncomputable def c_logfile_turns_1_11 : Code := Code.l c_logfile_turns_1_10
noncomputable def c_logfile_turns_1_12 : Code := Code.l c_logfile_turns_1_11
noncomputable def r_logfile_turns_1_12 : Array Oper := Code.ops c_logfile_turns_1_12
noncomputable def c_logfile_turns_1_14 : Code := Code.r c_logfile_turns_1_11
noncomputable def c_logfile_turns_1_15 : Code := Code.r c_logfile_turns_1_10
noncomputable def c_logfile_turns_1_16 : Code := Code.r c_logfile_turns_1_3
noncomputable def c_logfile_turns_1_17 : Code := Code.l c_logfile_turns_1_16
noncomputable def c_logfile_turns_1_18 : Code := Code.l c_logfile_turns_1_17
noncomputable def r_logfile_turns_1_18 : Array Oper := Code.ops c_logfile_turns_1_18
noncomputable def c_logfile_turns_1_20 : Code := Code.r c_logfile_turns_1_17
noncomputable def c_logfile_turns_1_21 : Code := Code.l c_logfile_turns_1_20
noncomputable def c_logfile_turns_1_22 : Code := Code.l c_logfile_turns_1_21
noncomputable def r_logfile_turns_1_22 : Array Oper := Code.ops c_logfile_turns_1_22
noncomputable def c_logfile_turns_1_24 : Code := Code.r c_logfile_turns_1_21
noncomputable def c_logfile_turns_1_25 : Code := Code.r c_logfile_turns_1_20
noncomputable def c_logfile_turns_1_26 : Code := Code.r c_logfile_turns_1_16
noncomputable def c_logfile_turns_1_27 : Code := Code.l c_logfile_turns_1_26
noncomputable def r_logfile_turns_1_27 : Array Oper := Code.ops c_logfile_turns_1_27
noncomputable def c_logfile_turns_1_29 : Code := Code.r c_logfile_turns_1_26
noncomputable def c_logfile_turns_1_30 : Code := Code.l c_logfile_turns_1_29
noncomputable def r_logfile_turns_1_30 : Array Oper := Code.ops c_logfile_turns_1_30
noncomputable def c_logfile_turns_1_32 : Code := Code.r c_logfile_turns_1_29

set_option maxRecDepth 100000 in
set_option maxHeartbeats 4000000 in
theorem S_logfile_turns_1 {t_ : T_api_Txn} {t1 : Option Addr} {w : World} {R : Int → World → Prop} (h : F_logfile_turns_1 t_ t1 R w) : C_logfile_turns_1 t_ t1 w R := by
  unfold F_logfile_turns_1 at h
  unfold C_logfile_turns_1
  refine Calls.mono (calls_of_wpE (args := [Value.agg #[Value.int .i64 t_.Number, Value.slice t_.Writes.ptr t_.Writes.len t_.Writes.cap], Value.pointer t1]) (R := fun v w' => ∃ (r0 : Int), v = Value.int .i64 r0 ∧ R r0 w') Try.func82 (c := c_logfile_turns_1_0) (by kernel_rfl) 16 (by kernel_rfl) (by kernel_rfl) [(0, Value.agg #[Value.int .i64 t_.Number, Value.slice t_.Writes.ptr t_.Writes.len t_.Writes.cap]), (1, Value.pointer t1)] (by kernel_rfl) ?_) ?_
  · refine wpE_seq (x := c_logfile_turns_1_1) (y := c_logfile_turns_1_3) (by kernel_rfl) ?_
    refine wpE_region (id := 0) (ops := r_logfile_turns_1_1) (by kernel_rfl) ?_
    refine reg_run [] 0 [(0, [], Value.agg #[Value.int .i64 t_.Number, Value.slice t_.Writes.ptr t_.Writes.len t_.Writes.cap]), (1, [], Value.pointer t1)] (by kernel_rfl) (by kernel_rfl) ?_
    refine reg_new (op := (Go.Op.box 49 (Go.Operand.tmp 0))) (ty := 0) (dst := some 2) (fun bb => Value.pointer (some ⟨bb, 0, none⟩)) (Obj.cells ([Value.int .i64 t_.Number, Value.slice t_.Writes.ptr t_.Writes.len t_.Writes.cap]).toArray ty_api_Txn (0, 0)) (by kernel_rfl) (by kernel_rfl) (fun b_ w1 hb hw => ?_)
    replace h := h b_ w1 hb hw
    clear hb hw
    refine reg_run [.plain] 2 [(1, [], Value.pointer t1), (2, [], Value.pointer (some ⟨b_, 0, none⟩))] (by kernel_rfl) (by kernel_rfl) ?_
    refine reg_end [(1, Value.pointer t1), (2, Value.pointer (some ⟨b_, 0, none⟩))] (by kernel_rfl) (by kernel_rfl) ?_
    change WpE _ _ c_logfile_turns_1_3 _ _ _
    refine wpE_seq (x := c_logfile_turns_1_4) (y := c_logfile_turns_1_16) (by kernel_rfl) ?_
    refine wpE_seq (x := c_logfile_turns_1_5) (y := c_logfile_turns_1_7) (by kernel_rfl) ?_
    refine wpE_region (id := 1) (ops := r_logfile_turns_1_5) (by kernel_rfl) ?_
    refine reg_run [] 0 [(1, [], Value.pointer t1), (2, [], Value.pointer (some ⟨b_, 0, none⟩))] (by kernel_rfl) (by kernel_rfl) ?_
    obtain ⟨v5, hc, h⟩ := h
    refine reg_loadN (t := 49) (a := (Go.Operand.tmp 2)) (b := b_) (o := 0) (ty := 49) (dst := some 5) [Value.int .i64 v5.Number, Value.slice v5.Writes.ptr v5.Writes.len v5.Writes.cap] (by kernel_rfl) (by kernel_rfl) (by kernel_rfl) (k := 2) (by kernel_rfl) (by kernel_rfl) hc ?_
    refine reg_run [] 1 [(1, [], Value.pointer t1), (2, [], Value.pointer (some ⟨b_, 0, none⟩)), (5, [], Value.agg #[Value.int .i64 v5.Number, Value.slice v5.Writes.ptr v5.Writes.len v5.Writes.cap])] (by kernel_rfl) (by kernel_rfl) ?_
    refine reg_enter (op := (Go.Op.call (Go.Call.mk (Go.Callee.value (Go.Operand.func 22)) #[(Go.Operand.tmp 5)] #[49]))) (ty := 29) (dst := some 6) 22 #[Value.agg #[Value.int .i64 v5.Number, Value.slice v5.Writes.ptr v5.Writes.len v5.Writes.cap]] (by kernel_rfl) (fun ww => by kernel_rfl) (Calls.mono h ?_)
    rintro _ w2 ⟨v6, rfl, h⟩
    refine ⟨_, rfl, ?_⟩
    refine reg_run [.plain] 3 [(1, [], Value.pointer t1), (2, [], Value.pointer (some ⟨b_, 0, none⟩)), (4, [], Value.int .i64 v6)] (by kernel_rfl) (by kernel_rfl) ?_
    refine reg_end [(1, Value.pointer t1), (2, Value.pointer (some ⟨b_, 0, none⟩)), (4, Value.int .i64 v6)] (by kernel_rfl) (by kernel_rfl) ?_
    change WpE _ _ c_logfile_turns_1_7 _ _ _
    refine wpE_seq (x := c_logfile_turns_1_8) (y := c_logfile_turns_1_10) (by kernel_rfl) ?_
    refine wpE_region (id := 2) (ops := r_logfile_turns_1_8) (by kernel_rfl) ?_
    refine reg_run [.plain, .plain] 2 [(1, [], Value.pointer t1), (2, [], Value.pointer (some ⟨b_, 0, none⟩)), (4, [], Value.int .i64 v6), (8, [], Value.bool (v6 != 0))] (by kernel_rfl) (by kernel_rfl) ?_
    refine reg_end [(1, Value.pointer t1), (2, Value.pointer (some ⟨b_, 0, none⟩)), (4, Value.int .i64 v6), (8, Value.bool (v6 != 0))] (by kernel_rfl) (by kernel_rfl) ?_
    change WpE _ _ c_logfile_turns_1_10 _ _ _
    refine wpE_cond (o := (Operand.tmp 8)) (b := (v6 != 0)) (x := c_logfile_turns_1_11) (y := c_logfile_turns_1_15) (by kernel_rfl) (by kernel_rfl) (fun hb => ?_) (fun hb => ?_)
    · replace h := h.1 hb
      refine wpE_seq (x := c_logfile_turns_1_12) (y := c_logfile_turns_1_14) (by kernel_rfl) ?_
      refine wpE_region (id := 3) (ops := r_logfile_turns_1_12) (by kernel_rfl) ?_
      refine reg_run [.plain, .plain] 2 [(3, [], Value.int .i64 v6)] (by kernel_rfl) (by kernel_rfl) ?_
      refine reg_end [(3, Value.int .i64 v6)] (by kernel_rfl) (by kernel_rfl) ?_
      change WpE _ _ c_logfile_turns_1_14 _ _ _
      refine wpE_ret (by kernel_rfl) ?_
      repeat (first | refine seqQ_ret ?_ | refine blockQ_ret ?_ | refine loopQ_ret ?_ | refine cutQ_ret ?_)
      exact retS (rs := [(Go.ResultVar.tmp 3)]) (v := Value.int .i64 v6) (by kernel_rfl) (⟨by kernel_rfl, trivial⟩) ⟨v6, rfl, h⟩
    · replace h := h.2 hb
      refine wpE_skip (by kernel_rfl) ?_
      change WpE _ _ c_logfile_turns_1_16 _ _ _
      refine wpE_seq (x := c_logfile_turns_1_17) (y := c_logfile_turns_1_26) (by kernel_rfl) ?_
      refine wpE_seq (x := c_logfile_turns_1_18) (y := c_logfile_turns_1_20) (by kernel_rfl) ?_
      refine wpE_region (id := 4) (ops := r_logfile_turns_1_18) (by kernel_rfl) ?_
      refine reg_run [.plain] 1 [(1, [], Value.pointer t1), (10, [], Value.pointer (some ⟨b_, 0, none⟩))] (by kernel_rfl) (by kernel_rfl) ?_
      obtain ⟨v11, hc, h⟩ := h
      refine reg_load1 (t := 3) (a := (Go.Operand.tmp 10)) (b := b_) (o := 0) (ty := 3) (dst := some 11) (by kernel_rfl) (by kernel_rfl) (by kernel_rfl) hc ?_
      refine reg_run [] 2 [(1, [], Value.pointer t1), (11, [], Value.int .i64 v11)] (by kernel_rfl) (by kernel_rfl) ?_
      obtain ⟨hp_3, h⟩ := h
      refine reg_conv [(1, [], Value.pointer (some ⟨(pblk t1), (poff t1), none⟩)), (11, [], Value.int .i64 v11)] (congrArg (fun pp => ([(1, [], Value.pointer pp), (11, [], Value.int .i64 v11)] : GEnv)) hp_3) ?_
      obtain ⟨v12, hc, h⟩ := h
      refine reg_load1 (t := 3) (a := (Go.Operand.tmp 1)) (b := (pblk t1)) (o := (poff t1)) (ty := 3) (dst := some 12) (by kernel_rfl) (by kernel_rfl) (by kernel_rfl) hc ?_
      refine reg_run [.plain] 4 [(1, [], Value.pointer (some ⟨(pblk t1), (poff t1), none⟩)), (13, [], Value.bool (v11 != v12))] (by kernel_rfl) (by kernel_rfl) ?_
      refine reg_conv [(1, [], Value.pointer t1), (13, [], Value.bool (v11 != v12))] (congrArg (fun pp => ([(1, [], Value.pointer pp), (13, [], Value.bool (v11 != v12))] : GEnv)) hp_3.symm) ?_
      refine reg_end [(1, Value.pointer t1), (13, Value.bool (v11 != v12))] (by kernel_rfl) (by kernel_rfl) ?_
      change WpE _ _ c_logfile_turns_1_20 _ _ _
      refine wpE_cond (o := (Operand.tmp 13)) (b := (v11 != v12)) (x := c_logfile_turns_1_21) (y := c_logfile_turns_1_25) (by kernel_rfl) (by kernel_rfl) (fun hb => ?_) (fun hb => ?_)
      · replace h := h.1 hb
        refine wpE_seq (x := c_logfile_turns_1_22) (y := c_logfile_turns_1_24) (by kernel_rfl) ?_
        refine wpE_region (id := 5) (ops := r_logfile_turns_1_22) (by kernel_rfl) ?_
        refine reg_run [.plain] 1 [(3, [], Value.int .i64 6)] (by kernel_rfl) (by kernel_rfl) ?_
        refine reg_end [(3, Value.int .i64 6)] (by kernel_rfl) (by kernel_rfl) ?_
        change WpE _ _ c_logfile_turns_1_24 _ _ _
        refine wpE_ret (by kernel_rfl) ?_
        repeat (first | refine seqQ_ret ?_ | refine blockQ_ret ?_ | refine loopQ_ret ?_ | refine cutQ_ret ?_)
        exact retS (rs := [(Go.ResultVar.tmp 3)]) (v := Value.int .i64 6) (by kernel_rfl) (⟨by kernel_rfl, trivial⟩) ⟨6, rfl, h⟩
      · replace h := h.2 hb
        refine wpE_skip (by kernel_rfl) ?_
        change WpE _ _ c_logfile_turns_1_26 _ _ _
        refine wpE_seq (x := c_logfile_turns_1_27) (y := c_logfile_turns_1_29) (by kernel_rfl) ?_
        refine wpE_region (id := 6) (ops := r_logfile_turns_1_27) (by kernel_rfl) ?_
        refine reg_run [] 0 [(1, [], Value.pointer t1)] (by kernel_rfl) (by kernel_rfl) ?_
        obtain ⟨hp_5, h⟩ := h
        refine reg_conv [(1, [], Value.pointer (some ⟨(pblk t1), (poff t1), none⟩))] (congrArg (fun pp => ([(1, [], Value.pointer pp)] : GEnv)) hp_5) ?_
        obtain ⟨v14, hc, h⟩ := h
        refine reg_load1 (t := 3) (a := (Go.Operand.tmp 1)) (b := (pblk t1)) (o := (poff t1)) (ty := 3) (dst := some 14) (by kernel_rfl) (by kernel_rfl) (by kernel_rfl) hc ?_
        refine reg_run [.plain] 2 [(1, [], Value.pointer (some ⟨(pblk t1), (poff t1), none⟩)), (15, [], Value.int .i64 (IntKind.i64.wrap (v14 + 1)))] (by kernel_rfl) (by kernel_rfl) ?_
        obtain ⟨hc, h⟩ := h
        refine reg_store (t := 3) (a := (Go.Operand.tmp 1)) (x := (Go.Operand.tmp 15)) (b := (pblk t1)) (o := (poff t1)) (ty := 0) (dst := none) [Value.int .i64 (IntKind.i64.wrap (v14 + 1))] (by kernel_rfl) (by kernel_rfl) (by kernel_rfl) (k := 1) (by kernel_rfl) (by kernel_rfl) (by kernel_rfl) hc (fun w3 hw => ?_)
        replace h := h w3 hw
        clear hw
        refine reg_end [] (by kernel_rfl) (by kernel_rfl) ?_
        change WpE _ _ c_logfile_turns_1_29 _ _ _
        refine wpE_seq (x := c_logfile_turns_1_30) (y := c_logfile_turns_1_32) (by kernel_rfl) ?_
        refine wpE_region (id := 7) (ops := r_logfile_turns_1_30) (by kernel_rfl) ?_
        refine reg_run [.plain] 1 [(3, [], Value.int .i64 0)] (by kernel_rfl) (by kernel_rfl) ?_
        refine reg_end [(3, Value.int .i64 0)] (by kernel_rfl) (by kernel_rfl) ?_
        change WpE _ _ c_logfile_turns_1_32 _ _ _
        refine wpE_ret (by kernel_rfl) ?_
        repeat (first | refine seqQ_ret ?_ | refine blockQ_ret ?_ | refine loopQ_ret ?_ | refine cutQ_ret ?_)
        exact retS (rs := [(Go.ResultVar.tmp 3)]) (v := Value.int .i64 0) (by kernel_rfl) (⟨by kernel_rfl, trivial⟩) ⟨0, rfl, h⟩
  · rintro e w' ⟨v, rfl, r0, rfl, h⟩; exact ⟨r0, rfl, h⟩

/-! ### towpath/logfile.records$1 (function 83) -/
noncomputable def c_logfile_records_1_0 : Code := (Try.f83.body).getD Code.skip
noncomputable def c_logfile_records_1_1 : Code := Code.l c_logfile_records_1_0
noncomputable def r_logfile_records_1_1 : Array Oper := Code.ops c_logfile_records_1_1
noncomputable def c_logfile_records_1_3 : Code := Code.r c_logfile_records_1_0
noncomputable def c_logfile_records_1_4 : Code := Code.l c_logfile_records_1_3
noncomputable def r_logfile_records_1_4 : Array Oper := Code.ops c_logfile_records_1_4
noncomputable def c_logfile_records_1_6 : Code := Code.r c_logfile_records_1_3
noncomputable def c_logfile_records_1_7 : Code := Code.l c_logfile_records_1_6
noncomputable def c_logfile_records_1_8 : Code := Code.l c_logfile_records_1_7
noncomputable def c_logfile_records_1_9 : Code := Code.l c_logfile_records_1_8
noncomputable def c_logfile_records_1_10 : Code := Code.l c_logfile_records_1_9
noncomputable def r_logfile_records_1_10 : Array Oper := Code.ops c_logfile_records_1_10
noncomputable def c_logfile_records_1_12 : Code := Code.r c_logfile_records_1_9
noncomputable def c_logfile_records_1_13 : Code := Code.l c_logfile_records_1_12
noncomputable def c_logfile_records_1_14 : Code := Code.r c_logfile_records_1_12
noncomputable def c_logfile_records_1_15 : Code := Code.r c_logfile_records_1_8
noncomputable def c_logfile_records_1_16 : Code := Code.l c_logfile_records_1_15
noncomputable def c_logfile_records_1_17 : Code := Code.l c_logfile_records_1_16
noncomputable def c_logfile_records_1_18 : Code := Code.l c_logfile_records_1_17
noncomputable def r_logfile_records_1_18 : Array Oper := Code.ops c_logfile_records_1_18
noncomputable def c_logfile_records_1_20 : Code := Code.r c_logfile_records_1_17
noncomputable def c_logfile_records_1_21 : Code := Code.l c_logfile_records_1_20
noncomputable def r_logfile_records_1_21 : Array Oper := Code.ops c_logfile_records_1_21
noncomputable def c_logfile_records_1_23 : Code := Code.r c_logfile_records_1_20
noncomputable def c_logfile_records_1_24 : Code := Code.l c_logfile_records_1_23
noncomputable def r_logfile_records_1_24 : Array Oper := Code.ops c_logfile_records_1_24
noncomputable def c_logfile_records_1_26 : Code := Code.r c_logfile_records_1_23
noncomputable def c_logfile_records_1_27 : Code := Code.l c_logfile_records_1_26
noncomputable def c_logfile_records_1_28 : Code := Code.l c_logfile_records_1_27
noncomputable def r_logfile_records_1_28 : Array Oper := Code.ops c_logfile_records_1_28
noncomputable def c_logfile_records_1_30 : Code := Code.r c_logfile_records_1_27
noncomputable def c_logfile_records_1_31 : Code := Code.l c_logfile_records_1_30
noncomputable def c_logfile_records_1_32 : Code := Code.l c_logfile_records_1_31
noncomputable def r_logfile_records_1_32 : Array Oper := Code.ops c_logfile_records_1_32
noncomputable def c_logfile_records_1_34 : Code := Code.r c_logfile_records_1_31
noncomputable def c_logfile_records_1_35 : Code := Code.r c_logfile_records_1_30
noncomputable def c_logfile_records_1_36 : Code := Code.r c_logfile_records_1_26
noncomputable def c_logfile_records_1_37 : Code := Code.l c_logfile_records_1_36
noncomputable def c_logfile_records_1_38 : Code := Code.l c_logfile_records_1_37
noncomputable def r_logfile_records_1_38 : Array Oper := Code.ops c_logfile_records_1_38
noncomputable def c_logfile_records_1_40 : Code := Code.r c_logfile_records_1_37
noncomputable def c_logfile_records_1_41 : Code := Code.l c_logfile_records_1_40
noncomputable def c_logfile_records_1_42 : Code := Code.l c_logfile_records_1_41
noncomputable def r_logfile_records_1_42 : Array Oper := Code.ops c_logfile_records_1_42
noncomputable def c_logfile_records_1_44 : Code := Code.r c_logfile_records_1_41
noncomputable def c_logfile_records_1_45 : Code := Code.r c_logfile_records_1_40
noncomputable def c_logfile_records_1_46 : Code := Code.r c_logfile_records_1_36
noncomputable def c_logfile_records_1_47 : Code := Code.l c_logfile_records_1_46
noncomputable def r_logfile_records_1_47 : Array Oper := Code.ops c_logfile_records_1_47
noncomputable def c_logfile_records_1_49 : Code := Code.r c_logfile_records_1_46
noncomputable def c_logfile_records_1_50 : Code := Code.l c_logfile_records_1_49
noncomputable def c_logfile_records_1_51 : Code := Code.l c_logfile_records_1_50
noncomputable def r_logfile_records_1_51 : Array Oper := Code.ops c_logfile_records_1_51
noncomputable def c_logfile_records_1_53 : Code := Code.r c_logfile_records_1_50
noncomputable def c_logfile_records_1_54 : Code := Code.l c_logfile_records_1_53
noncomputable def c_logfile_records_1_55 : Code := Code.l c_logfile_records_1_54
noncomputable def r_logfile_records_1_55 : Array Oper := Code.ops c_logfile_records_1_55
noncomputable def c_logfile_records_1_57 : Code := Code.r c_logfile_records_1_54
noncomputable def c_logfile_records_1_58 : Code := Code.r c_logfile_records_1_53
noncomputable def c_logfile_records_1_59 : Code := Code.r c_logfile_records_1_49
noncomputable def c_logfile_records_1_60 : Code := Code.l c_logfile_records_1_59
noncomputable def r_logfile_records_1_60 : Array Oper := Code.ops c_logfile_records_1_60
noncomputable def c_logfile_records_1_62 : Code := Code.r c_logfile_records_1_59
noncomputable def c_logfile_records_1_63 : Code := Code.l c_logfile_records_1_62
noncomputable def c_logfile_records_1_64 : Code := Code.r c_logfile_records_1_62
noncomputable def c_logfile_records_1_65 : Code := Code.r c_logfile_records_1_15
noncomputable def r_logfile_records_1_65 : Array Oper := Code.ops c_logfile_records_1_65

set_option maxRecDepth 100000 in
set_option maxHeartbeats 4000000 in
theorem S_logfile_records_1 {yield : Value} {t1 : Option Addr} {t2 : Option Addr} {w : World} {R : World → Prop} (h : F_logfile_records_1 yield t1 t2 R w) : C_logfile_records_1 yield t1 t2 w R := by
  unfold F_logfile_records_1 at h
  unfold C_logfile_records_1
  refine Calls.mono (calls_of_wpY (args := [yield, Value.pointer t1, Value.pointer t2]) (R := fun v w' => v = Value.tuple #[] ∧ R w') Try.func83 (c := c_logfile_records_1_0) (by kernel_rfl) 65 (by kernel_rfl) (by kernel_rfl) [(0, yield), (1, Value.pointer t1), (2, Value.pointer t2)] (by kernel_rfl) ?_) ?_
  · letI : Rnd := rndY Try.prog Try.f83 (fun v w' => v = Value.tuple #[] ∧ R w')
    refine wpE_seq (x := c_logfile_records_1_1) (y := c_logfile_records_1_3) (by kernel_rfl) ?_
    refine wpE_region (id := 0) (ops := r_logfile_records_1_1) (by kernel_rfl) ?_
    refine reg_run [] 0 [(0, [], yield), (1, [], Value.pointer t1), (2, [], Value.pointer t2)] (by kernel_rfl) (by kernel_rfl) ?_
    obtain ⟨hp_1, h⟩ := h
    refine reg_conv [(0, [], yield), (1, [], Value.pointer (some ⟨(pblk t1), (poff t1), none⟩)), (2, [], Value.pointer t2)] (congrArg (fun pp => ([(0, [], yield), (1, [], Value.pointer pp), (2, [], Value.pointer t2)] : GEnv)) hp_1) ?_
    obtain ⟨v11, hc, h⟩ := h
    refine reg_load1 (t := 22) (a := (Go.Operand.tmp 1)) (b := (pblk t1)) (o := (poff t1)) (ty := 22) (dst := some 11) (by kernel_rfl) (by kernel_rfl) (by kernel_rfl) hc ?_
    refine reg_run [] 1 [(0, [], yield), (1, [], Value.pointer (some ⟨(pblk t1), (poff t1), none⟩)), (2, [], Value.pointer t2), (11, [], Value.slice v11.ptr v11.len v11.cap)] (by kernel_rfl) (by kernel_rfl) ?_
    refine reg_enter (op := (Go.Op.call (Go.Call.mk (Go.Callee.value (Go.Operand.func 37)) #[(Go.Operand.tmp 11)] #[22]))) (ty := 82) (dst := some 12) 37 #[Value.slice v11.ptr v11.len v11.cap] (by kernel_rfl) (fun ww => by kernel_rfl) (Calls.mono h ?_)
    rintro _ w1 ⟨v12, rfl, h⟩
    refine ⟨_, rfl, ?_⟩
    refine reg_run [.plain] 3 [(0, [], yield), (1, [], Value.pointer (some ⟨(pblk t1), (poff t1), none⟩)), (2, [], Value.pointer t2), (4, [], Value.pointer v12)] (by kernel_rfl) (by kernel_rfl) ?_
    refine reg_conv [(0, [], yield), (1, [], Value.pointer t1), (2, [], Value.pointer t2), (4, [], Value.pointer v12)] (congrArg (fun pp => ([(0, [], yield), (1, [], Value.pointer pp), (2, [], Value.pointer t2), (4, [], Value.pointer v12)] : GEnv)) hp_1.symm) ?_
    refine reg_end [(0, yield), (1, Value.pointer t1), (2, Value.pointer t2), (4, Value.pointer v12)] (by kernel_rfl) (by kernel_rfl) ?_
    change WpE _ _ c_logfile_records_1_3 _ _ _
    refine wpE_seq (x := c_logfile_records_1_4) (y := c_logfile_records_1_6) (by kernel_rfl) ?_
    refine wpE_region (id := 1) (ops := r_logfile_records_1_4) (by kernel_rfl) ?_
    refine reg_run [] 0 [(0, [], yield), (1, [], Value.pointer t1), (2, [], Value.pointer t2), (4, [], Value.pointer v12)] (by kernel_rfl) (by kernel_rfl) ?_
    obtain ⟨hp_3, h⟩ := h
    refine reg_conv [(0, [], yield), (1, [], Value.pointer (some ⟨(pblk t1), (poff t1), none⟩)), (2, [], Value.pointer t2), (4, [], Value.pointer v12)] (congrArg (fun pp => ([(0, [], yield), (1, [], Value.pointer pp), (2, [], Value.pointer t2), (4, [], Value.pointer v12)] : GEnv)) hp_3) ?_
    obtain ⟨v13, hc, h⟩ := h
    refine reg_load1 (t := 22) (a := (Go.Operand.tmp 1)) (b := (pblk t1)) (o := (poff t1)) (ty := 22) (dst := some 13) (by kernel_rfl) (by kernel_rfl) (by kernel_rfl) hc ?_
    refine reg_run [.plain, .plain] 3 [(0, [], yield), (1, [], Value.pointer (some ⟨(pblk t1), (poff t1), none⟩)), (2, [], Value.pointer t2), (4, [], Value.pointer v12), (5, [], Value.int .i64 ((v13.len : Nat) : Int))] (by kernel_rfl) (by kernel_rfl) ?_
    refine reg_conv [(0, [], yield), (1, [], Value.pointer t1), (2, [], Value.pointer t2), (4, [], Value.pointer v12), (5, [], Value.int .i64 ((v13.len : Nat) : Int))] (congrArg (fun pp => ([(0, [], yield), (1, [], Value.pointer pp), (2, [], Value.pointer t2), (4, [], Value.pointer v12), (5, [], Value.int .i64 ((v13.len : Nat) : Int))] : GEnv)) hp_3.symm) ?_
    refine reg_end [(0, yield), (1, Value.pointer t1), (2, Value.pointer t2), (4, Value.pointer v12), (5, Value.int .i64 ((v13.len : Nat) : Int))] (by kernel_rfl) (by kernel_rfl) ?_
    change WpE _ _ c_logfile_records_1_6 _ _ _
    refine wpE_block (id := 0) (x := c_logfile_records_1_7) (by kernel_rfl) ?_
    obtain ⟨I, μ, h0, hr⟩ := h
    refine wpE_loop (x := c_logfile_records_1_8) (by kernel_rfl) (fun m l w => ∃ (left : Int), l = [(0, yield), (1, Value.pointer t1), (2, Value.pointer t2), (4, Value.pointer v12), (5, Value.int .i64 left)] ∧ I left w ∧ μ left w = m) (l' := [(0, yield), (1, Value.pointer t1), (2, Value.pointer t2), (4, Value.pointer v12), (5, Value.int .i64 ((v13.len : Nat) : Int))]) (Sub.mk (by kernel_rfl)) ⟨((v13.len : Nat) : Int), rfl, h0, rfl⟩ ?_
    rintro _ _ w2 ⟨left, rfl, hI, rfl⟩
    obtain ⟨again_, again__h, h⟩ : ∃ again_ : Int → World → Prop, (∀ left' w', again_ left' w' → I left' w' ∧ μ left' w' < μ left w2) ∧ F_logfile_records_1_L0 yield t1 t2 R v12 again_ left w2 := ⟨_, fun _ _ h => h, hr left w2 hI⟩
    clear h0 hI
    unfold F_logfile_records_1_L0 at h
    refine wpE_seq (x := c_logfile_records_1_9) (y := c_logfile_records_1_15) (by kernel_rfl) ?_
    refine wpE_seq (x := c_logfile_records_1_10) (y := c_logfile_records_1_12) (by kernel_rfl) ?_
    refine wpE_region (id := 2) (ops := r_logfile_records_1_10) (by kernel_rfl) ?_
    refine reg_run [.plain, .plain] 2 [(0, [], yield), (1, [], Value.pointer t1), (2, [], Value.pointer t2), (4, [], Value.pointer v12), (5, [], Value.int .i64 left), (16, [], Value.bool (decide (left > 0)))] (by kernel_rfl) (by kernel_rfl) ?_
    refine reg_end [(0, yield), (1, Value.pointer t1), (2, Value.pointer t2), (4, Value.pointer v12), (5, Value.int .i64 left), (16, Value.bool (decide (left > 0)))] (by kernel_rfl) (by kernel_rfl) ?_
    change WpE _ _ c_logfile_records_1_12 _ _ _
    refine wpE_cond (o := (Operand.tmp 16)) (b := (decide (left > 0))) (x := c_logfile_records_1_13) (y := c_logfile_records_1_14) (by kernel_rfl) (by kernel_rfl) (fun hb => ?_) (fun hb => ?_)
    · replace h := h.1 hb
      refine wpE_skip (by kernel_rfl) ?_
      change WpE _ _ c_logfile_records_1_15 _ _ _
      refine wpE_seq (x := c_logfile_records_1_16) (y := c_logfile_records_1_65) (by kernel_rfl) ?_
      refine wpE_block (id := 1) (x := c_logfile_records_1_17) (by kernel_rfl) ?_
      refine wpE_seq (x := c_logfile_records_1_18) (y := c_logfile_records_1_20) (by kernel_rfl) ?_
      refine wpE_region (id := 4) (ops := r_logfile_records_1_18) (by kernel_rfl) ?_
      refine reg_run [.plain] 1 [(0, [], yield), (1, [], Value.pointer t1), (2, [], Value.pointer t2), (4, [], Value.pointer v12), (5, [], Value.int .i64 left), (19, [], Value.pointer v12)] (by kernel_rfl) (by kernel_rfl) ?_
      refine reg_enter (op := (Go.Op.call (Go.Call.mk (Go.Callee.value (Go.Operand.func 45)) #[(Go.Operand.tmp 19), (Go.Operand.const (Go.Value.int Go.IntKind.i64 65536))] #[82, 3]))) (ty := 9) (dst := some 20) 45 #[Value.pointer v12, Value.int .i64 65536] (by kernel_rfl) (fun ww => by kernel_rfl) (Calls.mono h ?_)
      rintro _ w3 ⟨v20, rfl, h⟩
      refine ⟨_, rfl, ?_⟩
      refine reg_run [] 2 [(0, [], yield), (1, [], Value.pointer t1), (2, [], Value.pointer t2), (4, [], Value.pointer v12), (5, [], Value.int .i64 left), (20, [], Value.string v20)] (by kernel_rfl) (by kernel_rfl) ?_
      refine reg_ofString (t := 9) (d := 22) (e := 5) (x := (Go.Operand.tmp 20)) (str := v20) (ty := 22) (dst := some 21) (by kernel_rfl) (by kernel_rfl) (by kernel_rfl) (by kernel_rfl) (by kernel_rfl) (fun s w4 hs => ?_)
      replace h := h s w4 hs
      clear hs
      refine reg_run [.plain] 4 [(0, [], yield), (1, [], Value.pointer t1), (2, [], Value.pointer t2), (4, [], Value.pointer v12), (5, [], Value.int .i64 left), (6, [], Value.slice s.ptr s.len s.cap)] (by kernel_rfl) (by kernel_rfl) ?_
      refine reg_end [(0, yield), (1, Value.pointer t1), (2, Value.pointer t2), (4, Value.pointer v12), (5, Value.int .i64 left), (6, Value.slice s.ptr s.len s.cap)] (by kernel_rfl) (by kernel_rfl) ?_
      change WpE _ _ c_logfile_records_1_20 _ _ _
      refine wpE_seq (x := c_logfile_records_1_21) (y := c_logfile_records_1_23) (by kernel_rfl) ?_
      refine wpE_region (id := 5) (ops := r_logfile_records_1_21) (by kernel_rfl) ?_
      refine reg_run [.plain] 1 [(0, [], yield), (1, [], Value.pointer t1), (2, [], Value.pointer t2), (4, [], Value.pointer v12), (5, [], Value.int .i64 left), (6, [], Value.slice s.ptr s.len s.cap), (22, [], Value.pointer v12)] (by kernel_rfl) (by kernel_rfl) ?_
      refine reg_enter (op := (Go.Op.call (Go.Call.mk (Go.Callee.value (Go.Operand.func 39)) #[(Go.Operand.tmp 22)] #[82]))) (ty := 3) (dst := some 23) 39 #[Value.pointer v12] (by kernel_rfl) (fun ww => by kernel_rfl) (Calls.mono h ?_)
      rintro _ w5 ⟨v23, rfl, h⟩
      refine ⟨_, rfl, ?_⟩
      refine reg_run [.plain] 3 [(0, [], yield), (1, [], Value.pointer t1), (2, [], Value.pointer t2), (4, [], Value.pointer v12), (5, [], Value.int .i64 left), (6, [], Value.slice s.ptr s.len s.cap), (7, [], Value.int .i64 v23)] (by kernel_rfl) (by kernel_rfl) ?_
      refine reg_end [(0, yield), (1, Value.pointer t1), (2, Value.pointer t2), (4, Value.pointer v12), (5, Value.int .i64 left), (6, Value.slice s.ptr s.len s.cap), (7, Value.int .i64 v23)] (by kernel_rfl) (by kernel_rfl) ?_
      change WpE _ _ c_logfile_records_1_23 _ _ _
      refine wpE_seq (x := c_logfile_records_1_24) (y := c_logfile_records_1_26) (by kernel_rfl) ?_
      refine wpE_region (id := 6) (ops := r_logfile_records_1_24) (by kernel_rfl) ?_
      refine reg_run [.plain] 1 [(0, [], yield), (1, [], Value.pointer t1), (2, [], Value.pointer t2), (4, [], Value.pointer v12), (5, [], Value.int .i64 left), (6, [], Value.slice s.ptr s.len s.cap), (7, [], Value.int .i64 v23), (24, [], Value.pointer v12)] (by kernel_rfl) (by kernel_rfl) ?_
      refine reg_enter (op := (Go.Op.call (Go.Call.mk (Go.Callee.value (Go.Operand.func 44)) #[(Go.Operand.tmp 24), (Go.Operand.const (Go.Value.int Go.IntKind.i64 4))] #[82, 3]))) (ty := 86) (dst := some 25) 44 #[Value.pointer v12, Value.int .i64 4] (by kernel_rfl) (fun ww => by kernel_rfl) (Calls.mono h ?_)
      rintro _ w6 ⟨v25, rfl, h⟩
      refine ⟨_, rfl, ?_⟩
      refine reg_run [.plain] 3 [(0, [], yield), (1, [], Value.pointer t1), (2, [], Value.pointer t2), (4, [], Value.pointer v12), (5, [], Value.int .i64 left), (6, [], Value.slice s.ptr s.len s.cap), (7, [], Value.int .i64 v23), (8, [], Value.int .u64 v25)] (by kernel_rfl) (by kernel_rfl) ?_
      refine reg_end [(0, yield), (1, Value.pointer t1), (2, Value.pointer t2), (4, Value.pointer v12), (5, Value.int .i64 left), (6, Value.slice s.ptr s.len s.cap), (7, Value.int .i64 v23), (8, Value.int .u64 v25)] (by kernel_rfl) (by kernel_rfl) ?_
      change WpE _ _ c_logfile_records_1_26 _ _ _
      refine wpE_seq (x := c_logfile_records_1_27) (y := c_logfile_records_1_36) (by kernel_rfl) ?_
      refine wpE_seq_cut (x := c_logfile_records_1_28) (y := c_logfile_records_1_30) (by kernel_rfl) (fun l w => ∃ (t34 : Bool), l = [(0, yield), (1, Value.pointer t1), (2, Value.pointer t2), (4, Value.pointer v12), (6, Value.slice s.ptr s.len s.cap), (8, Value.int .u64 v25), (34, Value.bool t34)] ∧ F_logfile_records_1_k1 yield t1 t2 R v12 again_ s v25 t34 w) ?_ ?_
      · refine wpE_region (id := 7) (ops := r_logfile_records_1_28) (by kernel_rfl) ?_
        refine reg_run [.plain, .plain, .plain, .plain, .plain] 5 [(0, [], yield), (1, [], Value.pointer t1), (2, [], Value.pointer t2), (4, [], Value.pointer v12), (6, [], Value.slice s.ptr s.len s.cap), (7, [], Value.int .i64 v23), (8, [], Value.int .u64 v25), (29, [], Value.bool (v23 == left)), (30, [(29, false)], Value.pointer v12)] (by kernel_rfl) (by kernel_rfl) ?_
        refine reg_split 29 (v23 == left) (by kernel_rfl) (fun hb => ?_) (fun hb => ?_)
        · replace h := h.1 hb
          refine reg_run [] 5 [(0, [], yield), (1, [], Value.pointer t1), (2, [], Value.pointer t2), (4, [], Value.pointer v12), (6, [], Value.slice s.ptr s.len s.cap), (7, [], Value.int .i64 v23), (8, [], Value.int .u64 v25), (29, [], Value.bool true), (30, [], undef)] (by kernel_rfl) (by kernel_rfl) ?_
          refine reg_run [.skip, .skip, .skip, .plain] 9 [(0, [], yield), (1, [], Value.pointer t1), (2, [], Value.pointer t2), (4, [], Value.pointer v12), (6, [], Value.slice s.ptr s.len s.cap), (8, [], Value.int .u64 v25), (34, [], Value.bool true)] (by kernel_rfl) (by kernel_rfl) ?_
          refine reg_end [(0, yield), (1, Value.pointer t1), (2, Value.pointer t2), (4, Value.pointer v12), (6, Value.slice s.ptr s.len s.cap), (8, Value.int .u64 v25), (34, Value.bool true)] (by kernel_rfl) (by kernel_rfl) ?_
          exact ⟨[(0, yield), (1, Value.pointer t1), (2, Value.pointer t2), (4, Value.pointer v12), (6, Value.slice s.ptr s.len s.cap), (8, Value.int .u64 v25), (34, Value.bool true)], Sub.mk (by kernel_rfl), true, rfl, h⟩
        · replace h := h.2 hb
          refine reg_run [] 5 [(0, [], yield), (1, [], Value.pointer t1), (2, [], Value.pointer t2), (4, [], Value.pointer v12), (6, [], Value.slice s.ptr s.len s.cap), (7, [], Value.int .i64 v23), (8, [], Value.int .u64 v25), (29, [], Value.bool false), (30, [], Value.pointer v12)] (by kernel_rfl) (by kernel_rfl) ?_
          refine reg_run [] 5 [(0, [], yield), (1, [], Value.pointer t1), (2, [], Value.pointer t2), (4, [], Value.pointer v12), (6, [], Value.slice s.ptr s.len s.cap), (7, [], Value.int .i64 v23), (8, [], Value.int .u64 v25), (29, [], Value.bool false), (30, [], Value.pointer v12)] (by kernel_rfl) (by kernel_rfl) ?_
          refine reg_enter (op := (Go.Op.call (Go.Call.mk (Go.Callee.value (Go.Operand.func 39)) #[(Go.Operand.tmp 30)] #[82]))) (ty := 3) (dst := some 31) 39 #[Value.pointer v12] (by kernel_rfl) (fun ww => by kernel_rfl) (Calls.mono h ?_)
          rintro _ w21 ⟨v31, rfl, h⟩
          refine ⟨_, rfl, ?_⟩
          refine reg_run [.sure, .sure, .plain] 9 [(0, [], yield), (1, [], Value.pointer t1), (2, [], Value.pointer t2), (4, [], Value.pointer v12), (6, [], Value.slice s.ptr s.len s.cap), (8, [], Value.int .u64 v25), (34, [], Value.bool (v31 == v23))] (by kernel_rfl) (by kernel_rfl) ?_
          refine reg_end [(0, yield), (1, Value.pointer t1), (2, Value.pointer t2), (4, Value.pointer v12), (6, Value.slice s.ptr s.len s.cap), (8, Value.int .u64 v25), (34, Value.bool (v31 == v23))] (by kernel_rfl) (by kernel_rfl) ?_
          exact ⟨[(0, yield), (1, Value.pointer t1), (2, Value.pointer t2), (4, Value.pointer v12), (6, Value.slice s.ptr s.len s.cap), (8, Value.int .u64 v25), (34, Value.bool (v31 == v23))], Sub.mk (by kernel_rfl), (v31 == v23), rfl, h⟩
      · rintro _ w7 ⟨t34, rfl, h⟩
        unfold F_logfile_records_1_k1 at h
        refine wpE_cond (o := (Operand.tmp 34)) (b := t34) (x := c_logfile_records_1_31) (y := c_logfile_records_1_35) (by kernel_rfl) (by kernel_rfl) (fun hb => ?_) (fun hb => ?_)
        · replace h := h.1 hb
          refine wpE_seq (x := c_logfile_records_1_32) (y := c_logfile_records_1_34) (by kernel_rfl) ?_
          refine wpE_tailregionY (id := 8) (ops := r_logfile_records_1_32) (by kernel_rfl) 4 (by kernel_rfl) (by kernel_rfl) (by kernel_rfl) (fun w8 hw => ?_)
          replace h := h w8 hw
          clear hw
          refine qreg_run [] 0 [(2, [], Value.pointer t2), (4, [], Value.pointer v12)] (by kernel_rfl) (by kernel_rfl) ?_
          obtain ⟨hp_20, h⟩ := h
          refine qreg_conv [(2, [], Value.pointer (some ⟨(pblk t2), (poff t2), none⟩)), (4, [], Value.pointer v12)] (congrArg (fun pp => ([(2, [], Value.pointer pp), (4, [], Value.pointer v12)] : GEnv)) hp_20) ?_
          obtain ⟨v35, hc, h⟩ := h
          refine qreg_load1 (t := 110) (a := (Go.Operand.tmp 2)) (b := (pblk t2)) (o := (poff t2)) (ty := 110) (dst := some 35) (by kernel_rfl) (by kernel_rfl) (by kernel_rfl) hc ?_
          refine qreg_run [.plain] 2 [(35, [], Value.pointer v35), (36, [], Value.pointer v12)] (by kernel_rfl) (by kernel_rfl) ?_
          obtain ⟨v37, hq, h⟩ := h
          refine qreg_enterS (op := (Go.Op.call (Go.Call.mk (Go.Callee.value (Go.Operand.func 40)) #[(Go.Operand.tmp 36)] #[82]))) (ty := 29) (dst := some 37) 40 #[Value.pointer v12] (Value.int .i64 v37) (by kernel_rfl) (fun ww => by kernel_rfl) (Calls.mono hq (by rintro _ w'' ⟨_, rfl, rfl, hE⟩; exact ⟨rfl, hE⟩)) ?_
          clear hq
          refine qreg_run [] 3 [(35, [], Value.pointer v35), (37, [], Value.int .i64 v37)] (by kernel_rfl) (by kernel_rfl) ?_
          obtain ⟨hp_21, h⟩ := h
          refine qreg_conv [(35, [], Value.pointer (some ⟨(pblk v35), (poff v35), none⟩)), (37, [], Value.int .i64 v37)] (congrArg (fun pp => ([(35, [], Value.pointer pp), (37, [], Value.int .i64 v37)] : GEnv)) hp_21) ?_
          refine qreg_run [.plain] 4 [(35, [], Value.pointer (some ⟨(pblk v35), (poff v35), none⟩)), (37, [], Value.int .i64 v37), (38, [], Value.pointer (some ⟨(pblk v35), (poff v35), none⟩))] (by kernel_rfl) (by kernel_rfl) ?_
          refine qreg_run [] 4 [(37, [], Value.int .i64 v37), (38, [], Value.pointer (some ⟨(pblk v35), (poff v35), none⟩))] (by kernel_rfl) (by kernel_rfl) ?_
          refine qreg_tailY (by kernel_rfl) ?_
          refine reg_run [] 4 [(37, [], Value.int .i64 v37), (38, [], Value.pointer (some ⟨(pblk v35), (poff v35), none⟩))] (by kernel_rfl) (by kernel_rfl) ?_
          obtain ⟨hc, h⟩ := h
          refine reg_store (t := 29) (a := (Go.Operand.tmp 38)) (x := (Go.Operand.tmp 37)) (b := (pblk v35)) (o := (poff v35)) (ty := 0) (dst := none) [Value.int .i64 v37] (by kernel_rfl) (by kernel_rfl) (by kernel_rfl) (k := 1) (by kernel_rfl) (by kernel_rfl) (by kernel_rfl) hc (fun w10 hw => ?_)
          replace h := h w10 hw
          clear hw
          refine reg_end [] (by kernel_rfl) (by kernel_rfl) ?_
          change WpE _ _ c_logfile_records_1_34 _ _ _
          refine wpE_ret (by kernel_rfl) ?_
          repeat (first | refine seqQ_ret ?_ | refine blockQ_ret ?_ | refine loopQ_ret ?_ | refine cutQ_ret ?_)
          exact retT (rs := []) (vs := []) (by kernel_rfl) (trivial) (by kernel_rfl) ⟨rfl, h⟩
        · replace h := h.2 hb
          refine wpE_skip (by kernel_rfl) ?_
          change WpE _ _ c_logfile_records_1_36 _ _ _
          refine wpE_seq (x := c_logfile_records_1_37) (y := c_logfile_records_1_46) (by kernel_rfl) ?_
          refine wpE_seq (x := c_logfile_records_1_38) (y := c_logfile_records_1_40) (by kernel_rfl) ?_
          refine wpE_region (id := 9) (ops := r_logfile_records_1_38) (by kernel_rfl) ?_
          refine reg_run [.plain, .plain, .plain] 3 [(0, [], yield), (1, [], Value.pointer t1), (2, [], Value.pointer t2), (4, [], Value.pointer v12), (6, [], Value.slice s.ptr s.len s.cap), (40, [], Value.int .u32 (IntKind.u32.wrap v25)), (41, [], Value.slice s.ptr s.len s.cap)] (by kernel_rfl) (by kernel_rfl) ?_
          refine reg_enter (op := (Go.Op.call (Go.Call.mk (Go.Callee.value (Go.Operand.func 54)) #[(Go.Operand.tmp 41)] #[22]))) (ty := 38) (dst := some 42) 54 #[Value.slice s.ptr s.len s.cap] (by kernel_rfl) (fun ww => by kernel_rfl) (Calls.mono h ?_)
          rintro _ w11 ⟨v42, rfl, h⟩
          refine ⟨_, rfl, ?_⟩
          refine reg_run [.plain] 5 [(0, [], yield), (1, [], Value.pointer t1), (2, [], Value.pointer t2), (4, [], Value.pointer v12), (6, [], Value.slice s.ptr s.len s.cap), (43, [], Value.bool ((IntKind.u32.wrap v25) != v42))] (by kernel_rfl) (by kernel_rfl) ?_
          refine reg_end [(0, yield), (1, Value.pointer t1), (2, Value.pointer t2), (4, Value.pointer v12), (6, Value.slice s.ptr s.len s.cap), (43, Value.bool ((IntKind.u32.wrap v25) != v42))] (by kernel_rfl) (by kernel_rfl) ?_
          change WpE _ _ c_logfile_records_1_40 _ _ _
          refine wpE_cond (o := (Operand.tmp 43)) (b := ((IntKind.u32.wrap v25) != v42)) (x := c_logfile_records_1_41) (y := c_logfile_records_1_45) (by kernel_rfl) (by kernel_rfl) (fun hb => ?_) (fun hb => ?_)
          · replace h := h.1 hb
            refine wpE_seq (x := c_logfile_records_1_42) (y := c_logfile_records_1_44) (by kernel_rfl) ?_
            refine wpE_region (id := 10) (ops := r_logfile_records_1_42) (by kernel_rfl) ?_
            refine reg_run [] 0 [(2, [], Value.pointer t2)] (by kernel_rfl) (by kernel_rfl) ?_
            obtain ⟨hp_24, h⟩ := h
            refine reg_conv [(2, [], Value.pointer (some ⟨(pblk t2), (poff t2), none⟩))] (congrArg (fun pp => ([(2, [], Value.pointer pp)] : GEnv)) hp_24) ?_
            obtain ⟨v44, hc, h⟩ := h
            refine reg_load1 (t := 110) (a := (Go.Operand.tmp 2)) (b := (pblk t2)) (o := (poff t2)) (ty := 110) (dst := some 44) (by kernel_rfl) (by kernel_rfl) (by kernel_rfl) hc ?_
            refine reg_run [] 1 [(44, [], Value.pointer v44)] (by kernel_rfl) (by kernel_rfl) ?_
            obtain ⟨hp_25, h⟩ := h
            refine reg_conv [(44, [], Value.pointer (some ⟨(pblk v44), (poff v44), none⟩))] (congrArg (fun pp => ([(44, [], Value.pointer pp)] : GEnv)) hp_25) ?_
            refine reg_run [.plain] 2 [(44, [], Value.pointer (some ⟨(pblk v44), (poff v44), none⟩)), (45, [], Value.pointer (some ⟨(pblk v44), (poff v44), none⟩))] (by kernel_rfl) (by kernel_rfl) ?_
            refine reg_run [] 2 [(45, [], Value.pointer (some ⟨(pblk v44), (poff v44), none⟩))] (by kernel_rfl) (by kernel_rfl) ?_
            obtain ⟨hc, h⟩ := h
            refine reg_store (t := 29) (a := (Go.Operand.tmp 45)) (x := (Go.Operand.const (Go.Value.int Go.IntKind.i64 4))) (b := (pblk v44)) (o := (poff v44)) (ty := 0) (dst := none) [Value.int .i64 4] (by kernel_rfl) (by kernel_rfl) (by kernel_rfl) (k := 1) (by kernel_rfl) (by kernel_rfl) (by kernel_rfl) hc (fun w12 hw => ?_)
            replace h := h w12 hw
            clear hw
            refine reg_end [] (by kernel_rfl) (by kernel_rfl) ?_
            change WpE _ _ c_logfile_records_1_44 _ _ _
            refine wpE_ret (by kernel_rfl) ?_
            repeat (first | refine seqQ_ret ?_ | refine blockQ_ret ?_ | refine loopQ_ret ?_ | refine cutQ_ret ?_)
            exact retT (rs := []) (vs := []) (by kernel_rfl) (trivial) (by kernel_rfl) ⟨rfl, h⟩
          · replace h := h.2 hb
            refine wpE_skip (by kernel_rfl) ?_
            change WpE _ _ c_logfile_records_1_46 _ _ _
            refine wpE_seq (x := c_logfile_records_1_47) (y := c_logfile_records_1_49) (by kernel_rfl) ?_
            refine wpE_region (id := 11) (ops := r_logfile_records_1_47) (by kernel_rfl) ?_
            refine reg_run [.plain] 1 [(0, [], yield), (1, [], Value.pointer t1), (2, [], Value.pointer t2), (4, [], Value.pointer v12), (47, [], Value.slice s.ptr s.len s.cap)] (by kernel_rfl) (by kernel_rfl) ?_
            refine reg_enter (op := (Go.Op.call (Go.Call.mk (Go.Callee.value (Go.Operand.func 84)) #[(Go.Operand.tmp 47)] #[22]))) (ty := 56) (dst := some 48) 84 #[Value.slice s.ptr s.len s.cap] (by kernel_rfl) (fun ww => by kernel_rfl) (Calls.mono h ?_)
            rintro _ w13 ⟨v48, f, rfl, h⟩
            refine ⟨_, rfl, ?_⟩
            refine reg_run [.plain, .plain, .plain] 5 [(0, [], yield), (1, [], Value.pointer t1), (2, [], Value.pointer t2), (4, [], Value.pointer v12), (49, [], Value.agg #[Value.int .i64 v48.Number, Value.slice v48.Writes.ptr v48.Writes.len v48.Writes.cap]), (50, [], Value.int .i64 f)] (by kernel_rfl) (by kernel_rfl) ?_
            refine reg_new (op := (Go.Op.alloc 49)) (ty := 0) (dst := some 9) (fun bb => Value.pointer (some ⟨bb, 0, none⟩)) (Obj.cells ([Value.int .i64 0, Value.slice none 0 0]).toArray ty_api_Txn (0, 0)) (by kernel_rfl) (by kernel_rfl) (fun b_ w14 hb hw => ?_)
            replace h := h b_ w14 hb hw
            clear hb hw
            refine reg_run [] 6 [(0, [], yield), (1, [], Value.pointer t1), (2, [], Value.pointer t2), (4, [], Value.pointer v12), (9, [], Value.pointer (some ⟨b_, 0, none⟩)), (49, [], Value.agg #[Value.int .i64 v48.Number, Value.slice v48.Writes.ptr v48.Writes.len v48.Writes.cap]), (50, [], Value.int .i64 f)] (by kernel_rfl) (by kernel_rfl) ?_
            obtain ⟨hc, h⟩ := h
            refine reg_store (t := 49) (a := (Go.Operand.tmp 9)) (x := (Go.Operand.tmp 49)) (b := b_) (o := 0) (ty := 0) (dst := none) [Value.int .i64 v48.Number, Value.slice v48.Writes.ptr v48.Writes.len v48.Writes.cap] (by kernel_rfl) (by kernel_rfl) (by kernel_rfl) (k := 2) (by kernel_rfl) (by kernel_rfl) (by kernel_rfl) hc (fun w15 hw => ?_)
            replace h := h w15 hw
            clear hw
            refine reg_run [.plain] 8 [(0, [], yield), (1, [], Value.pointer t1), (2, [], Value.pointer t2), (4, [], Value.pointer v12), (9, [], Value.pointer (some ⟨b_, 0, none⟩)), (10, [], Value.int .i64 f)] (by kernel_rfl) (by kernel_rfl) ?_
            refine reg_end [(0, yield), (1, Value.pointer t1), (2, Value.pointer t2), (4, Value.pointer v12), (9, Value.pointer (some ⟨b_, 0, none⟩)), (10, Value.int .i64 f)] (by kernel_rfl) (by kernel_rfl) ?_
            change WpE _ _ c_logfile_records_1_49 _ _ _
            refine wpE_seq (x := c_logfile_records_1_50) (y := c_logfile_records_1_59) (by kernel_rfl) ?_
            refine wpE_seq (x := c_logfile_records_1_51) (y := c_logfile_records_1_53) (by kernel_rfl) ?_
            refine wpE_region (id := 12) (ops := r_logfile_records_1_51) (by kernel_rfl) ?_
            refine reg_run [.plain, .plain] 2 [(0, [], yield), (1, [], Value.pointer t1), (2, [], Value.pointer t2), (4, [], Value.pointer v12), (9, [], Value.pointer (some ⟨b_, 0, none⟩)), (10, [], Value.int .i64 f), (52, [], Value.bool (f != 0))] (by kernel_rfl) (by kernel_rfl) ?_
            refine reg_end [(0, yield), (1, Value.pointer t1), (2, Value.pointer t2), (4, Value.pointer v12), (9, Value.pointer (some ⟨b_, 0, none⟩)), (10, Value.int .i64 f), (52, Value.bool (f != 0))] (by kernel_rfl) (by kernel_rfl) ?_
            change WpE _ _ c_logfile_records_1_53 _ _ _
            refine wpE_cond (o := (Operand.tmp 52)) (b := (f != 0)) (x := c_logfile_records_1_54) (y := c_logfile_records_1_58) (by kernel_rfl) (by kernel_rfl) (fun hb => ?_) (fun hb => ?_)
            · replace h := h.1 hb
              refine wpE_seq (x := c_logfile_records_1_55) (y := c_logfile_records_1_57) (by kernel_rfl) ?_
              refine wpE_region (id := 13) (ops := r_logfile_records_1_55) (by kernel_rfl) ?_
              refine reg_run [] 0 [(2, [], Value.pointer t2), (10, [], Value.int .i64 f)] (by kernel_rfl) (by kernel_rfl) ?_
              obtain ⟨hp_28, h⟩ := h
              refine reg_conv [(2, [], Value.pointer (some ⟨(pblk t2), (poff t2), none⟩)), (10, [], Value.int .i64 f)] (congrArg (fun pp => ([(2, [], Value.pointer pp), (10, [], Value.int .i64 f)] : GEnv)) hp_28) ?_
              obtain ⟨v53, hc, h⟩ := h
              refine reg_load1 (t := 110) (a := (Go.Operand.tmp 2)) (b := (pblk t2)) (o := (poff t2)) (ty := 110) (dst := some 53) (by kernel_rfl) (by kernel_rfl) (by kernel_rfl) hc ?_
              refine reg_run [.plain] 2 [(53, [], Value.pointer v53), (54, [], Value.int .i64 f)] (by kernel_rfl) (by kernel_rfl) ?_
              obtain ⟨hp_29, h⟩ := h
              refine reg_conv [(53, [], Value.pointer (some ⟨(pblk v53), (poff v53), none⟩)), (54, [], Value.int .i64 f)] (congrArg (fun pp => ([(53, [], Value.pointer pp), (54, [], Value.int .i64 f)] : GEnv)) hp_29) ?_
              refine reg_run [.plain] 3 [(53, [], Value.pointer (some ⟨(pblk v53), (poff v53), none⟩)), (54, [], Value.int .i64 f), (55, [], Value.pointer (some ⟨(pblk v53), (poff v53), none⟩))] (by kernel_rfl) (by kernel_rfl) ?_
              refine reg_run [] 3 [(54, [], Value.int .i64 f), (55, [], Value.pointer (some ⟨(pblk v53), (poff v53), none⟩))] (by kernel_rfl) (by kernel_rfl) ?_
              obtain ⟨hc, h⟩ := h
              refine reg_store (t := 29) (a := (Go.Operand.tmp 55)) (x := (Go.Operand.tmp 54)) (b := (pblk v53)) (o := (poff v53)) (ty := 0) (dst := none) [Value.int .i64 f] (by kernel_rfl) (by kernel_rfl) (by kernel_rfl) (k := 1) (by kernel_rfl) (by kernel_rfl) (by kernel_rfl) hc (fun w16 hw => ?_)
              replace h := h w16 hw
              clear hw
              refine reg_end [] (by kernel_rfl) (by kernel_rfl) ?_
              change WpE _ _ c_logfile_records_1_57 _ _ _
              refine wpE_ret (by kernel_rfl) ?_
              repeat (first | refine seqQ_ret ?_ | refine blockQ_ret ?_ | refine loopQ_ret ?_ | refine cutQ_ret ?_)
              exact retT (rs := []) (vs := []) (by kernel_rfl) (trivial) (by kernel_rfl) ⟨rfl, h⟩
            · replace h := h.2 hb
              refine wpE_skip (by kernel_rfl) ?_
              change WpE _ _ c_logfile_records_1_59 _ _ _
              refine wpE_seq (x := c_logfile_records_1_60) (y := c_logfile_records_1_62) (by kernel_rfl) ?_
              refine wpE_tailregionY (id := 14) (ops := r_logfile_records_1_60) (by kernel_rfl) 7 (by kernel_rfl) (by kernel_rfl) (by kernel_rfl) (fun w17 hw => ?_)
              replace h := h w17 hw
              clear hw
              refine qreg_run [.plain] 1 [(0, [], yield), (1, [], Value.pointer t1), (2, [], Value.pointer t2), (4, [], Value.pointer v12), (9, [], Value.pointer (some ⟨b_, 0, none⟩)), (56, [], yield)] (by kernel_rfl) (by kernel_rfl) ?_
              obtain ⟨hp_31, h⟩ := h
              refine qreg_conv [(0, [], yield), (1, [], Value.pointer (some ⟨(pblk t1), (poff t1), none⟩)), (2, [], Value.pointer t2), (4, [], Value.pointer v12), (9, [], Value.pointer (some ⟨b_, 0, none⟩)), (56, [], yield)] (congrArg (fun pp => ([(0, [], yield), (1, [], Value.pointer pp), (2, [], Value.pointer t2), (4, [], Value.pointer v12), (9, [], Value.pointer (some ⟨b_, 0, none⟩)), (56, [], yield)] : GEnv)) hp_31) ?_
              obtain ⟨v57, hc, h⟩ := h
              refine qreg_load1 (t := 22) (a := (Go.Operand.tmp 1)) (b := (pblk t1)) (o := (poff t1)) (ty := 22) (dst := some 57) (by kernel_rfl) (by kernel_rfl) (by kernel_rfl) hc ?_
              refine qreg_run [.plain, .plain] 4 [(0, [], yield), (1, [], Value.pointer (some ⟨(pblk t1), (poff t1), none⟩)), (2, [], Value.pointer t2), (4, [], Value.pointer v12), (9, [], Value.pointer (some ⟨b_, 0, none⟩)), (56, [], yield), (58, [], Value.int .i64 ((v57.len : Nat) : Int)), (59, [], Value.pointer v12)] (by kernel_rfl) (by kernel_rfl) ?_
              obtain ⟨v60, hq, h⟩ := h
              refine qreg_enterS (op := (Go.Op.call (Go.Call.mk (Go.Callee.value (Go.Operand.func 39)) #[(Go.Operand.tmp 59)] #[82]))) (ty := 3) (dst := some 60) 39 #[Value.pointer v12] (Value.int .i64 v60) (by kernel_rfl) (fun ww => by kernel_rfl) (Calls.mono hq (by rintro _ w'' ⟨_, rfl, rfl, hE⟩; exact ⟨rfl, hE⟩)) ?_
              clear hq
              refine qreg_run [.plain] 6 [(0, [], yield), (1, [], Value.pointer (some ⟨(pblk t1), (poff t1), none⟩)), (2, [], Value.pointer t2), (4, [], Value.pointer v12), (9, [], Value.pointer (some ⟨b_, 0, none⟩)), (56, [], yield), (61, [], Value.int .i64 (IntKind.i64.wrap (((v57.len : Nat) : Int) - v60)))] (by kernel_rfl) (by kernel_rfl) ?_
              obtain ⟨v62, hc, h⟩ := h
              refine qreg_loadN (t := 49) (a := (Go.Operand.tmp 9)) (b := b_) (o := 0) (ty := 49) (dst := some 62) [Value.int .i64 v62.Number, Value.slice v62.Writes.ptr v62.Writes.len v62.Writes.cap] (by kernel_rfl) (by kernel_rfl) (by kernel_rfl) (k := 2) (by kernel_rfl) (by kernel_rfl) hc ?_
              refine qreg_run [] 7 [(0, [], yield), (1, [], Value.pointer (some ⟨(pblk t1), (poff t1), none⟩)), (2, [], Value.pointer t2), (4, [], Value.pointer v12), (56, [], yield), (61, [], Value.int .i64 (IntKind.i64.wrap (((v57.len : Nat) : Int) - v60))), (62, [], Value.agg #[Value.int .i64 v62.Number, Value.slice v62.Writes.ptr v62.Writes.len v62.Writes.cap])] (by kernel_rfl) (by kernel_rfl) ?_
              refine qreg_tailY (by kernel_rfl) ?_
              refine reg_run [] 7 [(0, [], yield), (1, [], Value.pointer (some ⟨(pblk t1), (poff t1), none⟩)), (2, [], Value.pointer t2), (4, [], Value.pointer v12), (56, [], yield), (61, [], Value.int .i64 (IntKind.i64.wrap (((v57.len : Nat) : Int) - v60))), (62, [], Value.agg #[Value.int .i64 v62.Number, Value.slice v62.Writes.ptr v62.Writes.len v62.Writes.cap])] (by kernel_rfl) (by kernel_rfl) ?_
              refine reg_enterY rfl (fo := (Go.Operand.tmp 56)) (aa := #[(Go.Operand.tmp 61), (Go.Operand.tmp 62)]) (ts := #[3, 49]) (fv := yield) (ty := 4) (dst := some 63) #[Value.int .i64 (IntKind.i64.wrap (((v57.len : Nat) : Int) - v60)), Value.agg #[Value.int .i64 v62.Number, Value.slice v62.Writes.ptr v62.Writes.len v62.Writes.cap]] (by kernel_rfl) (by kernel_rfl) (by kernel_rfl) (CallsY.mono h ?_)
              rintro _ w19 ⟨v63, rfl, h⟩
              refine ⟨_, rfl, ?_⟩
              refine reg_run [.plain] 9 [(0, [], yield), (1, [], Value.pointer (some ⟨(pblk t1), (poff t1), none⟩)), (2, [], Value.pointer t2), (4, [], Value.pointer v12), (64, [], Value.bool (!v63))] (by kernel_rfl) (by kernel_rfl) ?_
              refine reg_conv [(0, [], yield), (1, [], Value.pointer t1), (2, [], Value.pointer t2), (4, [], Value.pointer v12), (64, [], Value.bool (!v63))] (congrArg (fun pp => ([(0, [], yield), (1, [], Value.pointer pp), (2, [], Value.pointer t2), (4, [], Value.pointer v12), (64, [], Value.bool (!v63))] : GEnv)) hp_31.symm) ?_
              refine reg_end [(0, yield), (1, Value.pointer t1), (2, Value.pointer t2), (4, Value.pointer v12), (64, Value.bool (!v63))] (by kernel_rfl) (by kernel_rfl) ?_
              change WpE _ _ c_logfile_records_1_62 _ _ _
              refine wpE_cond (o := (Operand.tmp 64)) (b := (!v63)) (x := c_logfile_records_1_63) (y := c_logfile_records_1_64) (by kernel_rfl) (by kernel_rfl) (fun hb => ?_) (fun hb => ?_)
              · replace h := h.1 hb
                refine wpE_ret (by kernel_rfl) ?_
                repeat (first | refine seqQ_ret ?_ | refine blockQ_ret ?_ | refine loopQ_ret ?_ | refine cutQ_ret ?_)
                exact retT (rs := []) (vs := []) (by kernel_rfl) (trivial) (by kernel_rfl) ⟨rfl, h⟩
              · replace h := h.2 hb
                refine wpE_skip (by kernel_rfl) ?_
                change WpE _ _ c_logfile_records_1_65 _ _ _
                refine wpE_region (id := 3) (ops := r_logfile_records_1_65) (by kernel_rfl) ?_
                refine reg_run [.plain] 1 [(0, [], yield), (1, [], Value.pointer t1), (2, [], Value.pointer t2), (4, [], Value.pointer v12), (17, [], Value.pointer v12)] (by kernel_rfl) (by kernel_rfl) ?_
                refine reg_enter (op := (Go.Op.call (Go.Call.mk (Go.Callee.value (Go.Operand.func 39)) #[(Go.Operand.tmp 17)] #[82]))) (ty := 3) (dst := some 18) 39 #[Value.pointer v12] (by kernel_rfl) (fun ww => by kernel_rfl) (Calls.mono h ?_)
                rintro _ w20 ⟨v18, rfl, h⟩
                refine ⟨_, rfl, ?_⟩
                refine reg_run [.plain] 3 [(0, [], yield), (1, [], Value.pointer t1), (2, [], Value.pointer t2), (4, [], Value.pointer v12), (5, [], Value.int .i64 v18)] (by kernel_rfl) (by kernel_rfl) ?_
                refine reg_end [(0, yield), (1, Value.pointer t1), (2, Value.pointer t2), (4, Value.pointer v12), (5, Value.int .i64 v18)] (by kernel_rfl) (by kernel_rfl) ?_
                have hb_ := again__h _ _ h
                exact ⟨_, hb_.2, [(0, yield), (1, Value.pointer t1), (2, Value.pointer t2), (4, Value.pointer v12), (5, Value.int .i64 v18)], Sub.mk (by kernel_rfl), v18, rfl, hb_.1, rfl⟩
    · replace h := h.2 hb
      refine wpE_exit (id := 0) (by kernel_rfl) ?_
      repeat (first | refine seqQ_exit ?_ | refine loopQ_exit ?_ | refine cutQ_exit ?_ | refine blockQ_hit ?_ | refine blockQ_miss (by kernel_rfl) ?_)
      refine retQ_normal ?_
      repeat (first | refine seqQ_ret ?_ | refine blockQ_ret ?_ | refine loopQ_ret ?_ | refine cutQ_ret ?_)
      exact retT (rs := []) (vs := []) (by kernel_rfl) (trivial) (by kernel_rfl) ⟨rfl, h⟩
  · rintro e w' ⟨v, rfl, rfl, h⟩; exact ⟨rfl, h⟩
end Go.Proofs.Ytpdegdnigcnjiaa
