/- WRITTEN BY PROGRAM (dec.py): for each Go function the clean formula F, the call's contract C, and the proof S that F gives C. -/
import Derived.Test.YtpdegdnigcnjiaaRows
import Derived.Test.YtpdegdnigcnjiaaGF
namespace Go.Proofs.Ytpdegdnigcnjiaa
open Go
set_option linter.unusedVariables false

/-! ### towpath/record.Decode$1 (function 91) -/
noncomputable def c_record_Decode_1_0 : Code := (Try.f91.body).getD Code.skip
noncomputable def c_record_Decode_1_1 : Code := Code.l c_record_Decode_1_0
noncomputable def r_record_Decode_1_1 : Array Oper := Code.ops c_record_Decode_1_1
noncomputable def c_record_Decode_1_3 : Code := Code.r c_record_Decode_1_0
noncomputable def c_record_Decode_1_4 : Code := Code.l c_record_Decode_1_3
noncomputable def c_record_Decode_1_5 : Code := Code.l c_record_Decode_1_4
noncomputable def r_record_Decode_1_5 : Array Oper := Code.ops c_record_Decode_1_5
noncomputable def c_record_Decode_1_7 : Code := Code.r c_record_Decode_1_4
noncomputable def c_record_Decode_1_8 : Code := Code.l c_record_Decode_1_7
noncomputable def c_record_Decode_1_9 : Code := Code.l c_record_Decode_1_8
noncomputable def r_record_Decode_1_9 : Array Oper := Code.ops c_record_Decode_1_9
noncomputable def c_record_Decode_1_11 : Code := Code.r c_record_Decode_1_8
noncomputable def c_record_Decode_1_12 : Code := Code.r c_record_Decode_1_7
noncomputable def c_record_Decode_1_13 : Code := Code.r c_record_Decode_1_3
noncomputable def c_record_Decode_1_14 : Code := Code.l c_record_Decode_1_13
noncomputable def r_record_Decode_1_14 : Array Oper := Code.ops c_record_Decode_1_14
noncomputable def c_record_Decode_1_16 : Code := Code.r c_record_Decode_1_13
noncomputable def c_record_Decode_1_17 : Code := Code.l c_record_Decode_1_16
noncomputable def c_record_Decode_1_18 : Code := Code.l c_record_Decode_1_17
noncomputable def r_record_Decode_1_18 : Array Oper := Code.ops c_record_Decode_1_18
noncomputable def c_record_Decode_1_20 : Code := Code.r c_record_Decode_1_17
noncomputable def c_record_Decode_1_21 : Code := Code.l c_record_Decode_1_20
noncomputable def c_record_Decode_1_22 : Code := Code.l c_record_Decode_1_21
noncomputable def r_record_Decode_1_22 : Array Oper := Code.ops c_record_Decode_1_22
noncomputable def c_record_Decode_1_24 : Code := Code.r c_record_Decode_1_21
noncomputable def c_record_Decode_1_25 : Code := Code.r c_record_Decode_1_20
noncomputable def c_record_Decode_1_26 : Code := Code.r c_record_Decode_1_16
noncomputable def c_record_Decode_1_27 : Code := Code.l c_record_Decode_1_26
noncomputable def r_record_Decode_1_27 : Array Oper := Code.ops c_record_Decode_1_27
noncomputable def c_record_Decode_1_29 : Code := Code.r c_record_Decode_1_26
def o_record_Decode_1_5 : List Nat := [0, 2, 1, 3]

set_option maxRecDepth 100000 in
set_option maxHeartbeats 4000000 in
theorem S_record_Decode_1 {is : Bool} {e : Int} {t2 : Option Addr} {t3 : Option Addr} {w : World} {R : Int → World → Prop} (h : F_record_Decode_1 is e t2 t3 R w) : C_record_Decode_1 is e t2 t3 w R := by
  unfold F_record_Decode_1 at h
  unfold C_record_Decode_1
  refine Calls.mono (calls_of_wpE (args := [Value.bool is, Value.int .i64 e, Value.pointer t2, Value.pointer t3]) (R := fun v w' => ∃ (r0 : Int), v = Value.int .i64 r0 ∧ R r0 w') Try.func91 (c := c_record_Decode_1_0) (by kernel_rfl) 17 (by kernel_rfl) (by kernel_rfl) [(0, Value.bool is), (1, Value.int .i64 e), (2, Value.pointer t2), (3, Value.pointer t3)] (by kernel_rfl) ?_) ?_
  · refine wpE_seq (x := c_record_Decode_1_1) (y := c_record_Decode_1_3) (by kernel_rfl) ?_
    refine wpE_region (id := 0) (ops := r_record_Decode_1_1) (by kernel_rfl) ?_
    refine reg_run [.plain] 1 [(0, [], Value.bool is), (1, [], Value.int .i64 e), (2, [], Value.pointer t2), (3, [], Value.pointer t3)] (by kernel_rfl) (by kernel_rfl) ?_
    refine reg_end [(0, Value.bool is), (1, Value.int .i64 e), (2, Value.pointer t2), (3, Value.pointer t3)] (by kernel_rfl) (by kernel_rfl) ?_
    change WpE _ _ c_record_Decode_1_3 _ _ _
    refine wpE_seq (x := c_record_Decode_1_4) (y := c_record_Decode_1_13) (by kernel_rfl) ?_
    refine wpE_seq (x := c_record_Decode_1_5) (y := c_record_Decode_1_7) (by kernel_rfl) ?_
    refine wpE_mixregion (id := 1) (ops := r_record_Decode_1_5) o_record_Decode_1_5 (by kernel_rfl) (by kernel_rfl) (by kernel_rfl) (by kernel_rfl) (fun w1 hw => ?_)
    replace h := h w1 hw
    clear hw
    refine mreg_run [] 0 [(0, [], Value.bool is), (1, [], Value.int .i64 e), (2, [], Value.pointer t2), (3, [], Value.pointer t3)] (by kernel_rfl) (by kernel_rfl) ?_
    obtain ⟨hp_7, h⟩ := h
    refine mreg_conv [(0, [], Value.bool is), (1, [], Value.int .i64 e), (2, [], Value.pointer (some ⟨(pblk t2), (poff t2), none⟩)), (3, [], Value.pointer t3)] (congrArg (fun pp => ([(0, [], Value.bool is), (1, [], Value.int .i64 e), (2, [], Value.pointer pp), (3, [], Value.pointer t3)] : GEnv)) hp_7) ?_
    obtain ⟨v7, hc, h⟩ := h
    refine mreg_load1 (i := 0) (by kernel_rfl) (t := 82) (a := (Go.Operand.tmp 2)) (b := (pblk t2)) (o := (poff t2)) (ty := 82) (dst := some 7) (by kernel_rfl) (by kernel_rfl) (by kernel_rfl) hc ?_
    refine mreg_run [] 1 [(0, [], Value.bool is), (1, [], Value.int .i64 e), (2, [], Value.pointer (some ⟨(pblk t2), (poff t2), none⟩)), (3, [], Value.pointer t3), (7, [], Value.pointer v7)] (by kernel_rfl) (by kernel_rfl) ?_
    obtain ⟨hp_8, h⟩ := h
    refine mreg_conv [(0, [], Value.bool is), (1, [], Value.int .i64 e), (2, [], Value.pointer (some ⟨(pblk t2), (poff t2), none⟩)), (3, [], Value.pointer (some ⟨(pblk t3), (poff t3), none⟩)), (7, [], Value.pointer v7)] (congrArg (fun pp => ([(0, [], Value.bool is), (1, [], Value.int .i64 e), (2, [], Value.pointer (some ⟨(pblk t2), (poff t2), none⟩)), (3, [], Value.pointer pp), (7, [], Value.pointer v7)] : GEnv)) hp_8) ?_
    obtain ⟨v9, hc, h⟩ := h
    refine mreg_load1 (i := 2) (by kernel_rfl) (t := 3) (a := (Go.Operand.tmp 3)) (b := (pblk t3)) (o := (poff t3)) (ty := 3) (dst := some 9) (by kernel_rfl) (by kernel_rfl) (by kernel_rfl) hc ?_
    refine mreg_run [] 2 [(0, [], Value.bool is), (1, [], Value.int .i64 e), (2, [], Value.pointer (some ⟨(pblk t2), (poff t2), none⟩)), (3, [], Value.pointer (some ⟨(pblk t3), (poff t3), none⟩)), (7, [], Value.pointer v7), (9, [], Value.int .i64 v9)] (by kernel_rfl) (by kernel_rfl) ?_
    refine mreg_enter (op := (Go.Op.call (Go.Call.mk (Go.Callee.value (Go.Operand.func 39)) #[(Go.Operand.tmp 7)] #[82]))) (ty := 3) (dst := some 8) 1 [0] [(2, fun w' => w'.cell? ⟨(pblk t3), (poff t3), none⟩ = some (Value.int .i64 v9))] 39 #[Value.pointer v7] (by kernel_rfl) (by kernel_rfl) (by kernel_rfl) (by kernel_rfl) (by kernel_rfl) (fun ww => by kernel_rfl) (Calls.mono h ?_)
    rintro _ w2 ⟨v8, rfl, h⟩
    obtain ⟨hk0, h⟩ := h
    refine ⟨_, rfl, ⟨hk0, trivial⟩, ?_⟩
    refine mreg_run [.plain] 4 [(0, [], Value.bool is), (1, [], Value.int .i64 e), (2, [], Value.pointer (some ⟨(pblk t2), (poff t2), none⟩)), (3, [], Value.pointer (some ⟨(pblk t3), (poff t3), none⟩)), (10, [], Value.bool (v8 == v9))] (by kernel_rfl) (by kernel_rfl) ?_
    refine mreg_conv [(0, [], Value.bool is), (1, [], Value.int .i64 e), (2, [], Value.pointer t2), (3, [], Value.pointer (some ⟨(pblk t3), (poff t3), none⟩)), (10, [], Value.bool (v8 == v9))] (congrArg (fun pp => ([(0, [], Value.bool is), (1, [], Value.int .i64 e), (2, [], Value.pointer pp), (3, [], Value.pointer (some ⟨(pblk t3), (poff t3), none⟩)), (10, [], Value.bool (v8 == v9))] : GEnv)) hp_7.symm) ?_
    refine mreg_conv [(0, [], Value.bool is), (1, [], Value.int .i64 e), (2, [], Value.pointer t2), (3, [], Value.pointer t3), (10, [], Value.bool (v8 == v9))] (congrArg (fun pp => ([(0, [], Value.bool is), (1, [], Value.int .i64 e), (2, [], Value.pointer t2), (3, [], Value.pointer pp), (10, [], Value.bool (v8 == v9))] : GEnv)) hp_8.symm) ?_
    refine mreg_end [(0, Value.bool is), (1, Value.int .i64 e), (2, Value.pointer t2), (3, Value.pointer t3), (10, Value.bool (v8 == v9))] (by kernel_rfl) (by kernel_rfl) (by kernel_rfl) ?_
    change WpE _ _ c_record_Decode_1_7 _ _ _
    refine wpE_cond (o := (Operand.tmp 10)) (b := (v8 == v9)) (x := c_record_Decode_1_8) (y := c_record_Decode_1_12) (by kernel_rfl) (by kernel_rfl) (fun hb => ?_) (fun hb => ?_)
    · replace h := h.1 hb
      refine wpE_seq (x := c_record_Decode_1_9) (y := c_record_Decode_1_11) (by kernel_rfl) ?_
      refine wpE_region (id := 2) (ops := r_record_Decode_1_9) (by kernel_rfl) ?_
      refine reg_run [] 0 [(2, [], Value.pointer t2)] (by kernel_rfl) (by kernel_rfl) ?_
      obtain ⟨hp_9, h⟩ := h
      refine reg_conv [(2, [], Value.pointer (some ⟨(pblk t2), (poff t2), none⟩))] (congrArg (fun pp => ([(2, [], Value.pointer pp)] : GEnv)) hp_9) ?_
      obtain ⟨v11, hc, h⟩ := h
      refine reg_load1 (t := 82) (a := (Go.Operand.tmp 2)) (b := (pblk t2)) (o := (poff t2)) (ty := 82) (dst := some 11) (by kernel_rfl) (by kernel_rfl) (by kernel_rfl) hc ?_
      refine reg_run [] 1 [(11, [], Value.pointer v11)] (by kernel_rfl) (by kernel_rfl) ?_
      refine reg_enter (op := (Go.Op.call (Go.Call.mk (Go.Callee.value (Go.Operand.func 40)) #[(Go.Operand.tmp 11)] #[82]))) (ty := 29) (dst := some 12) 40 #[Value.pointer v11] (by kernel_rfl) (fun ww => by kernel_rfl) (Calls.mono h ?_)
      rintro _ w3 ⟨v12, rfl, h⟩
      refine ⟨_, rfl, ?_⟩
      refine reg_run [.plain] 3 [(6, [], Value.int .i64 v12)] (by kernel_rfl) (by kernel_rfl) ?_
      refine reg_end [(6, Value.int .i64 v12)] (by kernel_rfl) (by kernel_rfl) ?_
      change WpE _ _ c_record_Decode_1_11 _ _ _
      refine wpE_ret (by kernel_rfl) ?_
      repeat (first | refine seqQ_ret ?_ | refine blockQ_ret ?_ | refine loopQ_ret ?_ | refine cutQ_ret ?_)
      exact retS (rs := [(Go.ResultVar.tmp 6)]) (v := Value.int .i64 v12) (by kernel_rfl) (⟨by kernel_rfl, trivial⟩) ⟨v12, rfl, h⟩
    · replace h := h.2 hb
      refine wpE_skip (by kernel_rfl) ?_
      change WpE _ _ c_record_Decode_1_13 _ _ _
      refine wpE_seq (x := c_record_Decode_1_14) (y := c_record_Decode_1_16) (by kernel_rfl) ?_
      refine wpE_region (id := 3) (ops := r_record_Decode_1_14) (by kernel_rfl) ?_
      refine reg_run [] 0 [(0, [], Value.bool is), (1, [], Value.int .i64 e), (2, [], Value.pointer t2), (3, [], Value.pointer t3)] (by kernel_rfl) (by kernel_rfl) ?_
      obtain ⟨hp_12, h⟩ := h
      refine reg_conv [(0, [], Value.bool is), (1, [], Value.int .i64 e), (2, [], Value.pointer (some ⟨(pblk t2), (poff t2), none⟩)), (3, [], Value.pointer t3)] (congrArg (fun pp => ([(0, [], Value.bool is), (1, [], Value.int .i64 e), (2, [], Value.pointer pp), (3, [], Value.pointer t3)] : GEnv)) hp_12) ?_
      obtain ⟨v13, hc, h⟩ := h
      refine reg_load1 (t := 82) (a := (Go.Operand.tmp 2)) (b := (pblk t2)) (o := (poff t2)) (ty := 82) (dst := some 13) (by kernel_rfl) (by kernel_rfl) (by kernel_rfl) hc ?_
      refine reg_run [] 1 [(0, [], Value.bool is), (1, [], Value.int .i64 e), (3, [], Value.pointer t3), (13, [], Value.pointer v13)] (by kernel_rfl) (by kernel_rfl) ?_
      refine reg_enter (op := (Go.Op.call (Go.Call.mk (Go.Callee.value (Go.Operand.func 39)) #[(Go.Operand.tmp 13)] #[82]))) (ty := 3) (dst := some 14) 39 #[Value.pointer v13] (by kernel_rfl) (fun ww => by kernel_rfl) (Calls.mono h ?_)
      rintro _ w4 ⟨v14, rfl, h⟩
      refine ⟨_, rfl, ?_⟩
      refine reg_run [] 2 [(0, [], Value.bool is), (1, [], Value.int .i64 e), (3, [], Value.pointer t3), (14, [], Value.int .i64 v14)] (by kernel_rfl) (by kernel_rfl) ?_
      obtain ⟨hp_13, h⟩ := h
      refine reg_conv [(0, [], Value.bool is), (1, [], Value.int .i64 e), (3, [], Value.pointer (some ⟨(pblk t3), (poff t3), none⟩)), (14, [], Value.int .i64 v14)] (congrArg (fun pp => ([(0, [], Value.bool is), (1, [], Value.int .i64 e), (3, [], Value.pointer pp), (14, [], Value.int .i64 v14)] : GEnv)) hp_13) ?_
      obtain ⟨hc, h⟩ := h
      refine reg_store (t := 3) (a := (Go.Operand.tmp 3)) (x := (Go.Operand.tmp 14)) (b := (pblk t3)) (o := (poff t3)) (ty := 0) (dst := none) [Value.int .i64 v14] (by kernel_rfl) (by kernel_rfl) (by kernel_rfl) (k := 1) (by kernel_rfl) (by kernel_rfl) (by kernel_rfl) hc (fun w5 hw => ?_)
      replace h := h w5 hw
      clear hw
      refine reg_end [(0, Value.bool is), (1, Value.int .i64 e)] (by kernel_rfl) (by kernel_rfl) ?_
      change WpE _ _ c_record_Decode_1_16 _ _ _
      refine wpE_seq (x := c_record_Decode_1_17) (y := c_record_Decode_1_26) (by kernel_rfl) ?_
      refine wpE_seq (x := c_record_Decode_1_18) (y := c_record_Decode_1_20) (by kernel_rfl) ?_
      refine wpE_region (id := 4) (ops := r_record_Decode_1_18) (by kernel_rfl) ?_
      refine reg_run [.plain] 1 [(1, [], Value.int .i64 e), (15, [], Value.bool is)] (by kernel_rfl) (by kernel_rfl) ?_
      refine reg_end [(1, Value.int .i64 e), (15, Value.bool is)] (by kernel_rfl) (by kernel_rfl) ?_
      change WpE _ _ c_record_Decode_1_20 _ _ _
      refine wpE_cond (o := (Operand.tmp 15)) (b := is) (x := c_record_Decode_1_21) (y := c_record_Decode_1_25) (by kernel_rfl) (by kernel_rfl) (fun hb => ?_) (fun hb => ?_)
      · replace h := h.1 hb
        refine wpE_seq (x := c_record_Decode_1_22) (y := c_record_Decode_1_24) (by kernel_rfl) ?_
        refine wpE_region (id := 5) (ops := r_record_Decode_1_22) (by kernel_rfl) ?_
        refine reg_run [.plain, .plain] 2 [(6, [], Value.int .i64 e)] (by kernel_rfl) (by kernel_rfl) ?_
        refine reg_end [(6, Value.int .i64 e)] (by kernel_rfl) (by kernel_rfl) ?_
        change WpE _ _ c_record_Decode_1_24 _ _ _
        refine wpE_ret (by kernel_rfl) ?_
        repeat (first | refine seqQ_ret ?_ | refine blockQ_ret ?_ | refine loopQ_ret ?_ | refine cutQ_ret ?_)
        exact retS (rs := [(Go.ResultVar.tmp 6)]) (v := Value.int .i64 e) (by kernel_rfl) (⟨by kernel_rfl, trivial⟩) ⟨e, rfl, h⟩
      · replace h := h.2 hb
        refine wpE_skip (by kernel_rfl) ?_
        change WpE _ _ c_record_Decode_1_26 _ _ _
        refine wpE_seq (x := c_record_Decode_1_27) (y := c_record_Decode_1_29) (by kernel_rfl) ?_
        refine wpE_region (id := 6) (ops := r_record_Decode_1_27) (by kernel_rfl) ?_
        refine reg_run [.plain] 1 [(6, [], Value.int .i64 0)] (by kernel_rfl) (by kernel_rfl) ?_
        refine reg_end [(6, Value.int .i64 0)] (by kernel_rfl) (by kernel_rfl) ?_
        change WpE _ _ c_record_Decode_1_29 _ _ _
        refine wpE_ret (by kernel_rfl) ?_
        repeat (first | refine seqQ_ret ?_ | refine blockQ_ret ?_ | refine loopQ_ret ?_ | refine cutQ_ret ?_)
        exact retS (rs := [(Go.ResultVar.tmp 6)]) (v := Value.int .i64 0) (by kernel_rfl) (⟨by kernel_rfl, trivial⟩) ⟨0, rfl, h⟩
  · rintro e w' ⟨v, rfl, r0, rfl, h⟩; exact ⟨r0, rfl, h⟩
end Go.Proofs.Ytpdegdnigcnjiaa
