/- WRITTEN BY PROGRAM (dec.py): for each Go function the clean formula F, the call's contract C, and the proof S that F gives C. -/
import Derived.Test.YtpedclhflmhakaaRows
import Derived.Test.YtpedclhflmhakaaGF
namespace Go.Proofs.Ytpedclhflmhakaa
open Go
set_option linter.unusedVariables false

/-! ### towpath/towpathlaw16.made (function 11) -/
noncomputable def c_towpathlaw16_made_0 : Code := (Try.f11.body).getD Code.skip
noncomputable def c_towpathlaw16_made_1 : Code := Code.l c_towpathlaw16_made_0
noncomputable def r_towpathlaw16_made_1 : Array Oper := Code.ops c_towpathlaw16_made_1
noncomputable def c_towpathlaw16_made_3 : Code := Code.r c_towpathlaw16_made_0
noncomputable def c_towpathlaw16_made_4 : Code := Code.l c_towpathlaw16_made_3
noncomputable def r_towpathlaw16_made_4 : Array Oper := Code.ops c_towpathlaw16_made_4
noncomputable def c_towpathlaw16_made_6 : Code := Code.r c_towpathlaw16_made_3
noncomputable def c_towpathlaw16_made_7 : Code := Code.l c_towpathlaw16_made_6
noncomputable def r_towpathlaw16_made_7 : Array Oper := Code.ops c_towpathlaw16_made_7
noncomputable def c_towpathlaw16_made_9 : Code := Code.r c_towpathlaw16_made_6
noncomputable def c_towpathlaw16_made_10 : Code := Code.l c_towpathlaw16_made_9
noncomputable def c_towpathlaw16_made_11 : Code := Code.l c_towpathlaw16_made_10
noncomputable def r_towpathlaw16_made_11 : Array Oper := Code.ops c_towpathlaw16_made_11
noncomputable def c_towpathlaw16_made_13 : Code := Code.r c_towpathlaw16_made_10
noncomputable def c_towpathlaw16_made_14 : Code := Code.l c_towpathlaw16_made_13
noncomputable def c_towpathlaw16_made_15 : Code := Code.l c_towpathlaw16_made_14
noncomputable def r_towpathlaw16_made_15 : Array Oper := Code.ops c_towpathlaw16_made_15
noncomputable def c_towpathlaw16_made_17 : Code := Code.r c_towpathlaw16_made_14
noncomputable def c_towpathlaw16_made_18 : Code := Code.r c_towpathlaw16_made_13
noncomputable def c_towpathlaw16_made_19 : Code := Code.r c_towpathlaw16_made_9
noncomputable def c_towpathlaw16_made_20 : Code := Code.l c_towpathlaw16_made_19
noncomputable def r_towpathlaw16_made_20 : Array Oper := Code.ops c_towpathlaw16_made_20
noncomputable def c_towpathlaw16_made_22 : Code := Code.r c_towpathlaw16_made_19
noncomputable def c_towpathlaw16_made_23 : Code := Code.l c_towpathlaw16_made_22
noncomputable def r_towpathlaw16_made_23 : Array Oper := Code.ops c_towpathlaw16_made_23
noncomputable def c_towpathlaw16_made_25 : Code := Code.r c_towpathlaw16_made_22
noncomputable def c_towpathlaw16_made_26 : Code := Code.l c_towpathlaw16_made_25
noncomputable def r_towpathlaw16_made_26 : Array Oper := Code.ops c_towpathlaw16_made_26
noncomputable def c_towpathlaw16_made_28 : Code := Code.r c_towpathlaw16_made_25
noncomputable def c_towpathlaw16_made_29 : Code := Code.l c_towpathlaw16_made_28
noncomputable def r_towpathlaw16_made_29 : Array Oper := Code.ops c_towpathlaw16_made_29
noncomputable def c_towpathlaw16_made_31 : Code := Code.r c_towpathlaw16_made_28
noncomputable def c_towpathlaw16_made_32 : Code := Code.l c_towpathlaw16_made_31
noncomputable def c_towpathlaw16_made_33 : Code := Code.l c_towpathlaw16_made_32
noncomputable def r_towpathlaw16_made_33 : Array Oper := Code.ops c_towpathlaw16_made_33
noncomputable def c_towpathlaw16_made_35 : Code := Code.r c_towpathlaw16_made_32
noncomputable def c_towpathlaw16_made_36 : Code := Code.l c_towpathlaw16_made_35
noncomputable def c_towpathlaw16_made_37 : Code := Code.l c_towpathlaw16_made_36
noncomputable def c_towpathlaw16_made_38 : Code := Code.l c_towpathlaw16_made_37
noncomputable def c_towpathlaw16_made_39 : Code := Code.l c_towpathlaw16_made_38
noncomputable def r_towpathlaw16_made_39 : Array Oper := Code.ops c_towpathlaw16_made_39
noncomputable def c_towpathlaw16_made_41 : Code := Code.r c_towpathlaw16_made_38
noncomputable def c_towpathlaw16_made_42 : Code := Code.l c_towpathlaw16_made_41
noncomputable def c_towpathlaw16_made_43 : Code := Code.r c_towpathlaw16_made_41
noncomputable def c_towpathlaw16_made_44 : Code := Code.r c_towpathlaw16_made_37
noncomputable def c_towpathlaw16_made_45 : Code := Code.l c_towpathlaw16_made_44
noncomputable def c_towpathlaw16_made_46 : Code := Code.l c_towpathlaw16_made_45
noncomputable def r_towpathlaw16_made_46 : Array Oper := Code.ops c_towpathlaw16_made_46
noncomputable def c_towpathlaw16_made_48 : Code := Code.r c_towpathlaw16_made_44
noncomputable def r_towpathlaw16_made_48 : Array Oper := Code.ops c_towpathlaw16_made_48
noncomputable def c_towpathlaw16_made_50 : Code := Code.r c_towpathlaw16_made_31
noncomputable def c_towpathlaw16_made_51 : Code := Code.l c_towpathlaw16_made_50
noncomputable def r_towpathlaw16_made_51 : Array Oper := Code.ops c_towpathlaw16_made_51
noncomputable def c_towpathlaw16_made_53 : Code := Code.r c_towpathlaw16_made_50

set_option maxRecDepth 100000 in
set_option maxHeartbeats 4000000 in
theorem S_towpathlaw16_made {l_ : Slc} {m_ : T_towpathlaw16_Made} {w : World} {R : Option Addr → Option Addr → Option Addr → Bool → World → Prop} (h : F_towpathlaw16_made l_ m_ R w) : C_towpathlaw16_made l_ m_ w R := by
  unfold F_towpathlaw16_made at h
  unfold C_towpathlaw16_made
  refine Calls.mono (calls_of_wpE (args := [Value.slice l_.ptr l_.len l_.cap, Value.agg #[Value.int .i64 m_.Mark, Value.slice m_.Beyond.ptr m_.Beyond.len m_.Beyond.cap, Value.int .i64 m_.Window]]) (R := fun v w' => ∃ (r0 : Option Addr) (r1 : Option Addr) (r2 : Option Addr) (r3 : Bool), v = Value.tuple #[Value.pointer r0, Value.pointer r1, Value.pointer r2, Value.bool r3] ∧ R r0 r1 r2 r3 w') Try.func11 (c := c_towpathlaw16_made_0) (by kernel_rfl) 83 (by kernel_rfl) (by kernel_rfl) [(0, Value.slice l_.ptr l_.len l_.cap), (1, Value.agg #[Value.int .i64 m_.Mark, Value.slice m_.Beyond.ptr m_.Beyond.len m_.Beyond.cap, Value.int .i64 m_.Window])] (by kernel_rfl) ?_) ?_
  · refine wpE_seq (x := c_towpathlaw16_made_1) (y := c_towpathlaw16_made_3) (by kernel_rfl) ?_
    refine wpE_region (id := 0) (ops := r_towpathlaw16_made_1) (by kernel_rfl) ?_
    refine reg_run [] 0 [(0, [], Value.slice l_.ptr l_.len l_.cap), (1, [], Value.agg #[Value.int .i64 m_.Mark, Value.slice m_.Beyond.ptr m_.Beyond.len m_.Beyond.cap, Value.int .i64 m_.Window])] (by kernel_rfl) (by kernel_rfl) ?_
    refine reg_new (op := (Go.Op.box 25 (Go.Operand.tmp 1))) (ty := 0) (dst := some 3) (fun bb => Value.pointer (some ⟨bb, 0, none⟩)) (Obj.cells ([Value.int .i64 m_.Mark, Value.slice m_.Beyond.ptr m_.Beyond.len m_.Beyond.cap, Value.int .i64 m_.Window]).toArray ty_towpathlaw16_Made (0, 0)) (by kernel_rfl) (by kernel_rfl) (fun b_ w1 hb hw => ?_)
    replace h := h b_ w1 hb hw
    clear hb hw
    refine reg_run [.plain, .plain, .plain, .plain] 5 [(0, [], Value.slice l_.ptr l_.len l_.cap), (3, [], Value.pointer (some ⟨b_, 0, none⟩))] (by kernel_rfl) (by kernel_rfl) ?_
    refine reg_end [(0, Value.slice l_.ptr l_.len l_.cap), (3, Value.pointer (some ⟨b_, 0, none⟩))] (by kernel_rfl) (by kernel_rfl) ?_
    change WpE _ _ c_towpathlaw16_made_3 _ _ _
    refine wpE_seq (x := c_towpathlaw16_made_4) (y := c_towpathlaw16_made_6) (by kernel_rfl) ?_
    refine wpE_region (id := 1) (ops := r_towpathlaw16_made_4) (by kernel_rfl) ?_
    refine reg_run [.plain] 1 [(0, [], Value.slice l_.ptr l_.len l_.cap), (3, [], Value.pointer (some ⟨b_, 0, none⟩)), (18, [], Value.slice l_.ptr l_.len l_.cap)] (by kernel_rfl) (by kernel_rfl) ?_
    refine reg_enter (op := (Go.Op.call (Go.Call.mk (Go.Callee.value (Go.Operand.func 40)) #[(Go.Operand.tmp 18)] #[22]))) (ty := 105) (dst := some 19) 40 #[Value.slice l_.ptr l_.len l_.cap] (by kernel_rfl) (fun ww => by kernel_rfl) (Calls.mono h ?_)
    rintro _ w2 ⟨s, e, rfl, h⟩
    refine ⟨_, rfl, ?_⟩
    refine reg_run [.plain, .plain, .plain, .plain, .plain] 7 [(0, [], Value.slice l_.ptr l_.len l_.cap), (3, [], Value.pointer (some ⟨b_, 0, none⟩)), (8, [], Value.pointer s), (9, [], Value.int .i64 e)] (by kernel_rfl) (by kernel_rfl) ?_
    refine reg_end [(0, Value.slice l_.ptr l_.len l_.cap), (3, Value.pointer (some ⟨b_, 0, none⟩)), (8, Value.pointer s), (9, Value.int .i64 e)] (by kernel_rfl) (by kernel_rfl) ?_
    change WpE _ _ c_towpathlaw16_made_6 _ _ _
    refine wpE_seq (x := c_towpathlaw16_made_7) (y := c_towpathlaw16_made_9) (by kernel_rfl) ?_
    refine wpE_region (id := 2) (ops := r_towpathlaw16_made_7) (by kernel_rfl) ?_
    refine reg_run [.plain] 1 [(3, [], Value.pointer (some ⟨b_, 0, none⟩)), (8, [], Value.pointer s), (9, [], Value.int .i64 e), (23, [], Value.slice l_.ptr l_.len l_.cap)] (by kernel_rfl) (by kernel_rfl) ?_
    refine reg_enter (op := (Go.Op.call (Go.Call.mk (Go.Callee.value (Go.Operand.func 41)) #[(Go.Operand.tmp 23)] #[22]))) (ty := 108) (dst := some 24) 41 #[Value.slice l_.ptr l_.len l_.cap] (by kernel_rfl) (fun ww => by kernel_rfl) (Calls.mono h ?_)
    rintro _ w3 ⟨y, g, rfl, h⟩
    refine ⟨_, rfl, ?_⟩
    refine reg_run [.plain, .plain, .plain, .plain, .plain] 7 [(3, [], Value.pointer (some ⟨b_, 0, none⟩)), (8, [], Value.pointer s), (9, [], Value.int .i64 e), (10, [], Value.pointer y), (11, [], Value.int .i64 g)] (by kernel_rfl) (by kernel_rfl) ?_
    refine reg_end [(3, Value.pointer (some ⟨b_, 0, none⟩)), (8, Value.pointer s), (9, Value.int .i64 e), (10, Value.pointer y), (11, Value.int .i64 g)] (by kernel_rfl) (by kernel_rfl) ?_
    change WpE _ _ c_towpathlaw16_made_9 _ _ _
    refine wpE_seq (x := c_towpathlaw16_made_10) (y := c_towpathlaw16_made_19) (by kernel_rfl) ?_
    refine wpE_seq (x := c_towpathlaw16_made_11) (y := c_towpathlaw16_made_13) (by kernel_rfl) ?_
    refine wpE_region (id := 3) (ops := r_towpathlaw16_made_11) (by kernel_rfl) ?_
    refine reg_run [.plain, .plain, .plain] 3 [(3, [], Value.pointer (some ⟨b_, 0, none⟩)), (8, [], Value.pointer s), (10, [], Value.pointer y), (29, [], Value.bool (e != g))] (by kernel_rfl) (by kernel_rfl) ?_
    refine reg_end [(3, Value.pointer (some ⟨b_, 0, none⟩)), (8, Value.pointer s), (10, Value.pointer y), (29, Value.bool (e != g))] (by kernel_rfl) (by kernel_rfl) ?_
    change WpE _ _ c_towpathlaw16_made_13 _ _ _
    refine wpE_cond (o := (Operand.tmp 29)) (b := (e != g)) (x := c_towpathlaw16_made_14) (y := c_towpathlaw16_made_18) (by kernel_rfl) (by kernel_rfl) (fun hb => ?_) (fun hb => ?_)
    · replace h := h.1 hb
      refine wpE_seq (x := c_towpathlaw16_made_15) (y := c_towpathlaw16_made_17) (by kernel_rfl) ?_
      refine wpE_region (id := 4) (ops := r_towpathlaw16_made_15) (by kernel_rfl) ?_
      refine reg_run [.plain, .plain, .plain, .plain] 4 [(4, [], Value.pointer none), (5, [], Value.pointer none), (6, [], Value.pointer none), (7, [], Value.bool false)] (by kernel_rfl) (by kernel_rfl) ?_
      refine reg_end [(4, Value.pointer none), (5, Value.pointer none), (6, Value.pointer none), (7, Value.bool false)] (by kernel_rfl) (by kernel_rfl) ?_
      change WpE _ _ c_towpathlaw16_made_17 _ _ _
      refine wpE_ret (by kernel_rfl) ?_
      repeat (first | refine seqQ_ret ?_ | refine blockQ_ret ?_ | refine loopQ_ret ?_ | refine cutQ_ret ?_)
      exact retT (rs := [(Go.ResultVar.tmp 4), (Go.ResultVar.tmp 5), (Go.ResultVar.tmp 6), (Go.ResultVar.tmp 7)]) (vs := [Value.pointer none, Value.pointer none, Value.pointer none, Value.bool false]) (by kernel_rfl) (⟨by kernel_rfl, ⟨by kernel_rfl, ⟨by kernel_rfl, ⟨by kernel_rfl, trivial⟩⟩⟩⟩) (by kernel_rfl) ⟨none, none, none, false, rfl, h⟩
    · replace h := h.2 hb
      refine wpE_skip (by kernel_rfl) ?_
      change WpE _ _ c_towpathlaw16_made_19 _ _ _
      refine wpE_seq (x := c_towpathlaw16_made_20) (y := c_towpathlaw16_made_22) (by kernel_rfl) ?_
      refine wpE_region (id := 5) (ops := r_towpathlaw16_made_20) (by kernel_rfl) ?_
      refine reg_run [.plain] 1 [(3, [], Value.pointer (some ⟨b_, 0, none⟩)), (8, [], Value.pointer s), (10, [], Value.pointer y), (30, [], Value.pointer (some ⟨b_, 1, none⟩))] (by kernel_rfl) (by kernel_rfl) ?_
      obtain ⟨v31, hc, h⟩ := h
      refine reg_load1 (t := 23) (a := (Go.Operand.tmp 30)) (b := b_) (o := 1) (ty := 23) (dst := some 31) (by kernel_rfl) (by kernel_rfl) (by kernel_rfl) hc ?_
      refine reg_run [] 2 [(3, [], Value.pointer (some ⟨b_, 0, none⟩)), (8, [], Value.pointer s), (10, [], Value.pointer y), (31, [], Value.slice v31.ptr v31.len v31.cap)] (by kernel_rfl) (by kernel_rfl) ?_
      refine reg_enter (op := (Go.Op.call (Go.Call.mk (Go.Callee.value (Go.Operand.func 42)) #[(Go.Operand.tmp 31)] #[23]))) (ty := 23) (dst := some 32) 42 #[Value.slice v31.ptr v31.len v31.cap] (by kernel_rfl) (fun ww => by kernel_rfl) (Calls.mono h ?_)
      rintro _ w4 ⟨v32, rfl, h⟩
      refine ⟨_, rfl, ?_⟩
      refine reg_run [.plain] 4 [(3, [], Value.pointer (some ⟨b_, 0, none⟩)), (8, [], Value.pointer s), (10, [], Value.pointer y), (12, [], Value.slice v32.ptr v32.len v32.cap)] (by kernel_rfl) (by kernel_rfl) ?_
      refine reg_end [(3, Value.pointer (some ⟨b_, 0, none⟩)), (8, Value.pointer s), (10, Value.pointer y), (12, Value.slice v32.ptr v32.len v32.cap)] (by kernel_rfl) (by kernel_rfl) ?_
      change WpE _ _ c_towpathlaw16_made_22 _ _ _
      refine wpE_seq (x := c_towpathlaw16_made_23) (y := c_towpathlaw16_made_25) (by kernel_rfl) ?_
      refine wpE_region (id := 6) (ops := r_towpathlaw16_made_23) (by kernel_rfl) ?_
      refine reg_run [.plain, .plain] 2 [(3, [], Value.pointer (some ⟨b_, 0, none⟩)), (8, [], Value.pointer s), (10, [], Value.pointer y), (12, [], Value.slice v32.ptr v32.len v32.cap), (34, [], Value.pointer s), (35, [], Value.pointer (some ⟨b_, 0, none⟩))] (by kernel_rfl) (by kernel_rfl) ?_
      obtain ⟨v36, hc, h⟩ := h
      refine reg_load1 (t := 3) (a := (Go.Operand.tmp 35)) (b := b_) (o := 0) (ty := 3) (dst := some 36) (by kernel_rfl) (by kernel_rfl) (by kernel_rfl) hc ?_
      refine reg_run [.plain, .plain] 5 [(3, [], Value.pointer (some ⟨b_, 0, none⟩)), (8, [], Value.pointer s), (10, [], Value.pointer y), (12, [], Value.slice v32.ptr v32.len v32.cap), (34, [], Value.pointer s), (36, [], Value.int .i64 v36), (37, [], Value.slice v32.ptr v32.len v32.cap), (38, [], Value.pointer (some ⟨b_, 2, none⟩))] (by kernel_rfl) (by kernel_rfl) ?_
      obtain ⟨v39, hc, h⟩ := h
      refine reg_load1 (t := 3) (a := (Go.Operand.tmp 38)) (b := b_) (o := 2) (ty := 3) (dst := some 39) (by kernel_rfl) (by kernel_rfl) (by kernel_rfl) hc ?_
      refine reg_run [] 6 [(3, [], Value.pointer (some ⟨b_, 0, none⟩)), (8, [], Value.pointer s), (10, [], Value.pointer y), (12, [], Value.slice v32.ptr v32.len v32.cap), (34, [], Value.pointer s), (36, [], Value.int .i64 v36), (37, [], Value.slice v32.ptr v32.len v32.cap), (39, [], Value.int .i64 v39)] (by kernel_rfl) (by kernel_rfl) ?_
      refine reg_enter (op := (Go.Op.call (Go.Call.mk (Go.Callee.value (Go.Operand.func 27)) #[(Go.Operand.tmp 34), (Go.Operand.tmp 36), (Go.Operand.tmp 37), (Go.Operand.tmp 39)] #[28, 3, 23, 3]))) (ty := 60) (dst := some 40) 27 #[Value.pointer s, Value.int .i64 v36, Value.slice v32.ptr v32.len v32.cap, Value.int .i64 v39] (by kernel_rfl) (fun ww => by kernel_rfl) (Calls.mono h ?_)
      rintro _ w5 ⟨f, e1, rfl, h⟩
      refine ⟨_, rfl, ?_⟩
      refine reg_run [.plain, .plain, .plain, .plain, .plain] 12 [(3, [], Value.pointer (some ⟨b_, 0, none⟩)), (8, [], Value.pointer s), (9, [], Value.int .i64 e1), (10, [], Value.pointer y), (12, [], Value.slice v32.ptr v32.len v32.cap), (13, [], Value.pointer f)] (by kernel_rfl) (by kernel_rfl) ?_
      refine reg_end [(3, Value.pointer (some ⟨b_, 0, none⟩)), (8, Value.pointer s), (9, Value.int .i64 e1), (10, Value.pointer y), (12, Value.slice v32.ptr v32.len v32.cap), (13, Value.pointer f)] (by kernel_rfl) (by kernel_rfl) ?_
      change WpE _ _ c_towpathlaw16_made_25 _ _ _
      refine wpE_seq (x := c_towpathlaw16_made_26) (y := c_towpathlaw16_made_28) (by kernel_rfl) ?_
      refine wpE_region (id := 7) (ops := r_towpathlaw16_made_26) (by kernel_rfl) ?_
      refine reg_run [.plain, .plain] 2 [(3, [], Value.pointer (some ⟨b_, 0, none⟩)), (8, [], Value.pointer s), (9, [], Value.int .i64 e1), (12, [], Value.slice v32.ptr v32.len v32.cap), (13, [], Value.pointer f), (44, [], Value.pointer y), (45, [], Value.pointer (some ⟨b_, 0, none⟩))] (by kernel_rfl) (by kernel_rfl) ?_
      obtain ⟨v46, hc, h⟩ := h
      refine reg_load1 (t := 3) (a := (Go.Operand.tmp 45)) (b := b_) (o := 0) (ty := 3) (dst := some 46) (by kernel_rfl) (by kernel_rfl) (by kernel_rfl) hc ?_
      refine reg_run [.plain] 4 [(3, [], Value.pointer (some ⟨b_, 0, none⟩)), (8, [], Value.pointer s), (9, [], Value.int .i64 e1), (12, [], Value.slice v32.ptr v32.len v32.cap), (13, [], Value.pointer f), (44, [], Value.pointer y), (46, [], Value.int .i64 v46), (47, [], Value.pointer (some ⟨b_, 1, none⟩))] (by kernel_rfl) (by kernel_rfl) ?_
      obtain ⟨v48, hc, h⟩ := h
      refine reg_load1 (t := 23) (a := (Go.Operand.tmp 47)) (b := b_) (o := 1) (ty := 23) (dst := some 48) (by kernel_rfl) (by kernel_rfl) (by kernel_rfl) hc ?_
      refine reg_run [.plain] 6 [(3, [], Value.pointer (some ⟨b_, 0, none⟩)), (8, [], Value.pointer s), (9, [], Value.int .i64 e1), (12, [], Value.slice v32.ptr v32.len v32.cap), (13, [], Value.pointer f), (44, [], Value.pointer y), (46, [], Value.int .i64 v46), (48, [], Value.slice v48.ptr v48.len v48.cap), (49, [], Value.pointer (some ⟨b_, 2, none⟩))] (by kernel_rfl) (by kernel_rfl) ?_
      obtain ⟨v50, hc, h⟩ := h
      refine reg_load1 (t := 3) (a := (Go.Operand.tmp 49)) (b := b_) (o := 2) (ty := 3) (dst := some 50) (by kernel_rfl) (by kernel_rfl) (by kernel_rfl) hc ?_
      refine reg_run [] 7 [(3, [], Value.pointer (some ⟨b_, 0, none⟩)), (8, [], Value.pointer s), (9, [], Value.int .i64 e1), (12, [], Value.slice v32.ptr v32.len v32.cap), (13, [], Value.pointer f), (44, [], Value.pointer y), (46, [], Value.int .i64 v46), (48, [], Value.slice v48.ptr v48.len v48.cap), (50, [], Value.int .i64 v50)] (by kernel_rfl) (by kernel_rfl) ?_
      refine reg_enter (op := (Go.Op.call (Go.Call.mk (Go.Callee.value (Go.Operand.func 43)) #[(Go.Operand.tmp 44), (Go.Operand.tmp 46), (Go.Operand.tmp 48), (Go.Operand.tmp 50)] #[107, 3, 23, 3]))) (ty := 111) (dst := some 51) 43 #[Value.pointer y, Value.int .i64 v46, Value.slice v48.ptr v48.len v48.cap, Value.int .i64 v50] (by kernel_rfl) (fun ww => by kernel_rfl) (Calls.mono h ?_)
      rintro _ w6 ⟨x, g1, rfl, h⟩
      refine ⟨_, rfl, ?_⟩
      refine reg_run [.plain, .plain, .plain, .plain, .plain] 13 [(3, [], Value.pointer (some ⟨b_, 0, none⟩)), (8, [], Value.pointer s), (9, [], Value.int .i64 e1), (11, [], Value.int .i64 g1), (12, [], Value.slice v32.ptr v32.len v32.cap), (13, [], Value.pointer f), (14, [], Value.pointer x)] (by kernel_rfl) (by kernel_rfl) ?_
      refine reg_end [(3, Value.pointer (some ⟨b_, 0, none⟩)), (8, Value.pointer s), (9, Value.int .i64 e1), (11, Value.int .i64 g1), (12, Value.slice v32.ptr v32.len v32.cap), (13, Value.pointer f), (14, Value.pointer x)] (by kernel_rfl) (by kernel_rfl) ?_
      change WpE _ _ c_towpathlaw16_made_28 _ _ _
      refine wpE_seq_cut (x := c_towpathlaw16_made_29) (y := c_towpathlaw16_made_31) (by kernel_rfl) (fun l w => ∃ (ok : Bool), l = [(8, Value.pointer s), (12, Value.slice v32.ptr v32.len v32.cap), (13, Value.pointer f), (14, Value.pointer x), (15, Value.bool ok)] ∧ F_towpathlaw16_made_k0 R s v32 f x ok w) ?_ ?_
      · refine wpE_region (id := 8) (ops := r_towpathlaw16_made_29) (by kernel_rfl) ?_
        refine reg_run [.plain, .plain, .plain, .plain, .plain] 5 [(3, [], Value.pointer (some ⟨b_, 0, none⟩)), (8, [], Value.pointer s), (12, [], Value.slice v32.ptr v32.len v32.cap), (13, [], Value.pointer f), (14, [], Value.pointer x), (57, [], Value.bool (e1 == g1)), (58, [(57, true)], Value.pointer f)] (by kernel_rfl) (by kernel_rfl) ?_
        refine reg_split 57 (e1 == g1) (by kernel_rfl) (fun hb => ?_) (fun hb => ?_)
        · replace h := h.1 hb
          refine reg_run [] 5 [(3, [], Value.pointer (some ⟨b_, 0, none⟩)), (8, [], Value.pointer s), (12, [], Value.slice v32.ptr v32.len v32.cap), (13, [], Value.pointer f), (14, [], Value.pointer x), (57, [], Value.bool true), (58, [], Value.pointer f)] (by kernel_rfl) (by kernel_rfl) ?_
          refine reg_run [] 5 [(3, [], Value.pointer (some ⟨b_, 0, none⟩)), (8, [], Value.pointer s), (12, [], Value.slice v32.ptr v32.len v32.cap), (13, [], Value.pointer f), (14, [], Value.pointer x), (57, [], Value.bool true), (58, [], Value.pointer f)] (by kernel_rfl) (by kernel_rfl) ?_
          refine reg_val (op := (Go.Op.binOp Go.BinOp.eql 26 (Go.Operand.tmp 58) (Go.Operand.const (Go.Value.pointer none)) 26)) (ty := 4) (dst := some 59) (Value.bool f.isNone) (by kernel_rfl) (fun ww => run_ptr_eql_R (p := f) (by kernel_rfl) (by kernel_rfl) (by kernel_rfl) ww) ?_
          refine reg_run [.sure] 7 [(3, [], Value.pointer (some ⟨b_, 0, none⟩)), (8, [], Value.pointer s), (12, [], Value.slice v32.ptr v32.len v32.cap), (13, [], Value.pointer f), (14, [], Value.pointer x), (57, [], Value.bool true), (59, [], Value.bool f.isNone), (60, [], Value.pointer x)] (by kernel_rfl) (by kernel_rfl) ?_
          refine reg_val (op := (Go.Op.binOp Go.BinOp.eql 27 (Go.Operand.tmp 60) (Go.Operand.const (Go.Value.pointer none)) 27)) (ty := 4) (dst := some 61) (Value.bool x.isNone) (by kernel_rfl) (fun ww => run_ptr_eql_R (p := x) (by kernel_rfl) (by kernel_rfl) (by kernel_rfl) ww) ?_
          refine reg_run [.sure, .plain, .plain, .plain, .plain] 13 [(8, [], Value.pointer s), (12, [], Value.slice v32.ptr v32.len v32.cap), (13, [], Value.pointer f), (14, [], Value.pointer x), (64, [], Value.bool (f.isNone == x.isNone)), (65, [(64, true)], Value.slice v32.ptr v32.len v32.cap), (66, [(64, true)], Value.pointer (some ⟨b_, 1, none⟩))] (by kernel_rfl) (by kernel_rfl) ?_
          refine reg_split 64 (f.isNone == x.isNone) (by kernel_rfl) (fun hb => ?_) (fun hb => ?_)
          · replace h := h.1 hb
            refine reg_run [] 13 [(8, [], Value.pointer s), (12, [], Value.slice v32.ptr v32.len v32.cap), (13, [], Value.pointer f), (14, [], Value.pointer x), (64, [], Value.bool true), (65, [], Value.slice v32.ptr v32.len v32.cap), (66, [], Value.pointer (some ⟨b_, 1, none⟩))] (by kernel_rfl) (by kernel_rfl) ?_
            refine reg_run [] 13 [(8, [], Value.pointer s), (12, [], Value.slice v32.ptr v32.len v32.cap), (13, [], Value.pointer f), (14, [], Value.pointer x), (64, [], Value.bool true), (65, [], Value.slice v32.ptr v32.len v32.cap), (66, [], Value.pointer (some ⟨b_, 1, none⟩))] (by kernel_rfl) (by kernel_rfl) ?_
            obtain ⟨v67, hc, h⟩ := h
            refine reg_load1 (t := 23) (a := (Go.Operand.tmp 66)) (b := b_) (o := 1) (ty := 23) (dst := some 67) (by kernel_rfl) (by kernel_rfl) (by kernel_rfl) hc ?_
            refine reg_run [] 14 [(8, [], Value.pointer s), (12, [], Value.slice v32.ptr v32.len v32.cap), (13, [], Value.pointer f), (14, [], Value.pointer x), (64, [], Value.bool true), (65, [], Value.slice v32.ptr v32.len v32.cap), (67, [], Value.slice v67.ptr v67.len v67.cap)] (by kernel_rfl) (by kernel_rfl) ?_
            refine reg_enter (op := (Go.Op.call (Go.Call.mk (Go.Callee.value (Go.Operand.func 44)) #[(Go.Operand.tmp 65), (Go.Operand.tmp 67)] #[23, 23]))) (ty := 4) (dst := some 68) 44 #[Value.slice v32.ptr v32.len v32.cap, Value.slice v67.ptr v67.len v67.cap] (by kernel_rfl) (fun ww => by kernel_rfl) (Calls.mono h ?_)
            rintro _ w10 ⟨v68, rfl, h⟩
            refine ⟨_, rfl, ?_⟩
            refine reg_run [.plain, .plain] 17 [(8, [], Value.pointer s), (12, [], Value.slice v32.ptr v32.len v32.cap), (13, [], Value.pointer f), (14, [], Value.pointer x), (15, [], Value.bool v68)] (by kernel_rfl) (by kernel_rfl) ?_
            refine reg_end [(8, Value.pointer s), (12, Value.slice v32.ptr v32.len v32.cap), (13, Value.pointer f), (14, Value.pointer x), (15, Value.bool v68)] (by kernel_rfl) (by kernel_rfl) ?_
            exact ⟨[(8, Value.pointer s), (12, Value.slice v32.ptr v32.len v32.cap), (13, Value.pointer f), (14, Value.pointer x), (15, Value.bool v68)], Sub.mk (by kernel_rfl), v68, rfl, h⟩
          · replace h := h.2 hb
            refine reg_run [] 13 [(8, [], Value.pointer s), (12, [], Value.slice v32.ptr v32.len v32.cap), (13, [], Value.pointer f), (14, [], Value.pointer x), (64, [], Value.bool false), (65, [], undef), (66, [], undef)] (by kernel_rfl) (by kernel_rfl) ?_
            refine reg_run [.skip, .skip, .plain, .plain] 17 [(8, [], Value.pointer s), (12, [], Value.slice v32.ptr v32.len v32.cap), (13, [], Value.pointer f), (14, [], Value.pointer x), (15, [], Value.bool false)] (by kernel_rfl) (by kernel_rfl) ?_
            refine reg_end [(8, Value.pointer s), (12, Value.slice v32.ptr v32.len v32.cap), (13, Value.pointer f), (14, Value.pointer x), (15, Value.bool false)] (by kernel_rfl) (by kernel_rfl) ?_
            exact ⟨[(8, Value.pointer s), (12, Value.slice v32.ptr v32.len v32.cap), (13, Value.pointer f), (14, Value.pointer x), (15, Value.bool false)], Sub.mk (by kernel_rfl), false, rfl, h⟩
        · replace h := h.2 hb
          refine reg_run [] 5 [(3, [], Value.pointer (some ⟨b_, 0, none⟩)), (8, [], Value.pointer s), (12, [], Value.slice v32.ptr v32.len v32.cap), (13, [], Value.pointer f), (14, [], Value.pointer x), (57, [], Value.bool false), (58, [], undef)] (by kernel_rfl) (by kernel_rfl) ?_
          refine reg_run [.skip, .skip, .skip, .skip, .plain, .plain, .skip, .skip, .skip, .skip, .plain, .plain] 17 [(8, [], Value.pointer s), (12, [], Value.slice v32.ptr v32.len v32.cap), (13, [], Value.pointer f), (14, [], Value.pointer x), (15, [], Value.bool false)] (by kernel_rfl) (by kernel_rfl) ?_
          refine reg_end [(8, Value.pointer s), (12, Value.slice v32.ptr v32.len v32.cap), (13, Value.pointer f), (14, Value.pointer x), (15, Value.bool false)] (by kernel_rfl) (by kernel_rfl) ?_
          exact ⟨[(8, Value.pointer s), (12, Value.slice v32.ptr v32.len v32.cap), (13, Value.pointer f), (14, Value.pointer x), (15, Value.bool false)], Sub.mk (by kernel_rfl), false, rfl, h⟩
      · rintro _ w7 ⟨ok, rfl, h⟩
        unfold F_towpathlaw16_made_k0 at h
        refine wpE_seq (x := c_towpathlaw16_made_32) (y := c_towpathlaw16_made_50) (by kernel_rfl) ?_
        refine wpE_seq (x := c_towpathlaw16_made_33) (y := c_towpathlaw16_made_35) (by kernel_rfl) ?_
        refine wpE_region (id := 9) (ops := r_towpathlaw16_made_33) (by kernel_rfl) ?_
        refine reg_run [.plain] 1 [(8, [], Value.pointer s), (12, [], Value.slice v32.ptr v32.len v32.cap), (13, [], Value.pointer f), (14, [], Value.pointer x), (15, [], Value.bool ok), (16, [], Value.int .i64 0)] (by kernel_rfl) (by kernel_rfl) ?_
        refine reg_end [(8, Value.pointer s), (12, Value.slice v32.ptr v32.len v32.cap), (13, Value.pointer f), (14, Value.pointer x), (15, Value.bool ok), (16, Value.int .i64 0)] (by kernel_rfl) (by kernel_rfl) ?_
        change WpE _ _ c_towpathlaw16_made_35 _ _ _
        refine wpE_block (id := 0) (x := c_towpathlaw16_made_36) (by kernel_rfl) ?_
        obtain ⟨I, μ, h0, hr⟩ := h
        refine wpE_loop (x := c_towpathlaw16_made_37) (by kernel_rfl) (fun m l w => ∃ (i : Int), l = [(8, Value.pointer s), (12, Value.slice v32.ptr v32.len v32.cap), (13, Value.pointer f), (14, Value.pointer x), (15, Value.bool ok), (16, Value.int .i64 i)] ∧ I i w ∧ μ i w = m) (l' := [(8, Value.pointer s), (12, Value.slice v32.ptr v32.len v32.cap), (13, Value.pointer f), (14, Value.pointer x), (15, Value.bool ok), (16, Value.int .i64 0)]) (Sub.mk (by kernel_rfl)) ⟨0, rfl, h0, rfl⟩ ?_
        rintro _ _ w8 ⟨i, rfl, hI, rfl⟩
        obtain ⟨again_, again__h, h⟩ : ∃ again_ : Int → World → Prop, (∀ i' w', again_ i' w' → I i' w' ∧ μ i' w' < μ i w8) ∧ F_towpathlaw16_made_L1 R s v32 f x ok again_ i w8 := ⟨_, fun _ _ h => h, hr i w8 hI⟩
        clear h0 hI
        unfold F_towpathlaw16_made_L1 at h
        refine wpE_seq (x := c_towpathlaw16_made_38) (y := c_towpathlaw16_made_44) (by kernel_rfl) ?_
        refine wpE_seq (x := c_towpathlaw16_made_39) (y := c_towpathlaw16_made_41) (by kernel_rfl) ?_
        refine wpE_region (id := 10) (ops := r_towpathlaw16_made_39) (by kernel_rfl) ?_
        refine reg_run [.plain, .plain, .plain, .plain] 4 [(8, [], Value.pointer s), (12, [], Value.slice v32.ptr v32.len v32.cap), (13, [], Value.pointer f), (14, [], Value.pointer x), (15, [], Value.bool ok), (16, [], Value.int .i64 i), (73, [], Value.bool (decide (i < ((v32.len : Nat) : Int))))] (by kernel_rfl) (by kernel_rfl) ?_
        refine reg_end [(8, Value.pointer s), (12, Value.slice v32.ptr v32.len v32.cap), (13, Value.pointer f), (14, Value.pointer x), (15, Value.bool ok), (16, Value.int .i64 i), (73, Value.bool (decide (i < ((v32.len : Nat) : Int))))] (by kernel_rfl) (by kernel_rfl) ?_
        change WpE _ _ c_towpathlaw16_made_41 _ _ _
        refine wpE_cond (o := (Operand.tmp 73)) (b := (decide (i < ((v32.len : Nat) : Int)))) (x := c_towpathlaw16_made_42) (y := c_towpathlaw16_made_43) (by kernel_rfl) (by kernel_rfl) (fun hb => ?_) (fun hb => ?_)
        · replace h := h.1 hb
          refine wpE_skip (by kernel_rfl) ?_
          change WpE _ _ c_towpathlaw16_made_44 _ _ _
          refine wpE_seq (x := c_towpathlaw16_made_45) (y := c_towpathlaw16_made_48) (by kernel_rfl) ?_
          refine wpE_block (id := 1) (x := c_towpathlaw16_made_46) (by kernel_rfl) ?_
          refine wpE_region (id := 12) (ops := r_towpathlaw16_made_46) (by kernel_rfl) ?_
          refine reg_run [.plain, .plain] 2 [(8, [], Value.pointer s), (12, [], Value.slice v32.ptr v32.len v32.cap), (13, [], Value.pointer f), (14, [], Value.pointer x), (15, [], Value.bool ok), (16, [], Value.int .i64 i), (76, [], Value.slice v32.ptr v32.len v32.cap), (77, [], Value.int .i64 i)] (by kernel_rfl) (by kernel_rfl) ?_
          obtain ⟨hp_3, h⟩ := h
          refine reg_conv [(8, [], Value.pointer s), (12, [], Value.slice v32.ptr v32.len v32.cap), (13, [], Value.pointer f), (14, [], Value.pointer x), (15, [], Value.bool ok), (16, [], Value.int .i64 i), (76, [], Value.slice (some ⟨(pblk v32.ptr), (poff v32.ptr), none⟩) v32.len v32.cap), (77, [], Value.int .i64 i)] (congrArg (fun pp => ([(8, [], Value.pointer s), (12, [], Value.slice v32.ptr v32.len v32.cap), (13, [], Value.pointer f), (14, [], Value.pointer x), (15, [], Value.bool ok), (16, [], Value.int .i64 i), (76, [], Value.slice pp v32.len v32.cap), (77, [], Value.int .i64 i)] : GEnv)) hp_3) ?_
          obtain ⟨h0, h1, h⟩ := h
          refine reg_indexS1 (t := 23) (e := 3) (x := (Go.Operand.tmp 76)) (ix := (Go.Operand.tmp 77)) (b := (pblk v32.ptr)) (o := (poff v32.ptr)) (l := v32.len) (c := v32.cap) (k := .i64) (j := i) (ty := 0) (dst := some 78) (by kernel_rfl) (by kernel_rfl) (by kernel_rfl) (by kernel_rfl) (by kernel_rfl) h0 h1 ?_
          refine reg_run [] 3 [(8, [], Value.pointer s), (12, [], Value.slice v32.ptr v32.len v32.cap), (13, [], Value.pointer f), (14, [], Value.pointer x), (15, [], Value.bool ok), (16, [], Value.int .i64 i), (78, [], Value.pointer (some ⟨(pblk v32.ptr), (poff v32.ptr) + i.toNat, none⟩))] (by kernel_rfl) (by kernel_rfl) ?_
          obtain ⟨hc, h⟩ := h
          refine reg_store (t := 3) (a := (Go.Operand.tmp 78)) (x := (Go.Operand.const (Go.Value.int Go.IntKind.i64 (-77)))) (b := (pblk v32.ptr)) (o := ((poff v32.ptr) + i.toNat)) (ty := 0) (dst := none) [Value.int .i64 (-77)] (by kernel_rfl) (by kernel_rfl) (by kernel_rfl) (k := 1) (by kernel_rfl) (by kernel_rfl) (by kernel_rfl) hc (fun w9 hw => ?_)
          replace h := h w9 hw
          clear hw
          refine reg_end [(8, Value.pointer s), (12, Value.slice v32.ptr v32.len v32.cap), (13, Value.pointer f), (14, Value.pointer x), (15, Value.bool ok), (16, Value.int .i64 i)] (by kernel_rfl) (by kernel_rfl) ?_
          change WpE _ _ c_towpathlaw16_made_48 _ _ _
          refine wpE_region (id := 11) (ops := r_towpathlaw16_made_48) (by kernel_rfl) ?_
          refine reg_run [.plain, .plain, .plain] 3 [(8, [], Value.pointer s), (12, [], Value.slice v32.ptr v32.len v32.cap), (13, [], Value.pointer f), (14, [], Value.pointer x), (15, [], Value.bool ok), (16, [], Value.int .i64 (IntKind.i64.wrap (i + 1)))] (by kernel_rfl) (by kernel_rfl) ?_
          refine reg_end [(8, Value.pointer s), (12, Value.slice v32.ptr v32.len v32.cap), (13, Value.pointer f), (14, Value.pointer x), (15, Value.bool ok), (16, Value.int .i64 (IntKind.i64.wrap (i + 1)))] (by kernel_rfl) (by kernel_rfl) ?_
          have hb_ := again__h _ _ h
          exact ⟨_, hb_.2, [(8, Value.pointer s), (12, Value.slice v32.ptr v32.len v32.cap), (13, Value.pointer f), (14, Value.pointer x), (15, Value.bool ok), (16, Value.int .i64 (IntKind.i64.wrap (i + 1)))], Sub.mk (by kernel_rfl), (IntKind.i64.wrap (i + 1)), rfl, hb_.1, rfl⟩
        · replace h := h.2 hb
          refine wpE_exit (id := 0) (by kernel_rfl) ?_
          change WpE _ _ c_towpathlaw16_made_50 _ _ _
          refine wpE_seq (x := c_towpathlaw16_made_51) (y := c_towpathlaw16_made_53) (by kernel_rfl) ?_
          refine wpE_region (id := 13) (ops := r_towpathlaw16_made_51) (by kernel_rfl) ?_
          refine reg_run [.plain, .plain, .plain, .plain, .plain, .plain, .plain, .plain] 8 [(4, [], Value.pointer f), (5, [], Value.pointer x), (6, [], Value.pointer s), (7, [], Value.bool ok)] (by kernel_rfl) (by kernel_rfl) ?_
          refine reg_end [(4, Value.pointer f), (5, Value.pointer x), (6, Value.pointer s), (7, Value.bool ok)] (by kernel_rfl) (by kernel_rfl) ?_
          change WpE _ _ c_towpathlaw16_made_53 _ _ _
          refine wpE_ret (by kernel_rfl) ?_
          repeat (first | refine seqQ_ret ?_ | refine blockQ_ret ?_ | refine loopQ_ret ?_ | refine cutQ_ret ?_)
          exact retT (rs := [(Go.ResultVar.tmp 4), (Go.ResultVar.tmp 5), (Go.ResultVar.tmp 6), (Go.ResultVar.tmp 7)]) (vs := [Value.pointer f, Value.pointer x, Value.pointer s, Value.bool ok]) (by kernel_rfl) (⟨by kernel_rfl, ⟨by kernel_rfl, ⟨by kernel_rfl, ⟨by kernel_rfl, trivial⟩⟩⟩⟩) (by kernel_rfl) ⟨f, x, s, ok, rfl, h⟩
  · rintro e w' ⟨v, rfl, r0, r1, r2, r3, rfl, h⟩; exact ⟨r0, r1, r2, r3, rfl, h⟩

/-! ### towpath/towpathlaw16.lives (function 12) -/
noncomputable def c_towpathlaw16_lives_0 : Code := (Try.f12.body).getD Code.skip
noncomputable def c_towpathlaw16_lives_1 : Code := Code.l c_towpathlaw16_lives_0
noncomputable def r_towpathlaw16_lives_1 : Array Oper := Code.ops c_towpathlaw16_lives_1
noncomputable def c_towpathlaw16_lives_3 : Code := Code.r c_towpathlaw16_lives_0
noncomputable def c_towpathlaw16_lives_4 : Code := Code.l c_towpathlaw16_lives_3
noncomputable def r_towpathlaw16_lives_4 : Array Oper := Code.ops c_towpathlaw16_lives_4
noncomputable def c_towpathlaw16_lives_6 : Code := Code.r c_towpathlaw16_lives_3
noncomputable def c_towpathlaw16_lives_7 : Code := Code.l c_towpathlaw16_lives_6
noncomputable def c_towpathlaw16_lives_8 : Code := Code.l c_towpathlaw16_lives_7
noncomputable def r_towpathlaw16_lives_8 : Array Oper := Code.ops c_towpathlaw16_lives_8
noncomputable def c_towpathlaw16_lives_10 : Code := Code.r c_towpathlaw16_lives_7
noncomputable def c_towpathlaw16_lives_11 : Code := Code.l c_towpathlaw16_lives_10
noncomputable def c_towpathlaw16_lives_12 : Code := Code.l c_towpathlaw16_lives_11
noncomputable def r_towpathlaw16_lives_12 : Array Oper := Code.ops c_towpathlaw16_lives_12
noncomputable def c_towpathlaw16_lives_14 : Code := Code.r c_towpathlaw16_lives_11
noncomputable def c_towpathlaw16_lives_15 : Code := Code.r c_towpathlaw16_lives_10
noncomputable def c_towpathlaw16_lives_16 : Code := Code.r c_towpathlaw16_lives_6
noncomputable def c_towpathlaw16_lives_17 : Code := Code.l c_towpathlaw16_lives_16
noncomputable def r_towpathlaw16_lives_17 : Array Oper := Code.ops c_towpathlaw16_lives_17
noncomputable def c_towpathlaw16_lives_19 : Code := Code.r c_towpathlaw16_lives_16
noncomputable def c_towpathlaw16_lives_20 : Code := Code.l c_towpathlaw16_lives_19
noncomputable def c_towpathlaw16_lives_21 : Code := Code.l c_towpathlaw16_lives_20
noncomputable def r_towpathlaw16_lives_21 : Array Oper := Code.ops c_towpathlaw16_lives_21
noncomputable def c_towpathlaw16_lives_23 : Code := Code.r c_towpathlaw16_lives_20
noncomputable def c_towpathlaw16_lives_24 : Code := Code.l c_towpathlaw16_lives_23
noncomputable def c_towpathlaw16_lives_25 : Code := Code.l c_towpathlaw16_lives_24
noncomputable def r_towpathlaw16_lives_25 : Array Oper := Code.ops c_towpathlaw16_lives_25
noncomputable def c_towpathlaw16_lives_27 : Code := Code.r c_towpathlaw16_lives_24
noncomputable def c_towpathlaw16_lives_28 : Code := Code.r c_towpathlaw16_lives_23
noncomputable def c_towpathlaw16_lives_29 : Code := Code.r c_towpathlaw16_lives_19
noncomputable def c_towpathlaw16_lives_30 : Code := Code.l c_towpathlaw16_lives_29
noncomputable def r_towpathlaw16_lives_30 : Array Oper := Code.ops c_towpathlaw16_lives_30
noncomputable def c_towpathlaw16_lives_32 : Code := Code.r c_towpathlaw16_lives_29
noncomputable def c_towpathlaw16_lives_33 : Code := Code.l c_towpathlaw16_lives_32
noncomputable def r_towpathlaw16_lives_33 : Array Oper := Code.ops c_towpathlaw16_lives_33
noncomputable def c_towpathlaw16_lives_35 : Code := Code.r c_towpathlaw16_lives_32
noncomputable def c_towpathlaw16_lives_36 : Code := Code.l c_towpathlaw16_lives_35
noncomputable def r_towpathlaw16_lives_36 : Array Oper := Code.ops c_towpathlaw16_lives_36
noncomputable def c_towpathlaw16_lives_38 : Code := Code.r c_towpathlaw16_lives_35
noncomputable def c_towpathlaw16_lives_39 : Code := Code.l c_towpathlaw16_lives_38
noncomputable def r_towpathlaw16_lives_39 : Array Oper := Code.ops c_towpathlaw16_lives_39
noncomputable def c_towpathlaw16_lives_41 : Code := Code.r c_towpathlaw16_lives_38
noncomputable def c_towpathlaw16_lives_42 : Code := Code.l c_towpathlaw16_lives_41
noncomputable def r_towpathlaw16_lives_42 : Array Oper := Code.ops c_towpathlaw16_lives_42
noncomputable def c_towpathlaw16_lives_44 : Code := Code.r c_towpathlaw16_lives_41

set_option maxRecDepth 100000 in
set_option maxHeartbeats 4000000 in
theorem S_towpathlaw16_lives {w : World} {R : Bool → World → Prop} (h : F_towpathlaw16_lives R w) : C_towpathlaw16_lives w R := by
  unfold F_towpathlaw16_lives at h
  unfold C_towpathlaw16_lives
  refine Calls.mono (calls_of_wpE (args := []) (R := fun v w' => ∃ (r0 : Bool), v = Value.bool r0 ∧ R r0 w') Try.func12 (c := c_towpathlaw16_lives_0) (by kernel_rfl) 87 (by kernel_rfl) (by kernel_rfl) [] (by kernel_rfl) ?_) ?_
  · refine wpE_seq (x := c_towpathlaw16_lives_1) (y := c_towpathlaw16_lives_3) (by kernel_rfl) ?_
    refine wpE_region (id := 0) (ops := r_towpathlaw16_lives_1) (by kernel_rfl) ?_
    refine reg_run [.plain] 1 [] (by kernel_rfl) (by kernel_rfl) ?_
    refine reg_end [] (by kernel_rfl) (by kernel_rfl) ?_
    change WpE _ _ c_towpathlaw16_lives_3 _ _ _
    refine wpE_seq (x := c_towpathlaw16_lives_4) (y := c_towpathlaw16_lives_6) (by kernel_rfl) ?_
    refine wpE_region (id := 1) (ops := r_towpathlaw16_lives_4) (by kernel_rfl) ?_
    refine reg_run [] 0 [] (by kernel_rfl) (by kernel_rfl) ?_
    refine reg_enter (op := (Go.Op.call (Go.Call.mk (Go.Callee.value (Go.Operand.func 45)) #[] #[]))) (ty := 22) (dst := some 12) 45 #[] (by kernel_rfl) (fun ww => by kernel_rfl) (Calls.mono h ?_)
    rintro _ w1 ⟨v12, rfl, h⟩
    refine ⟨_, rfl, ?_⟩
    refine reg_run [] 1 [(12, [], Value.slice v12.ptr v12.len v12.cap)] (by kernel_rfl) (by kernel_rfl) ?_
    refine reg_enter (op := (Go.Op.call (Go.Call.mk (Go.Callee.value (Go.Operand.func 40)) #[(Go.Operand.tmp 12)] #[22]))) (ty := 105) (dst := some 13) 40 #[Value.slice v12.ptr v12.len v12.cap] (by kernel_rfl) (fun ww => by kernel_rfl) (Calls.mono h ?_)
    rintro _ w2 ⟨s, e, rfl, h⟩
    refine ⟨_, rfl, ?_⟩
    refine reg_run [.plain, .plain, .plain, .plain, .plain] 7 [(1, [], Value.pointer s), (2, [], Value.int .i64 e)] (by kernel_rfl) (by kernel_rfl) ?_
    refine reg_end [(1, Value.pointer s), (2, Value.int .i64 e)] (by kernel_rfl) (by kernel_rfl) ?_
    change WpE _ _ c_towpathlaw16_lives_6 _ _ _
    refine wpE_seq (x := c_towpathlaw16_lives_7) (y := c_towpathlaw16_lives_16) (by kernel_rfl) ?_
    refine wpE_seq (x := c_towpathlaw16_lives_8) (y := c_towpathlaw16_lives_10) (by kernel_rfl) ?_
    refine wpE_region (id := 2) (ops := r_towpathlaw16_lives_8) (by kernel_rfl) ?_
    refine reg_run [.plain, .plain] 2 [(1, [], Value.pointer s), (17, [], Value.bool (e != 0))] (by kernel_rfl) (by kernel_rfl) ?_
    refine reg_end [(1, Value.pointer s), (17, Value.bool (e != 0))] (by kernel_rfl) (by kernel_rfl) ?_
    change WpE _ _ c_towpathlaw16_lives_10 _ _ _
    refine wpE_cond (o := (Operand.tmp 17)) (b := (e != 0)) (x := c_towpathlaw16_lives_11) (y := c_towpathlaw16_lives_15) (by kernel_rfl) (by kernel_rfl) (fun hb => ?_) (fun hb => ?_)
    · replace h := h.1 hb
      refine wpE_seq (x := c_towpathlaw16_lives_12) (y := c_towpathlaw16_lives_14) (by kernel_rfl) ?_
      refine wpE_region (id := 3) (ops := r_towpathlaw16_lives_12) (by kernel_rfl) ?_
      refine reg_run [.plain] 1 [(0, [], Value.bool false)] (by kernel_rfl) (by kernel_rfl) ?_
      refine reg_end [(0, Value.bool false)] (by kernel_rfl) (by kernel_rfl) ?_
      change WpE _ _ c_towpathlaw16_lives_14 _ _ _
      refine wpE_ret (by kernel_rfl) ?_
      repeat (first | refine seqQ_ret ?_ | refine blockQ_ret ?_ | refine loopQ_ret ?_ | refine cutQ_ret ?_)
      exact retS (rs := [(Go.ResultVar.tmp 0)]) (v := Value.bool false) (by kernel_rfl) (⟨by kernel_rfl, trivial⟩) ⟨false, rfl, h⟩
    · replace h := h.2 hb
      refine wpE_skip (by kernel_rfl) ?_
      change WpE _ _ c_towpathlaw16_lives_16 _ _ _
      refine wpE_seq (x := c_towpathlaw16_lives_17) (y := c_towpathlaw16_lives_19) (by kernel_rfl) ?_
      refine wpE_region (id := 4) (ops := r_towpathlaw16_lives_17) (by kernel_rfl) ?_
      refine reg_run [.plain] 1 [(19, [], Value.pointer s)] (by kernel_rfl) (by kernel_rfl) ?_
      refine reg_enter (op := (Go.Op.call (Go.Call.mk (Go.Callee.value (Go.Operand.func 27)) #[(Go.Operand.tmp 19), (Go.Operand.const (Go.Value.int Go.IntKind.i64 0)), (Go.Operand.const (Go.Value.slice none 0 0)), (Go.Operand.const (Go.Value.int Go.IntKind.i64 1))] #[28, 3, 23, 3]))) (ty := 60) (dst := some 20) 27 #[Value.pointer s, Value.int .i64 0, Value.slice none 0 0, Value.int .i64 1] (by kernel_rfl) (fun ww => by kernel_rfl) (Calls.mono h ?_)
      rintro _ w3 ⟨f, e1, rfl, h⟩
      refine ⟨_, rfl, ?_⟩
      refine reg_run [.plain, .plain, .plain, .plain, .plain] 7 [(2, [], Value.int .i64 e1), (3, [], Value.pointer f)] (by kernel_rfl) (by kernel_rfl) ?_
      refine reg_end [(2, Value.int .i64 e1), (3, Value.pointer f)] (by kernel_rfl) (by kernel_rfl) ?_
      change WpE _ _ c_towpathlaw16_lives_19 _ _ _
      refine wpE_seq (x := c_towpathlaw16_lives_20) (y := c_towpathlaw16_lives_29) (by kernel_rfl) ?_
      refine wpE_seq_cut (x := c_towpathlaw16_lives_21) (y := c_towpathlaw16_lives_23) (by kernel_rfl) (fun l w => ∃ (t34 : Bool), l = [(3, Value.pointer f), (34, Value.bool t34)] ∧ F_towpathlaw16_lives_k0 R f t34 w) ?_ ?_
      · refine wpE_region (id := 5) (ops := r_towpathlaw16_lives_21) (by kernel_rfl) ?_
        refine reg_run [.plain, .plain, .plain, .plain] 4 [(3, [], Value.pointer f), (25, [], Value.bool (e1 != 0)), (26, [(25, false)], Value.pointer f)] (by kernel_rfl) (by kernel_rfl) ?_
        refine reg_split 25 (e1 != 0) (by kernel_rfl) (fun hb => ?_) (fun hb => ?_)
        · replace h := h.1 hb
          refine reg_run [] 4 [(3, [], Value.pointer f), (25, [], Value.bool true), (26, [], undef)] (by kernel_rfl) (by kernel_rfl) ?_
          refine reg_run [.skip, .skip, .plain, .plain, .skip, .skip, .skip, .plain] 12 [(3, [], Value.pointer f), (34, [], Value.bool true)] (by kernel_rfl) (by kernel_rfl) ?_
          refine reg_end [(3, Value.pointer f), (34, Value.bool true)] (by kernel_rfl) (by kernel_rfl) ?_
          exact ⟨[(3, Value.pointer f), (34, Value.bool true)], Sub.mk (by kernel_rfl), true, rfl, h⟩
        · replace h := h.2 hb
          refine reg_run [] 4 [(3, [], Value.pointer f), (25, [], Value.bool false), (26, [], Value.pointer f)] (by kernel_rfl) (by kernel_rfl) ?_
          refine reg_run [] 4 [(3, [], Value.pointer f), (25, [], Value.bool false), (26, [], Value.pointer f)] (by kernel_rfl) (by kernel_rfl) ?_
          refine reg_enter (op := (Go.Op.call (Go.Call.mk (Go.Callee.value (Go.Operand.func 13)) #[(Go.Operand.tmp 26), (Go.Operand.const (Go.Value.int Go.IntKind.i64 2))] #[26, 3]))) (ty := 32) (dst := some 27) 13 #[Value.pointer f, Value.int .i64 2] (by kernel_rfl) (fun ww => by kernel_rfl) (Calls.mono h ?_)
          rintro _ w14 ⟨v27, rfl, h⟩
          refine ⟨_, rfl, ?_⟩
          refine reg_run [.sure, .plain, .plain, .plain] 9 [(3, [], Value.pointer f), (30, [], Value.bool (v27 != 0)), (31, [(30, false)], Value.pointer f)] (by kernel_rfl) (by kernel_rfl) ?_
          refine reg_split 30 (v27 != 0) (by kernel_rfl) (fun hb => ?_) (fun hb => ?_)
          · replace h := h.1 hb
            refine reg_run [] 9 [(3, [], Value.pointer f), (30, [], Value.bool true), (31, [], undef)] (by kernel_rfl) (by kernel_rfl) ?_
            refine reg_run [.skip, .skip, .plain] 12 [(3, [], Value.pointer f), (34, [], Value.bool true)] (by kernel_rfl) (by kernel_rfl) ?_
            refine reg_end [(3, Value.pointer f), (34, Value.bool true)] (by kernel_rfl) (by kernel_rfl) ?_
            exact ⟨[(3, Value.pointer f), (34, Value.bool true)], Sub.mk (by kernel_rfl), true, rfl, h⟩
          · replace h := h.2 hb
            refine reg_run [] 9 [(3, [], Value.pointer f), (30, [], Value.bool false), (31, [], Value.pointer f)] (by kernel_rfl) (by kernel_rfl) ?_
            refine reg_run [] 9 [(3, [], Value.pointer f), (30, [], Value.bool false), (31, [], Value.pointer f)] (by kernel_rfl) (by kernel_rfl) ?_
            refine reg_enter (op := (Go.Op.call (Go.Call.mk (Go.Callee.value (Go.Operand.func 18)) #[(Go.Operand.tmp 31), (Go.Operand.const (Go.Value.int Go.IntKind.i64 0))] #[26, 3]))) (ty := 38) (dst := some 32) 18 #[Value.pointer f, Value.int .i64 0] (by kernel_rfl) (fun ww => by kernel_rfl) (Calls.mono h ?_)
            rintro _ w15 ⟨v32, rfl, h⟩
            refine ⟨_, rfl, ?_⟩
            refine reg_run [.sure, .plain] 12 [(3, [], Value.pointer f), (34, [], Value.bool (v32 != 1))] (by kernel_rfl) (by kernel_rfl) ?_
            refine reg_end [(3, Value.pointer f), (34, Value.bool (v32 != 1))] (by kernel_rfl) (by kernel_rfl) ?_
            exact ⟨[(3, Value.pointer f), (34, Value.bool (v32 != 1))], Sub.mk (by kernel_rfl), (v32 != 1), rfl, h⟩
      · rintro _ w4 ⟨t34, rfl, h⟩
        unfold F_towpathlaw16_lives_k0 at h
        refine wpE_cond (o := (Operand.tmp 34)) (b := t34) (x := c_towpathlaw16_lives_24) (y := c_towpathlaw16_lives_28) (by kernel_rfl) (by kernel_rfl) (fun hb => ?_) (fun hb => ?_)
        · replace h := h.1 hb
          refine wpE_seq (x := c_towpathlaw16_lives_25) (y := c_towpathlaw16_lives_27) (by kernel_rfl) ?_
          refine wpE_region (id := 6) (ops := r_towpathlaw16_lives_25) (by kernel_rfl) ?_
          refine reg_run [.plain] 1 [(0, [], Value.bool false)] (by kernel_rfl) (by kernel_rfl) ?_
          refine reg_end [(0, Value.bool false)] (by kernel_rfl) (by kernel_rfl) ?_
          change WpE _ _ c_towpathlaw16_lives_27 _ _ _
          refine wpE_ret (by kernel_rfl) ?_
          repeat (first | refine seqQ_ret ?_ | refine blockQ_ret ?_ | refine loopQ_ret ?_ | refine cutQ_ret ?_)
          exact retS (rs := [(Go.ResultVar.tmp 0)]) (v := Value.bool false) (by kernel_rfl) (⟨by kernel_rfl, trivial⟩) ⟨false, rfl, h⟩
        · replace h := h.2 hb
          refine wpE_skip (by kernel_rfl) ?_
          change WpE _ _ c_towpathlaw16_lives_29 _ _ _
          refine wpE_seq (x := c_towpathlaw16_lives_30) (y := c_towpathlaw16_lives_32) (by kernel_rfl) ?_
          refine wpE_region (id := 7) (ops := r_towpathlaw16_lives_30) (by kernel_rfl) ?_
          refine reg_run [.plain] 1 [(3, [], Value.pointer f), (36, [], Value.pointer f)] (by kernel_rfl) (by kernel_rfl) ?_
          refine reg_enter (op := (Go.Op.call (Go.Call.mk (Go.Callee.value (Go.Operand.func 14)) #[(Go.Operand.tmp 36)] #[26]))) (ty := 34) (dst := some 37) 14 #[Value.pointer f] (by kernel_rfl) (fun ww => by kernel_rfl) (Calls.mono h ?_)
          rintro _ w5 ⟨n_, e2, rfl, h⟩
          refine ⟨_, rfl, ?_⟩
          refine reg_run [.plain, .plain, .plain, .plain, .plain] 7 [(2, [], Value.int .i64 e2), (3, [], Value.pointer f), (4, [], Value.int .i64 n_)] (by kernel_rfl) (by kernel_rfl) ?_
          refine reg_end [(2, Value.int .i64 e2), (3, Value.pointer f), (4, Value.int .i64 n_)] (by kernel_rfl) (by kernel_rfl) ?_
          change WpE _ _ c_towpathlaw16_lives_32 _ _ _
          refine wpE_seq (x := c_towpathlaw16_lives_33) (y := c_towpathlaw16_lives_35) (by kernel_rfl) ?_
          refine wpE_region (id := 8) (ops := r_towpathlaw16_lives_33) (by kernel_rfl) ?_
          refine reg_run [.plain] 1 [(2, [], Value.int .i64 e2), (3, [], Value.pointer f), (4, [], Value.int .i64 n_), (41, [], Value.pointer f)] (by kernel_rfl) (by kernel_rfl) ?_
          refine reg_enter (op := (Go.Op.call (Go.Call.mk (Go.Callee.value (Go.Operand.func 19)) #[(Go.Operand.tmp 41), (Go.Operand.const (Go.Value.int Go.IntKind.i64 0))] #[26, 3]))) (ty := 43) (dst := some 42) 19 #[Value.pointer f, Value.int .i64 0] (by kernel_rfl) (fun ww => by kernel_rfl) (Calls.mono h ?_)
          rintro _ w6 ⟨v42, g, rfl, h⟩
          refine ⟨_, rfl, ?_⟩
          refine reg_run [.plain, .plain, .plain] 5 [(2, [], Value.int .i64 e2), (3, [], Value.pointer f), (4, [], Value.int .i64 n_), (43, [], Value.agg #[Value.int .i64 v42.Number, Value.slice v42.Writes.ptr v42.Writes.len v42.Writes.cap]), (44, [], Value.int .i64 g)] (by kernel_rfl) (by kernel_rfl) ?_
          refine reg_new (op := (Go.Op.alloc 42)) (ty := 0) (dst := some 5) (fun bb => Value.pointer (some ⟨bb, 0, none⟩)) (Obj.cells ([Value.int .i64 0, Value.slice none 0 0]).toArray ty_api_Txn (0, 0)) (by kernel_rfl) (by kernel_rfl) (fun b_ w7 hb hw => ?_)
          replace h := h b_ w7 hb hw
          clear hb hw
          refine reg_run [] 6 [(2, [], Value.int .i64 e2), (3, [], Value.pointer f), (4, [], Value.int .i64 n_), (5, [], Value.pointer (some ⟨b_, 0, none⟩)), (43, [], Value.agg #[Value.int .i64 v42.Number, Value.slice v42.Writes.ptr v42.Writes.len v42.Writes.cap]), (44, [], Value.int .i64 g)] (by kernel_rfl) (by kernel_rfl) ?_
          obtain ⟨hc, h⟩ := h
          refine reg_store (t := 42) (a := (Go.Operand.tmp 5)) (x := (Go.Operand.tmp 43)) (b := b_) (o := 0) (ty := 0) (dst := none) [Value.int .i64 v42.Number, Value.slice v42.Writes.ptr v42.Writes.len v42.Writes.cap] (by kernel_rfl) (by kernel_rfl) (by kernel_rfl) (k := 2) (by kernel_rfl) (by kernel_rfl) (by kernel_rfl) hc (fun w8 hw => ?_)
          replace h := h w8 hw
          clear hw
          refine reg_run [.plain] 8 [(2, [], Value.int .i64 e2), (3, [], Value.pointer f), (4, [], Value.int .i64 n_), (5, [], Value.pointer (some ⟨b_, 0, none⟩)), (6, [], Value.int .i64 g)] (by kernel_rfl) (by kernel_rfl) ?_
          refine reg_end [(2, Value.int .i64 e2), (3, Value.pointer f), (4, Value.int .i64 n_), (5, Value.pointer (some ⟨b_, 0, none⟩)), (6, Value.int .i64 g)] (by kernel_rfl) (by kernel_rfl) ?_
          change WpE _ _ c_towpathlaw16_lives_35 _ _ _
          refine wpE_seq (x := c_towpathlaw16_lives_36) (y := c_towpathlaw16_lives_38) (by kernel_rfl) ?_
          refine wpE_region (id := 9) (ops := r_towpathlaw16_lives_36) (by kernel_rfl) ?_
          refine reg_run [.plain] 1 [(2, [], Value.int .i64 e2), (3, [], Value.pointer f), (4, [], Value.int .i64 n_), (5, [], Value.pointer (some ⟨b_, 0, none⟩)), (6, [], Value.int .i64 g), (46, [], Value.pointer f)] (by kernel_rfl) (by kernel_rfl) ?_
          refine reg_enter (op := (Go.Op.call (Go.Call.mk (Go.Callee.value (Go.Operand.func 14)) #[(Go.Operand.tmp 46)] #[26]))) (ty := 34) (dst := some 47) 14 #[Value.pointer f] (by kernel_rfl) (fun ww => by kernel_rfl) (Calls.mono h ?_)
          rintro _ w9 ⟨m_, h_, rfl, h⟩
          refine ⟨_, rfl, ?_⟩
          refine reg_run [.plain, .plain, .plain, .plain, .plain] 7 [(2, [], Value.int .i64 e2), (3, [], Value.pointer f), (4, [], Value.int .i64 n_), (5, [], Value.pointer (some ⟨b_, 0, none⟩)), (6, [], Value.int .i64 g), (7, [], Value.int .i64 m_), (8, [], Value.int .i64 h_)] (by kernel_rfl) (by kernel_rfl) ?_
          refine reg_end [(2, Value.int .i64 e2), (3, Value.pointer f), (4, Value.int .i64 n_), (5, Value.pointer (some ⟨b_, 0, none⟩)), (6, Value.int .i64 g), (7, Value.int .i64 m_), (8, Value.int .i64 h_)] (by kernel_rfl) (by kernel_rfl) ?_
          change WpE _ _ c_towpathlaw16_lives_38 _ _ _
          refine wpE_seq (x := c_towpathlaw16_lives_39) (y := c_towpathlaw16_lives_41) (by kernel_rfl) ?_
          refine wpE_region (id := 10) (ops := r_towpathlaw16_lives_39) (by kernel_rfl) ?_
          refine reg_run [.plain] 1 [(2, [], Value.int .i64 e2), (3, [], Value.pointer f), (4, [], Value.int .i64 n_), (5, [], Value.pointer (some ⟨b_, 0, none⟩)), (6, [], Value.int .i64 g), (7, [], Value.int .i64 m_), (8, [], Value.int .i64 h_), (51, [], Value.pointer f)] (by kernel_rfl) (by kernel_rfl) ?_
          refine reg_enter (op := (Go.Op.call (Go.Call.mk (Go.Callee.value (Go.Operand.func 19)) #[(Go.Operand.tmp 51), (Go.Operand.const (Go.Value.int Go.IntKind.i64 0))] #[26, 3]))) (ty := 43) (dst := some 52) 19 #[Value.pointer f, Value.int .i64 0] (by kernel_rfl) (fun ww => by kernel_rfl) (Calls.mono h ?_)
          rintro _ w10 ⟨v52, i, rfl, h⟩
          refine ⟨_, rfl, ?_⟩
          refine reg_run [.plain, .plain, .plain] 5 [(2, [], Value.int .i64 e2), (3, [], Value.pointer f), (4, [], Value.int .i64 n_), (5, [], Value.pointer (some ⟨b_, 0, none⟩)), (6, [], Value.int .i64 g), (7, [], Value.int .i64 m_), (8, [], Value.int .i64 h_), (53, [], Value.agg #[Value.int .i64 v52.Number, Value.slice v52.Writes.ptr v52.Writes.len v52.Writes.cap]), (54, [], Value.int .i64 i)] (by kernel_rfl) (by kernel_rfl) ?_
          refine reg_new (op := (Go.Op.alloc 42)) (ty := 0) (dst := some 9) (fun bb => Value.pointer (some ⟨bb, 0, none⟩)) (Obj.cells ([Value.int .i64 0, Value.slice none 0 0]).toArray ty_api_Txn (0, 0)) (by kernel_rfl) (by kernel_rfl) (fun b_1 w11 hb hw => ?_)
          replace h := h b_1 w11 hb hw
          clear hb hw
          refine reg_run [] 6 [(2, [], Value.int .i64 e2), (3, [], Value.pointer f), (4, [], Value.int .i64 n_), (5, [], Value.pointer (some ⟨b_, 0, none⟩)), (6, [], Value.int .i64 g), (7, [], Value.int .i64 m_), (8, [], Value.int .i64 h_), (9, [], Value.pointer (some ⟨b_1, 0, none⟩)), (53, [], Value.agg #[Value.int .i64 v52.Number, Value.slice v52.Writes.ptr v52.Writes.len v52.Writes.cap]), (54, [], Value.int .i64 i)] (by kernel_rfl) (by kernel_rfl) ?_
          obtain ⟨hc, h⟩ := h
          refine reg_store (t := 42) (a := (Go.Operand.tmp 9)) (x := (Go.Operand.tmp 53)) (b := b_1) (o := 0) (ty := 0) (dst := none) [Value.int .i64 v52.Number, Value.slice v52.Writes.ptr v52.Writes.len v52.Writes.cap] (by kernel_rfl) (by kernel_rfl) (by kernel_rfl) (k := 2) (by kernel_rfl) (by kernel_rfl) (by kernel_rfl) hc (fun w12 hw => ?_)
          replace h := h w12 hw
          clear hw
          refine reg_run [.plain] 8 [(2, [], Value.int .i64 e2), (3, [], Value.pointer f), (4, [], Value.int .i64 n_), (5, [], Value.pointer (some ⟨b_, 0, none⟩)), (6, [], Value.int .i64 g), (7, [], Value.int .i64 m_), (8, [], Value.int .i64 h_), (10, [], Value.int .i64 i)] (by kernel_rfl) (by kernel_rfl) ?_
          refine reg_end [(2, Value.int .i64 e2), (3, Value.pointer f), (4, Value.int .i64 n_), (5, Value.pointer (some ⟨b_, 0, none⟩)), (6, Value.int .i64 g), (7, Value.int .i64 m_), (8, Value.int .i64 h_), (10, Value.int .i64 i)] (by kernel_rfl) (by kernel_rfl) ?_
          change WpE _ _ c_towpathlaw16_lives_41 _ _ _
          refine wpE_seq (x := c_towpathlaw16_lives_42) (y := c_towpathlaw16_lives_44) (by kernel_rfl) ?_
          refine wpE_region (id := 11) (ops := r_towpathlaw16_lives_42) (by kernel_rfl) ?_
          refine reg_run [.plain, .plain, .plain, .plain, .plain, .pick, .plain, .plain, .plain, .pick, .plain, .plain] 12 [(3, [], Value.pointer f), (7, [], Value.int .i64 m_), (8, [], Value.int .i64 h_), (10, [], Value.int .i64 i), (65, [], Value.bool (((e2 == 0) && (n_ == 1)) && (g == 0))), (66, [(65, true)], Value.pointer (some ⟨b_, 0, none⟩))] (by kernel_rfl) (by kernel_rfl) ?_
          refine reg_split 65 (((e2 == 0) && (n_ == 1)) && (g == 0)) (by kernel_rfl) (fun hb => ?_) (fun hb => ?_)
          · replace h := h.1 hb
            refine reg_run [] 12 [(3, [], Value.pointer f), (7, [], Value.int .i64 m_), (8, [], Value.int .i64 h_), (10, [], Value.int .i64 i), (65, [], Value.bool true), (66, [], Value.pointer (some ⟨b_, 0, none⟩))] (by kernel_rfl) (by kernel_rfl) ?_
            refine reg_run [] 12 [(3, [], Value.pointer f), (7, [], Value.int .i64 m_), (8, [], Value.int .i64 h_), (10, [], Value.int .i64 i), (65, [], Value.bool true), (66, [], Value.pointer (some ⟨b_, 0, none⟩))] (by kernel_rfl) (by kernel_rfl) ?_
            obtain ⟨v67, hc, h⟩ := h
            refine reg_load1 (t := 3) (a := (Go.Operand.tmp 66)) (b := b_) (o := 0) (ty := 3) (dst := some 67) (by kernel_rfl) (by kernel_rfl) (by kernel_rfl) hc ?_
            refine reg_run [.sure, .plain, .plain, .plain, .plain, .pick, .plain, .plain, .plain, .pick, .plain, .plain, .plain, .pick, .plain, .plain] 29 [(82, [], Value.bool ((((v67 == 1) && (h_ == 0)) && (m_ == 2)) && (i == 6))), (83, [(82, true)], Value.pointer f)] (by kernel_rfl) (by kernel_rfl) ?_
            refine reg_split 82 ((((v67 == 1) && (h_ == 0)) && (m_ == 2)) && (i == 6)) (by kernel_rfl) (fun hb => ?_) (fun hb => ?_)
            · replace h := h.1 hb
              refine reg_run [] 29 [(82, [], Value.bool true), (83, [], Value.pointer f)] (by kernel_rfl) (by kernel_rfl) ?_
              refine reg_run [] 29 [(82, [], Value.bool true), (83, [], Value.pointer f)] (by kernel_rfl) (by kernel_rfl) ?_
              refine reg_enter (op := (Go.Op.call (Go.Call.mk (Go.Callee.value (Go.Operand.func 18)) #[(Go.Operand.tmp 83), (Go.Operand.const (Go.Value.int Go.IntKind.i64 1))] #[26, 3]))) (ty := 38) (dst := some 84) 18 #[Value.pointer f, Value.int .i64 1] (by kernel_rfl) (fun ww => by kernel_rfl) (Calls.mono h ?_)
              rintro _ w13 ⟨v84, rfl, h⟩
              refine ⟨_, rfl, ?_⟩
              refine reg_run [.sure, .plain, .plain] 33 [(0, [], Value.bool (v84 == 3))] (by kernel_rfl) (by kernel_rfl) ?_
              refine reg_end [(0, Value.bool (v84 == 3))] (by kernel_rfl) (by kernel_rfl) ?_
              change WpE _ _ c_towpathlaw16_lives_44 _ _ _
              refine wpE_ret (by kernel_rfl) ?_
              repeat (first | refine seqQ_ret ?_ | refine blockQ_ret ?_ | refine loopQ_ret ?_ | refine cutQ_ret ?_)
              exact retS (rs := [(Go.ResultVar.tmp 0)]) (v := Value.bool (v84 == 3)) (by kernel_rfl) (⟨by kernel_rfl, trivial⟩) ⟨(v84 == 3), rfl, h⟩
            · replace h := h.2 hb
              refine reg_run [] 29 [(82, [], Value.bool false), (83, [], undef)] (by kernel_rfl) (by kernel_rfl) ?_
              refine reg_run [.skip, .skip, .plain, .plain] 33 [(0, [], Value.bool false)] (by kernel_rfl) (by kernel_rfl) ?_
              refine reg_end [(0, Value.bool false)] (by kernel_rfl) (by kernel_rfl) ?_
              change WpE _ _ c_towpathlaw16_lives_44 _ _ _
              refine wpE_ret (by kernel_rfl) ?_
              repeat (first | refine seqQ_ret ?_ | refine blockQ_ret ?_ | refine loopQ_ret ?_ | refine cutQ_ret ?_)
              exact retS (rs := [(Go.ResultVar.tmp 0)]) (v := Value.bool false) (by kernel_rfl) (⟨by kernel_rfl, trivial⟩) ⟨false, rfl, h⟩
          · replace h := h.2 hb
            refine reg_run [] 12 [(3, [], Value.pointer f), (7, [], Value.int .i64 m_), (8, [], Value.int .i64 h_), (10, [], Value.int .i64 i), (65, [], Value.bool false), (66, [], undef)] (by kernel_rfl) (by kernel_rfl) ?_
            refine reg_run [.skip, .skip, .plain, .plain, .skip, .skip, .plain, .plain, .skip, .skip, .plain, .plain, .skip, .skip, .plain, .plain, .skip, .skip, .skip, .plain, .plain] 33 [(0, [], Value.bool false)] (by kernel_rfl) (by kernel_rfl) ?_
            refine reg_end [(0, Value.bool false)] (by kernel_rfl) (by kernel_rfl) ?_
            change WpE _ _ c_towpathlaw16_lives_44 _ _ _
            refine wpE_ret (by kernel_rfl) ?_
            repeat (first | refine seqQ_ret ?_ | refine blockQ_ret ?_ | refine loopQ_ret ?_ | refine cutQ_ret ?_)
            exact retS (rs := [(Go.ResultVar.tmp 0)]) (v := Value.bool false) (by kernel_rfl) (⟨by kernel_rfl, trivial⟩) ⟨false, rfl, h⟩
  · rintro e w' ⟨v, rfl, r0, rfl, h⟩; exact ⟨r0, rfl, h⟩

/-! ### towpath/towpathlaw16.in (function 21) -/
noncomputable def c_towpathlaw16_in_0 : Code := (Try.f21.body).getD Code.skip
noncomputable def c_towpathlaw16_in_1 : Code := Code.l c_towpathlaw16_in_0
noncomputable def r_towpathlaw16_in_1 : Array Oper := Code.ops c_towpathlaw16_in_1
noncomputable def c_towpathlaw16_in_3 : Code := Code.r c_towpathlaw16_in_0
noncomputable def c_towpathlaw16_in_4 : Code := Code.l c_towpathlaw16_in_3
noncomputable def c_towpathlaw16_in_5 : Code := Code.l c_towpathlaw16_in_4
noncomputable def r_towpathlaw16_in_5 : Array Oper := Code.ops c_towpathlaw16_in_5
noncomputable def c_towpathlaw16_in_7 : Code := Code.r c_towpathlaw16_in_4
noncomputable def c_towpathlaw16_in_8 : Code := Code.l c_towpathlaw16_in_7
noncomputable def c_towpathlaw16_in_9 : Code := Code.l c_towpathlaw16_in_8
noncomputable def c_towpathlaw16_in_10 : Code := Code.l c_towpathlaw16_in_9
noncomputable def c_towpathlaw16_in_11 : Code := Code.l c_towpathlaw16_in_10
noncomputable def r_towpathlaw16_in_11 : Array Oper := Code.ops c_towpathlaw16_in_11
noncomputable def c_towpathlaw16_in_13 : Code := Code.r c_towpathlaw16_in_10
noncomputable def c_towpathlaw16_in_14 : Code := Code.l c_towpathlaw16_in_13
noncomputable def c_towpathlaw16_in_15 : Code := Code.r c_towpathlaw16_in_13
noncomputable def c_towpathlaw16_in_16 : Code := Code.r c_towpathlaw16_in_9
noncomputable def c_towpathlaw16_in_17 : Code := Code.l c_towpathlaw16_in_16
noncomputable def c_towpathlaw16_in_18 : Code := Code.l c_towpathlaw16_in_17
noncomputable def c_towpathlaw16_in_19 : Code := Code.l c_towpathlaw16_in_18
noncomputable def r_towpathlaw16_in_19 : Array Oper := Code.ops c_towpathlaw16_in_19
noncomputable def c_towpathlaw16_in_21 : Code := Code.r c_towpathlaw16_in_18
noncomputable def c_towpathlaw16_in_22 : Code := Code.l c_towpathlaw16_in_21
noncomputable def c_towpathlaw16_in_23 : Code := Code.l c_towpathlaw16_in_22
noncomputable def r_towpathlaw16_in_23 : Array Oper := Code.ops c_towpathlaw16_in_23
noncomputable def c_towpathlaw16_in_25 : Code := Code.r c_towpathlaw16_in_22
noncomputable def c_towpathlaw16_in_26 : Code := Code.r c_towpathlaw16_in_21
noncomputable def c_towpathlaw16_in_27 : Code := Code.r c_towpathlaw16_in_16
noncomputable def r_towpathlaw16_in_27 : Array Oper := Code.ops c_towpathlaw16_in_27
noncomputable def c_towpathlaw16_in_29 : Code := Code.r c_towpathlaw16_in_3
noncomputable def c_towpathlaw16_in_30 : Code := Code.l c_towpathlaw16_in_29
noncomputable def r_towpathlaw16_in_30 : Array Oper := Code.ops c_towpathlaw16_in_30
noncomputable def c_towpathlaw16_in_32 : Code := Code.r c_towpathlaw16_in_29

set_option maxRecDepth 100000 in
set_option maxHeartbeats 4000000 in
theorem S_towpathlaw16_in {l_ : Slc} {n_ : Int} {w : World} {R : Bool → World → Prop} (h : F_towpathlaw16_in l_ n_ R w) : C_towpathlaw16_in l_ n_ w R := by
  unfold F_towpathlaw16_in at h
  unfold C_towpathlaw16_in
  refine Calls.mono (calls_of_wpE (args := [Value.slice l_.ptr l_.len l_.cap, Value.int .i64 n_]) (R := fun v w' => ∃ (r0 : Bool), v = Value.bool r0 ∧ R r0 w') Try.func21 (c := c_towpathlaw16_in_0) (by kernel_rfl) 18 (by kernel_rfl) (by kernel_rfl) [(0, Value.slice l_.ptr l_.len l_.cap), (1, Value.int .i64 n_)] (by kernel_rfl) ?_) ?_
  · refine wpE_seq (x := c_towpathlaw16_in_1) (y := c_towpathlaw16_in_3) (by kernel_rfl) ?_
    refine wpE_region (id := 0) (ops := r_towpathlaw16_in_1) (by kernel_rfl) ?_
    refine reg_run [.plain] 1 [(0, [], Value.slice l_.ptr l_.len l_.cap), (1, [], Value.int .i64 n_)] (by kernel_rfl) (by kernel_rfl) ?_
    refine reg_end [(0, Value.slice l_.ptr l_.len l_.cap), (1, Value.int .i64 n_)] (by kernel_rfl) (by kernel_rfl) ?_
    change WpE _ _ c_towpathlaw16_in_3 _ _ _
    refine wpE_seq (x := c_towpathlaw16_in_4) (y := c_towpathlaw16_in_29) (by kernel_rfl) ?_
    refine wpE_seq (x := c_towpathlaw16_in_5) (y := c_towpathlaw16_in_7) (by kernel_rfl) ?_
    refine wpE_region (id := 1) (ops := r_towpathlaw16_in_5) (by kernel_rfl) ?_
    refine reg_run [.plain] 1 [(0, [], Value.slice l_.ptr l_.len l_.cap), (1, [], Value.int .i64 n_), (5, [], Value.int .i64 0)] (by kernel_rfl) (by kernel_rfl) ?_
    refine reg_end [(0, Value.slice l_.ptr l_.len l_.cap), (1, Value.int .i64 n_), (5, Value.int .i64 0)] (by kernel_rfl) (by kernel_rfl) ?_
    change WpE _ _ c_towpathlaw16_in_7 _ _ _
    refine wpE_block (id := 0) (x := c_towpathlaw16_in_8) (by kernel_rfl) ?_
    obtain ⟨I, μ, h0, hr⟩ := h
    refine wpE_loop (x := c_towpathlaw16_in_9) (by kernel_rfl) (fun m l w => ∃ (i : Int), l = [(0, Value.slice l_.ptr l_.len l_.cap), (1, Value.int .i64 n_), (5, Value.int .i64 i)] ∧ I i w ∧ μ i w = m) (l' := [(0, Value.slice l_.ptr l_.len l_.cap), (1, Value.int .i64 n_), (5, Value.int .i64 0)]) (Sub.mk (by kernel_rfl)) ⟨0, rfl, h0, rfl⟩ ?_
    rintro _ _ w1 ⟨i, rfl, hI, rfl⟩
    obtain ⟨again_, again__h, h⟩ : ∃ again_ : Int → World → Prop, (∀ i' w', again_ i' w' → I i' w' ∧ μ i' w' < μ i w1) ∧ F_towpathlaw16_in_L0 l_ n_ R again_ i w1 := ⟨_, fun _ _ h => h, hr i w1 hI⟩
    clear h0 hI
    unfold F_towpathlaw16_in_L0 at h
    refine wpE_seq (x := c_towpathlaw16_in_10) (y := c_towpathlaw16_in_16) (by kernel_rfl) ?_
    refine wpE_seq (x := c_towpathlaw16_in_11) (y := c_towpathlaw16_in_13) (by kernel_rfl) ?_
    refine wpE_region (id := 2) (ops := r_towpathlaw16_in_11) (by kernel_rfl) ?_
    refine reg_run [.plain, .plain, .plain, .plain] 4 [(0, [], Value.slice l_.ptr l_.len l_.cap), (1, [], Value.int .i64 n_), (5, [], Value.int .i64 i), (9, [], Value.bool (decide (i < ((l_.len : Nat) : Int))))] (by kernel_rfl) (by kernel_rfl) ?_
    refine reg_end [(0, Value.slice l_.ptr l_.len l_.cap), (1, Value.int .i64 n_), (5, Value.int .i64 i), (9, Value.bool (decide (i < ((l_.len : Nat) : Int))))] (by kernel_rfl) (by kernel_rfl) ?_
    change WpE _ _ c_towpathlaw16_in_13 _ _ _
    refine wpE_cond (o := (Operand.tmp 9)) (b := (decide (i < ((l_.len : Nat) : Int)))) (x := c_towpathlaw16_in_14) (y := c_towpathlaw16_in_15) (by kernel_rfl) (by kernel_rfl) (fun hb => ?_) (fun hb => ?_)
    · replace h := h.1 hb
      refine wpE_skip (by kernel_rfl) ?_
      change WpE _ _ c_towpathlaw16_in_16 _ _ _
      refine wpE_seq (x := c_towpathlaw16_in_17) (y := c_towpathlaw16_in_27) (by kernel_rfl) ?_
      refine wpE_block (id := 1) (x := c_towpathlaw16_in_18) (by kernel_rfl) ?_
      refine wpE_seq (x := c_towpathlaw16_in_19) (y := c_towpathlaw16_in_21) (by kernel_rfl) ?_
      refine wpE_region (id := 4) (ops := r_towpathlaw16_in_19) (by kernel_rfl) ?_
      refine reg_run [.plain, .plain] 2 [(0, [], Value.slice l_.ptr l_.len l_.cap), (1, [], Value.int .i64 n_), (5, [], Value.int .i64 i), (12, [], Value.slice l_.ptr l_.len l_.cap), (13, [], Value.int .i64 i)] (by kernel_rfl) (by kernel_rfl) ?_
      obtain ⟨hp_7, h⟩ := h
      refine reg_conv [(0, [], Value.slice l_.ptr l_.len l_.cap), (1, [], Value.int .i64 n_), (5, [], Value.int .i64 i), (12, [], Value.slice (some ⟨(pblk l_.ptr), (poff l_.ptr), none⟩) l_.len l_.cap), (13, [], Value.int .i64 i)] (congrArg (fun pp => ([(0, [], Value.slice l_.ptr l_.len l_.cap), (1, [], Value.int .i64 n_), (5, [], Value.int .i64 i), (12, [], Value.slice pp l_.len l_.cap), (13, [], Value.int .i64 i)] : GEnv)) hp_7) ?_
      obtain ⟨h0, h1, h⟩ := h
      refine reg_indexS1 (t := 23) (e := 3) (x := (Go.Operand.tmp 12)) (ix := (Go.Operand.tmp 13)) (b := (pblk l_.ptr)) (o := (poff l_.ptr)) (l := l_.len) (c := l_.cap) (k := .i64) (j := i) (ty := 0) (dst := some 14) (by kernel_rfl) (by kernel_rfl) (by kernel_rfl) (by kernel_rfl) (by kernel_rfl) h0 h1 ?_
      refine reg_run [] 3 [(0, [], Value.slice l_.ptr l_.len l_.cap), (1, [], Value.int .i64 n_), (5, [], Value.int .i64 i), (14, [], Value.pointer (some ⟨(pblk l_.ptr), (poff l_.ptr) + i.toNat, none⟩))] (by kernel_rfl) (by kernel_rfl) ?_
      obtain ⟨v15, hc, h⟩ := h
      refine reg_load1 (t := 3) (a := (Go.Operand.tmp 14)) (b := (pblk l_.ptr)) (o := ((poff l_.ptr) + i.toNat)) (ty := 3) (dst := some 15) (by kernel_rfl) (by kernel_rfl) (by kernel_rfl) hc ?_
      refine reg_run [.plain, .plain] 6 [(0, [], Value.slice l_.ptr l_.len l_.cap), (1, [], Value.int .i64 n_), (5, [], Value.int .i64 i), (17, [], Value.bool (v15 == n_))] (by kernel_rfl) (by kernel_rfl) ?_
      refine reg_end [(0, Value.slice l_.ptr l_.len l_.cap), (1, Value.int .i64 n_), (5, Value.int .i64 i), (17, Value.bool (v15 == n_))] (by kernel_rfl) (by kernel_rfl) ?_
      change WpE _ _ c_towpathlaw16_in_21 _ _ _
      refine wpE_cond (o := (Operand.tmp 17)) (b := (v15 == n_)) (x := c_towpathlaw16_in_22) (y := c_towpathlaw16_in_26) (by kernel_rfl) (by kernel_rfl) (fun hb => ?_) (fun hb => ?_)
      · replace h := h.1 hb
        refine wpE_seq (x := c_towpathlaw16_in_23) (y := c_towpathlaw16_in_25) (by kernel_rfl) ?_
        refine wpE_region (id := 5) (ops := r_towpathlaw16_in_23) (by kernel_rfl) ?_
        refine reg_run [.plain] 1 [(4, [], Value.bool true)] (by kernel_rfl) (by kernel_rfl) ?_
        refine reg_end [(4, Value.bool true)] (by kernel_rfl) (by kernel_rfl) ?_
        change WpE _ _ c_towpathlaw16_in_25 _ _ _
        refine wpE_ret (by kernel_rfl) ?_
        repeat (first | refine seqQ_ret ?_ | refine blockQ_ret ?_ | refine loopQ_ret ?_ | refine cutQ_ret ?_)
        exact retS (rs := [(Go.ResultVar.tmp 4)]) (v := Value.bool true) (by kernel_rfl) (⟨by kernel_rfl, trivial⟩) ⟨true, rfl, h⟩
      · replace h := h.2 hb
        refine wpE_skip (by kernel_rfl) ?_
        change WpE _ _ c_towpathlaw16_in_27 _ _ _
        refine wpE_region (id := 3) (ops := r_towpathlaw16_in_27) (by kernel_rfl) ?_
        refine reg_run [.plain, .plain, .plain] 3 [(0, [], Value.slice l_.ptr l_.len l_.cap), (1, [], Value.int .i64 n_), (5, [], Value.int .i64 (IntKind.i64.wrap (i + 1)))] (by kernel_rfl) (by kernel_rfl) ?_
        refine reg_end [(0, Value.slice l_.ptr l_.len l_.cap), (1, Value.int .i64 n_), (5, Value.int .i64 (IntKind.i64.wrap (i + 1)))] (by kernel_rfl) (by kernel_rfl) ?_
        have hb_ := again__h _ _ h
        exact ⟨_, hb_.2, [(0, Value.slice l_.ptr l_.len l_.cap), (1, Value.int .i64 n_), (5, Value.int .i64 (IntKind.i64.wrap (i + 1)))], Sub.mk (by kernel_rfl), (IntKind.i64.wrap (i + 1)), rfl, hb_.1, rfl⟩
    · replace h := h.2 hb
      refine wpE_exit (id := 0) (by kernel_rfl) ?_
      change WpE _ _ c_towpathlaw16_in_29 _ _ _
      refine wpE_seq (x := c_towpathlaw16_in_30) (y := c_towpathlaw16_in_32) (by kernel_rfl) ?_
      refine wpE_region (id := 6) (ops := r_towpathlaw16_in_30) (by kernel_rfl) ?_
      refine reg_run [.plain] 1 [(4, [], Value.bool false)] (by kernel_rfl) (by kernel_rfl) ?_
      refine reg_end [(4, Value.bool false)] (by kernel_rfl) (by kernel_rfl) ?_
      change WpE _ _ c_towpathlaw16_in_32 _ _ _
      refine wpE_ret (by kernel_rfl) ?_
      repeat (first | refine seqQ_ret ?_ | refine blockQ_ret ?_ | refine loopQ_ret ?_ | refine cutQ_ret ?_)
      exact retS (rs := [(Go.ResultVar.tmp 4)]) (v := Value.bool false) (by kernel_rfl) (⟨by kernel_rfl, trivial⟩) ⟨false, rfl, h⟩
  · rintro e w' ⟨v, rfl, r0, rfl, h⟩; exact ⟨r0, rfl, h⟩

/-! ### towpath/towpathlaw16.asks (function 23) -/
noncomputable def c_towpathlaw16_asks_0 : Code := (Try.f23.body).getD Code.skip
noncomputable def c_towpathlaw16_asks_1 : Code := Code.l c_towpathlaw16_asks_0
noncomputable def r_towpathlaw16_asks_1 : Array Oper := Code.ops c_towpathlaw16_asks_1
noncomputable def c_towpathlaw16_asks_3 : Code := Code.r c_towpathlaw16_asks_0
noncomputable def c_towpathlaw16_asks_4 : Code := Code.l c_towpathlaw16_asks_3
noncomputable def c_towpathlaw16_asks_5 : Code := Code.l c_towpathlaw16_asks_4
noncomputable def r_towpathlaw16_asks_5 : Array Oper := Code.ops c_towpathlaw16_asks_5
noncomputable def c_towpathlaw16_asks_7 : Code := Code.r c_towpathlaw16_asks_4
noncomputable def c_towpathlaw16_asks_8 : Code := Code.l c_towpathlaw16_asks_7
noncomputable def c_towpathlaw16_asks_9 : Code := Code.l c_towpathlaw16_asks_8
noncomputable def r_towpathlaw16_asks_9 : Array Oper := Code.ops c_towpathlaw16_asks_9
noncomputable def c_towpathlaw16_asks_11 : Code := Code.r c_towpathlaw16_asks_8
noncomputable def c_towpathlaw16_asks_12 : Code := Code.l c_towpathlaw16_asks_11
noncomputable def c_towpathlaw16_asks_13 : Code := Code.l c_towpathlaw16_asks_12
noncomputable def r_towpathlaw16_asks_13 : Array Oper := Code.ops c_towpathlaw16_asks_13
noncomputable def c_towpathlaw16_asks_15 : Code := Code.r c_towpathlaw16_asks_12
noncomputable def c_towpathlaw16_asks_16 : Code := Code.r c_towpathlaw16_asks_11
noncomputable def c_towpathlaw16_asks_17 : Code := Code.l c_towpathlaw16_asks_16
noncomputable def r_towpathlaw16_asks_17 : Array Oper := Code.ops c_towpathlaw16_asks_17
noncomputable def c_towpathlaw16_asks_19 : Code := Code.r c_towpathlaw16_asks_16
noncomputable def c_towpathlaw16_asks_20 : Code := Code.l c_towpathlaw16_asks_19
noncomputable def c_towpathlaw16_asks_21 : Code := Code.l c_towpathlaw16_asks_20
noncomputable def r_towpathlaw16_asks_21 : Array Oper := Code.ops c_towpathlaw16_asks_21
noncomputable def c_towpathlaw16_asks_23 : Code := Code.r c_towpathlaw16_asks_20
noncomputable def c_towpathlaw16_asks_24 : Code := Code.r c_towpathlaw16_asks_19
noncomputable def c_towpathlaw16_asks_25 : Code := Code.l c_towpathlaw16_asks_24
noncomputable def r_towpathlaw16_asks_25 : Array Oper := Code.ops c_towpathlaw16_asks_25
noncomputable def c_towpathlaw16_asks_27 : Code := Code.r c_towpathlaw16_asks_24
noncomputable def c_towpathlaw16_asks_28 : Code := Code.l c_towpathlaw16_asks_27
noncomputable def c_towpathlaw16_asks_29 : Code := Code.l c_towpathlaw16_asks_28
noncomputable def r_towpathlaw16_asks_29 : Array Oper := Code.ops c_towpathlaw16_asks_29
noncomputable def c_towpathlaw16_asks_31 : Code := Code.r c_towpathlaw16_asks_28
noncomputable def c_towpathlaw16_asks_32 : Code := Code.l c_towpathlaw16_asks_31
noncomputable def r_towpathlaw16_asks_32 : Array Oper := Code.ops c_towpathlaw16_asks_32
noncomputable def c_towpathlaw16_asks_34 : Code := Code.r c_towpathlaw16_asks_31
noncomputable def c_towpathlaw16_asks_35 : Code := Code.l c_towpathlaw16_asks_34
noncomputable def r_towpathlaw16_asks_35 : Array Oper := Code.ops c_towpathlaw16_asks_35
noncomputable def c_towpathlaw16_asks_37 : Code := Code.r c_towpathlaw16_asks_34
noncomputable def c_towpathlaw16_asks_38 : Code := Code.r c_towpathlaw16_asks_27
noncomputable def c_towpathlaw16_asks_39 : Code := Code.l c_towpathlaw16_asks_38
noncomputable def r_towpathlaw16_asks_39 : Array Oper := Code.ops c_towpathlaw16_asks_39
noncomputable def c_towpathlaw16_asks_41 : Code := Code.r c_towpathlaw16_asks_38
noncomputable def c_towpathlaw16_asks_42 : Code := Code.l c_towpathlaw16_asks_41
noncomputable def c_towpathlaw16_asks_43 : Code := Code.l c_towpathlaw16_asks_42
noncomputable def r_towpathlaw16_asks_43 : Array Oper := Code.ops c_towpathlaw16_asks_43
noncomputable def c_towpathlaw16_asks_45 : Code := Code.r c_towpathlaw16_asks_42
noncomputable def c_towpathlaw16_asks_46 : Code := Code.l c_towpathlaw16_asks_45
noncomputable def r_towpathlaw16_asks_46 : Array Oper := Code.ops c_towpathlaw16_asks_46
noncomputable def c_towpathlaw16_asks_48 : Code := Code.r c_towpathlaw16_asks_45
noncomputable def c_towpathlaw16_asks_49 : Code := Code.l c_towpathlaw16_asks_48
noncomputable def r_towpathlaw16_asks_49 : Array Oper := Code.ops c_towpathlaw16_asks_49
noncomputable def c_towpathlaw16_asks_51 : Code := Code.r c_towpathlaw16_asks_48
noncomputable def c_towpathlaw16_asks_52 : Code := Code.r c_towpathlaw16_asks_41
noncomputable def c_towpathlaw16_asks_53 : Code := Code.l c_towpathlaw16_asks_52
noncomputable def r_towpathlaw16_asks_53 : Array Oper := Code.ops c_towpathlaw16_asks_53
noncomputable def c_towpathlaw16_asks_55 : Code := Code.r c_towpathlaw16_asks_52
noncomputable def c_towpathlaw16_asks_56 : Code := Code.l c_towpathlaw16_asks_55
noncomputable def c_towpathlaw16_asks_57 : Code := Code.l c_towpathlaw16_asks_56
noncomputable def r_towpathlaw16_asks_57 : Array Oper := Code.ops c_towpathlaw16_asks_57
noncomputable def c_towpathlaw16_asks_59 : Code := Code.r c_towpathlaw16_asks_56
noncomputable def c_towpathlaw16_asks_60 : Code := Code.l c_towpathlaw16_asks_59
noncomputable def r_towpathlaw16_asks_60 : Array Oper := Code.ops c_towpathlaw16_asks_60
noncomputable def c_towpathlaw16_asks_62 : Code := Code.r c_towpathlaw16_asks_59
noncomputable def c_towpathlaw16_asks_63 : Code := Code.l c_towpathlaw16_asks_62
noncomputable def r_towpathlaw16_asks_63 : Array Oper := Code.ops c_towpathlaw16_asks_63
noncomputable def c_towpathlaw16_asks_65 : Code := Code.r c_towpathlaw16_asks_62
noncomputable def c_towpathlaw16_asks_66 : Code := Code.r c_towpathlaw16_asks_55
noncomputable def c_towpathlaw16_asks_67 : Code := Code.r c_towpathlaw16_asks_3
noncomputable def c_towpathlaw16_asks_68 : Code := Code.l c_towpathlaw16_asks_67
noncomputable def r_towpathlaw16_asks_68 : Array Oper := Code.ops c_towpathlaw16_asks_68
noncomputable def c_towpathlaw16_asks_70 : Code := Code.r c_towpathlaw16_asks_67
noncomputable def c_towpathlaw16_asks_71 : Code := Code.l c_towpathlaw16_asks_70
noncomputable def r_towpathlaw16_asks_71 : Array Oper := Code.ops c_towpathlaw16_asks_71
noncomputable def c_towpathlaw16_asks_73 : Code := Code.r c_towpathlaw16_asks_70
noncomputable def c_towpathlaw16_asks_74 : Code := Code.l c_towpathlaw16_asks_73
noncomputable def r_towpathlaw16_asks_74 : Array Oper := Code.ops c_towpathlaw16_asks_74
noncomputable def c_towpathlaw16_asks_76 : Code := Code.r c_towpathlaw16_asks_73
def o_towpathlaw16_asks_13 : List Nat := [0, 1, 2, 4, 5, 6, 3, 7, 8, 9]
def o_towpathlaw16_asks_21 : List Nat := [0, 1, 2, 4, 5, 6, 3, 7, 8, 9]

set_option maxRecDepth 100000 in
set_option maxHeartbeats 4000000 in
theorem S_towpathlaw16_asks {f : Option Addr} {x : Option Addr} {a_ : T_towpathlaw16_Ask} {w : World} {R : Bool → World → Prop} (h : F_towpathlaw16_asks f x a_ R w) : C_towpathlaw16_asks f x a_ w R := by
  unfold F_towpathlaw16_asks at h
  unfold C_towpathlaw16_asks
  refine Calls.mono (calls_of_wpE (args := [Value.pointer f, Value.pointer x, Value.agg #[Value.int .u8 a_.Kind, Value.int .i64 a_.N]]) (R := fun v w' => ∃ (r0 : Bool), v = Value.bool r0 ∧ R r0 w') Try.func23 (c := c_towpathlaw16_asks_0) (by kernel_rfl) 111 (by kernel_rfl) (by kernel_rfl) [(0, Value.pointer f), (1, Value.pointer x), (2, Value.agg #[Value.int .u8 a_.Kind, Value.int .i64 a_.N])] (by kernel_rfl) ?_) ?_
  · refine wpE_seq (x := c_towpathlaw16_asks_1) (y := c_towpathlaw16_asks_3) (by kernel_rfl) ?_
    refine wpE_region (id := 0) (ops := r_towpathlaw16_asks_1) (by kernel_rfl) ?_
    refine reg_run [] 0 [(0, [], Value.pointer f), (1, [], Value.pointer x), (2, [], Value.agg #[Value.int .u8 a_.Kind, Value.int .i64 a_.N])] (by kernel_rfl) (by kernel_rfl) ?_
    refine reg_new (op := (Go.Op.box 54 (Go.Operand.tmp 2))) (ty := 0) (dst := some 5) (fun bb => Value.pointer (some ⟨bb, 0, none⟩)) (Obj.cells ([Value.int .u8 a_.Kind, Value.int .i64 a_.N]).toArray ty_towpathlaw16_Ask (0, 0)) (by kernel_rfl) (by kernel_rfl) (fun b_ w1 hb hw => ?_)
    replace h := h b_ w1 hb hw
    clear hb hw
    refine reg_run [.plain] 2 [(0, [], Value.pointer f), (1, [], Value.pointer x), (5, [], Value.pointer (some ⟨b_, 0, none⟩))] (by kernel_rfl) (by kernel_rfl) ?_
    refine reg_end [(0, Value.pointer f), (1, Value.pointer x), (5, Value.pointer (some ⟨b_, 0, none⟩))] (by kernel_rfl) (by kernel_rfl) ?_
    change WpE _ _ c_towpathlaw16_asks_3 _ _ _
    refine wpE_seq (x := c_towpathlaw16_asks_4) (y := c_towpathlaw16_asks_67) (by kernel_rfl) ?_
    refine wpE_seq (x := c_towpathlaw16_asks_5) (y := c_towpathlaw16_asks_7) (by kernel_rfl) ?_
    refine wpE_region (id := 1) (ops := r_towpathlaw16_asks_5) (by kernel_rfl) ?_
    refine reg_run [.plain] 1 [(0, [], Value.pointer f), (1, [], Value.pointer x), (5, [], Value.pointer (some ⟨b_, 0, none⟩)), (19, [], Value.pointer (some ⟨b_, 0, none⟩))] (by kernel_rfl) (by kernel_rfl) ?_
    obtain ⟨v20, hc, h⟩ := h
    refine reg_load1 (t := 52) (a := (Go.Operand.tmp 19)) (b := b_) (o := 0) (ty := 52) (dst := some 20) (by kernel_rfl) (by kernel_rfl) (by kernel_rfl) hc ?_
    refine reg_end [(0, Value.pointer f), (1, Value.pointer x), (5, Value.pointer (some ⟨b_, 0, none⟩)), (20, Value.int .u8 v20)] (by kernel_rfl) (by kernel_rfl) ?_
    change WpE _ _ c_towpathlaw16_asks_7 _ _ _
    refine wpE_block (id := 0) (x := c_towpathlaw16_asks_8) (by kernel_rfl) ?_
    refine wpE_seq (x := c_towpathlaw16_asks_9) (y := c_towpathlaw16_asks_11) (by kernel_rfl) ?_
    refine wpE_region (id := 2) (ops := r_towpathlaw16_asks_9) (by kernel_rfl) ?_
    refine reg_run [.plain, .plain] 2 [(0, [], Value.pointer f), (1, [], Value.pointer x), (5, [], Value.pointer (some ⟨b_, 0, none⟩)), (20, [], Value.int .u8 v20), (21, [], Value.bool (v20 == 0))] (by kernel_rfl) (by kernel_rfl) ?_
    refine reg_end [(0, Value.pointer f), (1, Value.pointer x), (5, Value.pointer (some ⟨b_, 0, none⟩)), (20, Value.int .u8 v20), (21, Value.bool (v20 == 0))] (by kernel_rfl) (by kernel_rfl) ?_
    change WpE _ _ c_towpathlaw16_asks_11 _ _ _
    refine wpE_cond (o := (Operand.tmp 21)) (b := (v20 == 0)) (x := c_towpathlaw16_asks_12) (y := c_towpathlaw16_asks_16) (by kernel_rfl) (by kernel_rfl) (fun hb => ?_) (fun hb => ?_)
    · replace h := h.1 hb
      refine wpE_seq (x := c_towpathlaw16_asks_13) (y := c_towpathlaw16_asks_15) (by kernel_rfl) ?_
      refine wpE_mixregion (id := 3) (ops := r_towpathlaw16_asks_13) o_towpathlaw16_asks_13 (by kernel_rfl) (by kernel_rfl) (by kernel_rfl) (by kernel_rfl) (fun w2 hw => ?_)
      replace h := h w2 hw
      clear hw
      refine mreg_run [.plain, .plain] 2 [(1, [], Value.pointer x), (5, [], Value.pointer (some ⟨b_, 0, none⟩)), (23, [], Value.pointer f), (24, [], Value.pointer (some ⟨b_, 1, none⟩))] (by kernel_rfl) (by kernel_rfl) ?_
      obtain ⟨v25, hc, h⟩ := h
      refine mreg_load1 (i := 2) (by kernel_rfl) (t := 3) (a := (Go.Operand.tmp 24)) (b := b_) (o := 1) (ty := 3) (dst := some 25) (by kernel_rfl) (by kernel_rfl) (by kernel_rfl) hc ?_
      refine mreg_run [.plain, .plain] 5 [(23, [], Value.pointer f), (25, [], Value.int .i64 v25), (27, [], Value.pointer x), (28, [], Value.pointer (some ⟨b_, 1, none⟩))] (by kernel_rfl) (by kernel_rfl) ?_
      obtain ⟨v29, hc, h⟩ := h
      refine mreg_load1 (i := 6) (by kernel_rfl) (t := 3) (a := (Go.Operand.tmp 28)) (b := b_) (o := 1) (ty := 3) (dst := some 29) (by kernel_rfl) (by kernel_rfl) (by kernel_rfl) hc ?_
      refine mreg_run [] 6 [(23, [], Value.pointer f), (25, [], Value.int .i64 v25), (27, [], Value.pointer x), (29, [], Value.int .i64 v29)] (by kernel_rfl) (by kernel_rfl) ?_
      refine mreg_enter (op := (Go.Op.call (Go.Call.mk (Go.Callee.value (Go.Operand.func 13)) #[(Go.Operand.tmp 23), (Go.Operand.tmp 25)] #[26, 3]))) (ty := 32) (dst := some 26) 3 [0, 2, 1] [(6, fun w' => w'.cell? ⟨b_, 1, none⟩ = some (Value.int .i64 v29))] 13 #[Value.pointer f, Value.int .i64 v25] (by kernel_rfl) (by kernel_rfl) (by kernel_rfl) (by kernel_rfl) (by kernel_rfl) (fun ww => by kernel_rfl) (Calls.mono h ?_)
      rintro _ w3 ⟨v26, rfl, h⟩
      obtain ⟨hk0, h⟩ := h
      refine ⟨_, rfl, ⟨hk0, trivial⟩, ?_⟩
      refine mreg_run [] 7 [(26, [], Value.int .i64 v26), (27, [], Value.pointer x), (29, [], Value.int .i64 v29)] (by kernel_rfl) (by kernel_rfl) ?_
      refine mreg_enter (op := (Go.Op.call (Go.Call.mk (Go.Callee.value (Go.Operand.func 53)) #[(Go.Operand.tmp 27), (Go.Operand.tmp 29)] #[27, 3]))) (ty := 32) (dst := some 30) 7 [3, 4, 6, 0, 2, 5, 1] [] 53 #[Value.pointer x, Value.int .i64 v29] (by kernel_rfl) (by kernel_rfl) (by kernel_rfl) (by kernel_rfl) (by kernel_rfl) (fun ww => by kernel_rfl) (Calls.mono h ?_)
      rintro _ w4 ⟨v30, rfl, h⟩
      refine ⟨_, rfl, trivial, ?_⟩
      refine mreg_run [.plain, .plain] 10 [(6, [], Value.bool (v26 == v30))] (by kernel_rfl) (by kernel_rfl) ?_
      refine mreg_end [(6, Value.bool (v26 == v30))] (by kernel_rfl) (by kernel_rfl) (by kernel_rfl) ?_
      change WpE _ _ c_towpathlaw16_asks_15 _ _ _
      refine wpE_ret (by kernel_rfl) ?_
      repeat (first | refine seqQ_ret ?_ | refine blockQ_ret ?_ | refine loopQ_ret ?_ | refine cutQ_ret ?_)
      exact retS (rs := [(Go.ResultVar.tmp 6)]) (v := Value.bool (v26 == v30)) (by kernel_rfl) (⟨by kernel_rfl, trivial⟩) ⟨(v26 == v30), rfl, h⟩
    · replace h := h.2 hb
      refine wpE_seq (x := c_towpathlaw16_asks_17) (y := c_towpathlaw16_asks_19) (by kernel_rfl) ?_
      refine wpE_region (id := 4) (ops := r_towpathlaw16_asks_17) (by kernel_rfl) ?_
      refine reg_run [.plain, .plain] 2 [(0, [], Value.pointer f), (1, [], Value.pointer x), (5, [], Value.pointer (some ⟨b_, 0, none⟩)), (20, [], Value.int .u8 v20), (32, [], Value.bool (v20 == 1))] (by kernel_rfl) (by kernel_rfl) ?_
      refine reg_end [(0, Value.pointer f), (1, Value.pointer x), (5, Value.pointer (some ⟨b_, 0, none⟩)), (20, Value.int .u8 v20), (32, Value.bool (v20 == 1))] (by kernel_rfl) (by kernel_rfl) ?_
      change WpE _ _ c_towpathlaw16_asks_19 _ _ _
      refine wpE_cond (o := (Operand.tmp 32)) (b := (v20 == 1)) (x := c_towpathlaw16_asks_20) (y := c_towpathlaw16_asks_24) (by kernel_rfl) (by kernel_rfl) (fun hb => ?_) (fun hb => ?_)
      · replace h := h.1 hb
        refine wpE_seq (x := c_towpathlaw16_asks_21) (y := c_towpathlaw16_asks_23) (by kernel_rfl) ?_
        refine wpE_mixregion (id := 5) (ops := r_towpathlaw16_asks_21) o_towpathlaw16_asks_21 (by kernel_rfl) (by kernel_rfl) (by kernel_rfl) (by kernel_rfl) (fun w5 hw => ?_)
        replace h := h w5 hw
        clear hw
        refine mreg_run [.plain, .plain] 2 [(1, [], Value.pointer x), (5, [], Value.pointer (some ⟨b_, 0, none⟩)), (34, [], Value.pointer f), (35, [], Value.pointer (some ⟨b_, 1, none⟩))] (by kernel_rfl) (by kernel_rfl) ?_
        obtain ⟨v36, hc, h⟩ := h
        refine mreg_load1 (i := 2) (by kernel_rfl) (t := 3) (a := (Go.Operand.tmp 35)) (b := b_) (o := 1) (ty := 3) (dst := some 36) (by kernel_rfl) (by kernel_rfl) (by kernel_rfl) hc ?_
        refine mreg_run [.plain, .plain] 5 [(34, [], Value.pointer f), (36, [], Value.int .i64 v36), (38, [], Value.pointer x), (39, [], Value.pointer (some ⟨b_, 1, none⟩))] (by kernel_rfl) (by kernel_rfl) ?_
        obtain ⟨v40, hc, h⟩ := h
        refine mreg_load1 (i := 6) (by kernel_rfl) (t := 3) (a := (Go.Operand.tmp 39)) (b := b_) (o := 1) (ty := 3) (dst := some 40) (by kernel_rfl) (by kernel_rfl) (by kernel_rfl) hc ?_
        refine mreg_run [] 6 [(34, [], Value.pointer f), (36, [], Value.int .i64 v36), (38, [], Value.pointer x), (40, [], Value.int .i64 v40)] (by kernel_rfl) (by kernel_rfl) ?_
        refine mreg_enter (op := (Go.Op.call (Go.Call.mk (Go.Callee.value (Go.Operand.func 18)) #[(Go.Operand.tmp 34), (Go.Operand.tmp 36)] #[26, 3]))) (ty := 38) (dst := some 37) 3 [0, 2, 1] [(6, fun w' => w'.cell? ⟨b_, 1, none⟩ = some (Value.int .i64 v40))] 18 #[Value.pointer f, Value.int .i64 v36] (by kernel_rfl) (by kernel_rfl) (by kernel_rfl) (by kernel_rfl) (by kernel_rfl) (fun ww => by kernel_rfl) (Calls.mono h ?_)
        rintro _ w6 ⟨v37, rfl, h⟩
        obtain ⟨hk0, h⟩ := h
        refine ⟨_, rfl, ⟨hk0, trivial⟩, ?_⟩
        refine mreg_run [] 7 [(37, [], Value.int .u8 v37), (38, [], Value.pointer x), (40, [], Value.int .i64 v40)] (by kernel_rfl) (by kernel_rfl) ?_
        refine mreg_enter (op := (Go.Op.call (Go.Call.mk (Go.Callee.value (Go.Operand.func 54)) #[(Go.Operand.tmp 38), (Go.Operand.tmp 40)] #[27, 3]))) (ty := 38) (dst := some 41) 7 [3, 4, 6, 0, 2, 5, 1] [] 54 #[Value.pointer x, Value.int .i64 v40] (by kernel_rfl) (by kernel_rfl) (by kernel_rfl) (by kernel_rfl) (by kernel_rfl) (fun ww => by kernel_rfl) (Calls.mono h ?_)
        rintro _ w7 ⟨v41, rfl, h⟩
        refine ⟨_, rfl, trivial, ?_⟩
        refine mreg_run [.plain, .plain] 10 [(6, [], Value.bool (v37 == v41))] (by kernel_rfl) (by kernel_rfl) ?_
        refine mreg_end [(6, Value.bool (v37 == v41))] (by kernel_rfl) (by kernel_rfl) (by kernel_rfl) ?_
        change WpE _ _ c_towpathlaw16_asks_23 _ _ _
        refine wpE_ret (by kernel_rfl) ?_
        repeat (first | refine seqQ_ret ?_ | refine blockQ_ret ?_ | refine loopQ_ret ?_ | refine cutQ_ret ?_)
        exact retS (rs := [(Go.ResultVar.tmp 6)]) (v := Value.bool (v37 == v41)) (by kernel_rfl) (⟨by kernel_rfl, trivial⟩) ⟨(v37 == v41), rfl, h⟩
      · replace h := h.2 hb
        refine wpE_seq (x := c_towpathlaw16_asks_25) (y := c_towpathlaw16_asks_27) (by kernel_rfl) ?_
        refine wpE_region (id := 6) (ops := r_towpathlaw16_asks_25) (by kernel_rfl) ?_
        refine reg_run [.plain, .plain] 2 [(0, [], Value.pointer f), (1, [], Value.pointer x), (5, [], Value.pointer (some ⟨b_, 0, none⟩)), (20, [], Value.int .u8 v20), (43, [], Value.bool (v20 == 2))] (by kernel_rfl) (by kernel_rfl) ?_
        refine reg_end [(0, Value.pointer f), (1, Value.pointer x), (5, Value.pointer (some ⟨b_, 0, none⟩)), (20, Value.int .u8 v20), (43, Value.bool (v20 == 2))] (by kernel_rfl) (by kernel_rfl) ?_
        change WpE _ _ c_towpathlaw16_asks_27 _ _ _
        refine wpE_cond (o := (Operand.tmp 43)) (b := (v20 == 2)) (x := c_towpathlaw16_asks_28) (y := c_towpathlaw16_asks_38) (by kernel_rfl) (by kernel_rfl) (fun hb => ?_) (fun hb => ?_)
        · replace h := h.1 hb
          refine wpE_seq (x := c_towpathlaw16_asks_29) (y := c_towpathlaw16_asks_31) (by kernel_rfl) ?_
          refine wpE_region (id := 7) (ops := r_towpathlaw16_asks_29) (by kernel_rfl) ?_
          refine reg_run [.plain] 1 [(1, [], Value.pointer x), (46, [], Value.pointer f)] (by kernel_rfl) (by kernel_rfl) ?_
          refine reg_enter (op := (Go.Op.call (Go.Call.mk (Go.Callee.value (Go.Operand.func 14)) #[(Go.Operand.tmp 46)] #[26]))) (ty := 34) (dst := some 47) 14 #[Value.pointer f] (by kernel_rfl) (fun ww => by kernel_rfl) (Calls.mono h ?_)
          rintro _ w8 ⟨n_, e, rfl, h⟩
          refine ⟨_, rfl, ?_⟩
          refine reg_run [.plain, .plain, .plain, .plain, .plain] 7 [(1, [], Value.pointer x), (7, [], Value.int .i64 n_), (8, [], Value.int .i64 e)] (by kernel_rfl) (by kernel_rfl) ?_
          refine reg_end [(1, Value.pointer x), (7, Value.int .i64 n_), (8, Value.int .i64 e)] (by kernel_rfl) (by kernel_rfl) ?_
          change WpE _ _ c_towpathlaw16_asks_31 _ _ _
          refine wpE_seq (x := c_towpathlaw16_asks_32) (y := c_towpathlaw16_asks_34) (by kernel_rfl) ?_
          refine wpE_region (id := 8) (ops := r_towpathlaw16_asks_32) (by kernel_rfl) ?_
          refine reg_run [.plain] 1 [(7, [], Value.int .i64 n_), (8, [], Value.int .i64 e), (51, [], Value.pointer x)] (by kernel_rfl) (by kernel_rfl) ?_
          refine reg_enter (op := (Go.Op.call (Go.Call.mk (Go.Callee.value (Go.Operand.func 55)) #[(Go.Operand.tmp 51)] #[27]))) (ty := 34) (dst := some 52) 55 #[Value.pointer x] (by kernel_rfl) (fun ww => by kernel_rfl) (Calls.mono h ?_)
          rintro _ w9 ⟨m_, g, rfl, h⟩
          refine ⟨_, rfl, ?_⟩
          refine reg_run [.plain, .plain, .plain, .plain, .plain] 7 [(7, [], Value.int .i64 n_), (8, [], Value.int .i64 e), (9, [], Value.int .i64 m_), (10, [], Value.int .i64 g)] (by kernel_rfl) (by kernel_rfl) ?_
          refine reg_end [(7, Value.int .i64 n_), (8, Value.int .i64 e), (9, Value.int .i64 m_), (10, Value.int .i64 g)] (by kernel_rfl) (by kernel_rfl) ?_
          change WpE _ _ c_towpathlaw16_asks_34 _ _ _
          refine wpE_seq (x := c_towpathlaw16_asks_35) (y := c_towpathlaw16_asks_37) (by kernel_rfl) ?_
          refine wpE_region (id := 9) (ops := r_towpathlaw16_asks_35) (by kernel_rfl) ?_
          refine reg_run [.plain, .plain, .plain, .plain, .plain, .plain, .plain, .pick, .plain] 9 [(6, [], Value.bool ((n_ == m_) && (e == g)))] (by kernel_rfl) (by kernel_rfl) ?_
          refine reg_end [(6, Value.bool ((n_ == m_) && (e == g)))] (by kernel_rfl) (by kernel_rfl) ?_
          change WpE _ _ c_towpathlaw16_asks_37 _ _ _
          refine wpE_ret (by kernel_rfl) ?_
          repeat (first | refine seqQ_ret ?_ | refine blockQ_ret ?_ | refine loopQ_ret ?_ | refine cutQ_ret ?_)
          exact retS (rs := [(Go.ResultVar.tmp 6)]) (v := Value.bool ((n_ == m_) && (e == g))) (by kernel_rfl) (⟨by kernel_rfl, trivial⟩) ⟨((n_ == m_) && (e == g)), rfl, h⟩
        · replace h := h.2 hb
          refine wpE_seq (x := c_towpathlaw16_asks_39) (y := c_towpathlaw16_asks_41) (by kernel_rfl) ?_
          refine wpE_region (id := 10) (ops := r_towpathlaw16_asks_39) (by kernel_rfl) ?_
          refine reg_run [.plain, .plain] 2 [(0, [], Value.pointer f), (1, [], Value.pointer x), (5, [], Value.pointer (some ⟨b_, 0, none⟩)), (20, [], Value.int .u8 v20), (63, [], Value.bool (v20 == 3))] (by kernel_rfl) (by kernel_rfl) ?_
          refine reg_end [(0, Value.pointer f), (1, Value.pointer x), (5, Value.pointer (some ⟨b_, 0, none⟩)), (20, Value.int .u8 v20), (63, Value.bool (v20 == 3))] (by kernel_rfl) (by kernel_rfl) ?_
          change WpE _ _ c_towpathlaw16_asks_41 _ _ _
          refine wpE_cond (o := (Operand.tmp 63)) (b := (v20 == 3)) (x := c_towpathlaw16_asks_42) (y := c_towpathlaw16_asks_52) (by kernel_rfl) (by kernel_rfl) (fun hb => ?_) (fun hb => ?_)
          · replace h := h.1 hb
            refine wpE_seq (x := c_towpathlaw16_asks_43) (y := c_towpathlaw16_asks_45) (by kernel_rfl) ?_
            refine wpE_region (id := 11) (ops := r_towpathlaw16_asks_43) (by kernel_rfl) ?_
            refine reg_run [.plain] 1 [(1, [], Value.pointer x), (66, [], Value.pointer f)] (by kernel_rfl) (by kernel_rfl) ?_
            refine reg_enter (op := (Go.Op.call (Go.Call.mk (Go.Callee.value (Go.Operand.func 20)) #[(Go.Operand.tmp 66)] #[26]))) (ty := 34) (dst := some 67) 20 #[Value.pointer f] (by kernel_rfl) (fun ww => by kernel_rfl) (Calls.mono h ?_)
            rintro _ w10 ⟨n_1, e1, rfl, h⟩
            refine ⟨_, rfl, ?_⟩
            refine reg_run [.plain, .plain, .plain, .plain, .plain] 7 [(1, [], Value.pointer x), (11, [], Value.int .i64 n_1), (12, [], Value.int .i64 e1)] (by kernel_rfl) (by kernel_rfl) ?_
            refine reg_end [(1, Value.pointer x), (11, Value.int .i64 n_1), (12, Value.int .i64 e1)] (by kernel_rfl) (by kernel_rfl) ?_
            change WpE _ _ c_towpathlaw16_asks_45 _ _ _
            refine wpE_seq (x := c_towpathlaw16_asks_46) (y := c_towpathlaw16_asks_48) (by kernel_rfl) ?_
            refine wpE_region (id := 12) (ops := r_towpathlaw16_asks_46) (by kernel_rfl) ?_
            refine reg_run [.plain] 1 [(11, [], Value.int .i64 n_1), (12, [], Value.int .i64 e1), (71, [], Value.pointer x)] (by kernel_rfl) (by kernel_rfl) ?_
            refine reg_enter (op := (Go.Op.call (Go.Call.mk (Go.Callee.value (Go.Operand.func 56)) #[(Go.Operand.tmp 71)] #[27]))) (ty := 34) (dst := some 72) 56 #[Value.pointer x] (by kernel_rfl) (fun ww => by kernel_rfl) (Calls.mono h ?_)
            rintro _ w11 ⟨m_1, g1, rfl, h⟩
            refine ⟨_, rfl, ?_⟩
            refine reg_run [.plain, .plain, .plain, .plain, .plain] 7 [(11, [], Value.int .i64 n_1), (12, [], Value.int .i64 e1), (13, [], Value.int .i64 m_1), (14, [], Value.int .i64 g1)] (by kernel_rfl) (by kernel_rfl) ?_
            refine reg_end [(11, Value.int .i64 n_1), (12, Value.int .i64 e1), (13, Value.int .i64 m_1), (14, Value.int .i64 g1)] (by kernel_rfl) (by kernel_rfl) ?_
            change WpE _ _ c_towpathlaw16_asks_48 _ _ _
            refine wpE_seq (x := c_towpathlaw16_asks_49) (y := c_towpathlaw16_asks_51) (by kernel_rfl) ?_
            refine wpE_region (id := 13) (ops := r_towpathlaw16_asks_49) (by kernel_rfl) ?_
            refine reg_run [.plain, .plain, .plain, .plain, .plain, .plain, .plain, .pick, .plain] 9 [(6, [], Value.bool ((n_1 == m_1) && (e1 == g1)))] (by kernel_rfl) (by kernel_rfl) ?_
            refine reg_end [(6, Value.bool ((n_1 == m_1) && (e1 == g1)))] (by kernel_rfl) (by kernel_rfl) ?_
            change WpE _ _ c_towpathlaw16_asks_51 _ _ _
            refine wpE_ret (by kernel_rfl) ?_
            repeat (first | refine seqQ_ret ?_ | refine blockQ_ret ?_ | refine loopQ_ret ?_ | refine cutQ_ret ?_)
            exact retS (rs := [(Go.ResultVar.tmp 6)]) (v := Value.bool ((n_1 == m_1) && (e1 == g1))) (by kernel_rfl) (⟨by kernel_rfl, trivial⟩) ⟨((n_1 == m_1) && (e1 == g1)), rfl, h⟩
          · replace h := h.2 hb
            refine wpE_seq (x := c_towpathlaw16_asks_53) (y := c_towpathlaw16_asks_55) (by kernel_rfl) ?_
            refine wpE_region (id := 14) (ops := r_towpathlaw16_asks_53) (by kernel_rfl) ?_
            refine reg_run [.plain, .plain] 2 [(0, [], Value.pointer f), (1, [], Value.pointer x), (5, [], Value.pointer (some ⟨b_, 0, none⟩)), (83, [], Value.bool (v20 == 4))] (by kernel_rfl) (by kernel_rfl) ?_
            refine reg_end [(0, Value.pointer f), (1, Value.pointer x), (5, Value.pointer (some ⟨b_, 0, none⟩)), (83, Value.bool (v20 == 4))] (by kernel_rfl) (by kernel_rfl) ?_
            change WpE _ _ c_towpathlaw16_asks_55 _ _ _
            refine wpE_cond (o := (Operand.tmp 83)) (b := (v20 == 4)) (x := c_towpathlaw16_asks_56) (y := c_towpathlaw16_asks_66) (by kernel_rfl) (by kernel_rfl) (fun hb => ?_) (fun hb => ?_)
            · replace h := h.1 hb
              refine wpE_seq (x := c_towpathlaw16_asks_57) (y := c_towpathlaw16_asks_59) (by kernel_rfl) ?_
              refine wpE_region (id := 15) (ops := r_towpathlaw16_asks_57) (by kernel_rfl) ?_
              refine reg_run [.plain, .plain] 2 [(1, [], Value.pointer x), (5, [], Value.pointer (some ⟨b_, 0, none⟩)), (86, [], Value.pointer f), (87, [], Value.pointer (some ⟨b_, 1, none⟩))] (by kernel_rfl) (by kernel_rfl) ?_
              obtain ⟨v88, hc, h⟩ := h
              refine reg_load1 (t := 3) (a := (Go.Operand.tmp 87)) (b := b_) (o := 1) (ty := 3) (dst := some 88) (by kernel_rfl) (by kernel_rfl) (by kernel_rfl) hc ?_
              refine reg_run [] 3 [(1, [], Value.pointer x), (5, [], Value.pointer (some ⟨b_, 0, none⟩)), (86, [], Value.pointer f), (88, [], Value.int .i64 v88)] (by kernel_rfl) (by kernel_rfl) ?_
              refine reg_enter (op := (Go.Op.call (Go.Call.mk (Go.Callee.value (Go.Operand.func 19)) #[(Go.Operand.tmp 86), (Go.Operand.tmp 88)] #[26, 3]))) (ty := 43) (dst := some 89) 19 #[Value.pointer f, Value.int .i64 v88] (by kernel_rfl) (fun ww => by kernel_rfl) (Calls.mono h ?_)
              rintro _ w12 ⟨v89, e2, rfl, h⟩
              refine ⟨_, rfl, ?_⟩
              refine reg_run [.plain, .plain, .plain] 7 [(1, [], Value.pointer x), (5, [], Value.pointer (some ⟨b_, 0, none⟩)), (90, [], Value.agg #[Value.int .i64 v89.Number, Value.slice v89.Writes.ptr v89.Writes.len v89.Writes.cap]), (91, [], Value.int .i64 e2)] (by kernel_rfl) (by kernel_rfl) ?_
              refine reg_new (op := (Go.Op.alloc 42)) (ty := 0) (dst := some 15) (fun bb => Value.pointer (some ⟨bb, 0, none⟩)) (Obj.cells ([Value.int .i64 0, Value.slice none 0 0]).toArray ty_api_Txn (0, 0)) (by kernel_rfl) (by kernel_rfl) (fun b_1 w13 hb hw => ?_)
              replace h := h b_1 w13 hb hw
              clear hb hw
              refine reg_run [] 8 [(1, [], Value.pointer x), (5, [], Value.pointer (some ⟨b_, 0, none⟩)), (15, [], Value.pointer (some ⟨b_1, 0, none⟩)), (90, [], Value.agg #[Value.int .i64 v89.Number, Value.slice v89.Writes.ptr v89.Writes.len v89.Writes.cap]), (91, [], Value.int .i64 e2)] (by kernel_rfl) (by kernel_rfl) ?_
              obtain ⟨hc, h⟩ := h
              refine reg_store (t := 42) (a := (Go.Operand.tmp 15)) (x := (Go.Operand.tmp 90)) (b := b_1) (o := 0) (ty := 0) (dst := none) [Value.int .i64 v89.Number, Value.slice v89.Writes.ptr v89.Writes.len v89.Writes.cap] (by kernel_rfl) (by kernel_rfl) (by kernel_rfl) (k := 2) (by kernel_rfl) (by kernel_rfl) (by kernel_rfl) hc (fun w14 hw => ?_)
              replace h := h w14 hw
              clear hw
              refine reg_run [.plain] 10 [(1, [], Value.pointer x), (5, [], Value.pointer (some ⟨b_, 0, none⟩)), (15, [], Value.pointer (some ⟨b_1, 0, none⟩)), (16, [], Value.int .i64 e2)] (by kernel_rfl) (by kernel_rfl) ?_
              refine reg_end [(1, Value.pointer x), (5, Value.pointer (some ⟨b_, 0, none⟩)), (15, Value.pointer (some ⟨b_1, 0, none⟩)), (16, Value.int .i64 e2)] (by kernel_rfl) (by kernel_rfl) ?_
              change WpE _ _ c_towpathlaw16_asks_59 _ _ _
              refine wpE_seq (x := c_towpathlaw16_asks_60) (y := c_towpathlaw16_asks_62) (by kernel_rfl) ?_
              refine wpE_region (id := 16) (ops := r_towpathlaw16_asks_60) (by kernel_rfl) ?_
              refine reg_run [.plain, .plain] 2 [(15, [], Value.pointer (some ⟨b_1, 0, none⟩)), (16, [], Value.int .i64 e2), (93, [], Value.pointer x), (94, [], Value.pointer (some ⟨b_, 1, none⟩))] (by kernel_rfl) (by kernel_rfl) ?_
              obtain ⟨v95, hc, h⟩ := h
              refine reg_load1 (t := 3) (a := (Go.Operand.tmp 94)) (b := b_) (o := 1) (ty := 3) (dst := some 95) (by kernel_rfl) (by kernel_rfl) (by kernel_rfl) hc ?_
              refine reg_run [] 3 [(15, [], Value.pointer (some ⟨b_1, 0, none⟩)), (16, [], Value.int .i64 e2), (93, [], Value.pointer x), (95, [], Value.int .i64 v95)] (by kernel_rfl) (by kernel_rfl) ?_
              refine reg_enter (op := (Go.Op.call (Go.Call.mk (Go.Callee.value (Go.Operand.func 57)) #[(Go.Operand.tmp 93), (Go.Operand.tmp 95)] #[27, 3]))) (ty := 43) (dst := some 96) 57 #[Value.pointer x, Value.int .i64 v95] (by kernel_rfl) (fun ww => by kernel_rfl) (Calls.mono h ?_)
              rintro _ w15 ⟨v96, g2, rfl, h⟩
              refine ⟨_, rfl, ?_⟩
              refine reg_run [.plain, .plain, .plain] 7 [(15, [], Value.pointer (some ⟨b_1, 0, none⟩)), (16, [], Value.int .i64 e2), (97, [], Value.agg #[Value.int .i64 v96.Number, Value.slice v96.Writes.ptr v96.Writes.len v96.Writes.cap]), (98, [], Value.int .i64 g2)] (by kernel_rfl) (by kernel_rfl) ?_
              refine reg_new (op := (Go.Op.alloc 42)) (ty := 0) (dst := some 17) (fun bb => Value.pointer (some ⟨bb, 0, none⟩)) (Obj.cells ([Value.int .i64 0, Value.slice none 0 0]).toArray ty_api_Txn (0, 0)) (by kernel_rfl) (by kernel_rfl) (fun b_2 w16 hb hw => ?_)
              replace h := h b_2 w16 hb hw
              clear hb hw
              refine reg_run [] 8 [(15, [], Value.pointer (some ⟨b_1, 0, none⟩)), (16, [], Value.int .i64 e2), (17, [], Value.pointer (some ⟨b_2, 0, none⟩)), (97, [], Value.agg #[Value.int .i64 v96.Number, Value.slice v96.Writes.ptr v96.Writes.len v96.Writes.cap]), (98, [], Value.int .i64 g2)] (by kernel_rfl) (by kernel_rfl) ?_
              obtain ⟨hc, h⟩ := h
              refine reg_store (t := 42) (a := (Go.Operand.tmp 17)) (x := (Go.Operand.tmp 97)) (b := b_2) (o := 0) (ty := 0) (dst := none) [Value.int .i64 v96.Number, Value.slice v96.Writes.ptr v96.Writes.len v96.Writes.cap] (by kernel_rfl) (by kernel_rfl) (by kernel_rfl) (k := 2) (by kernel_rfl) (by kernel_rfl) (by kernel_rfl) hc (fun w17 hw => ?_)
              replace h := h w17 hw
              clear hw
              refine reg_run [.plain] 10 [(15, [], Value.pointer (some ⟨b_1, 0, none⟩)), (16, [], Value.int .i64 e2), (17, [], Value.pointer (some ⟨b_2, 0, none⟩)), (18, [], Value.int .i64 g2)] (by kernel_rfl) (by kernel_rfl) ?_
              refine reg_end [(15, Value.pointer (some ⟨b_1, 0, none⟩)), (16, Value.int .i64 e2), (17, Value.pointer (some ⟨b_2, 0, none⟩)), (18, Value.int .i64 g2)] (by kernel_rfl) (by kernel_rfl) ?_
              change WpE _ _ c_towpathlaw16_asks_62 _ _ _
              refine wpE_seq (x := c_towpathlaw16_asks_63) (y := c_towpathlaw16_asks_65) (by kernel_rfl) ?_
              refine wpE_region (id := 17) (ops := r_towpathlaw16_asks_63) (by kernel_rfl) ?_
              refine reg_run [.plain, .plain, .plain, .plain] 4 [(15, [], Value.pointer (some ⟨b_1, 0, none⟩)), (17, [], Value.pointer (some ⟨b_2, 0, none⟩)), (102, [], Value.bool (e2 == g2))] (by kernel_rfl) (by kernel_rfl) ?_
              refine reg_split 102 (e2 == g2) (by kernel_rfl) (fun hb => ?_) (fun hb => ?_)
              · replace h := h.1 hb
                refine reg_run [] 4 [(15, [], Value.pointer (some ⟨b_1, 0, none⟩)), (17, [], Value.pointer (some ⟨b_2, 0, none⟩)), (102, [], Value.bool true)] (by kernel_rfl) (by kernel_rfl) ?_
                refine reg_run [] 4 [(15, [], Value.pointer (some ⟨b_1, 0, none⟩)), (17, [], Value.pointer (some ⟨b_2, 0, none⟩)), (102, [], Value.bool true)] (by kernel_rfl) (by kernel_rfl) ?_
                obtain ⟨v103, hc, h⟩ := h
                refine reg_loadN (t := 42) (a := (Go.Operand.tmp 15)) (b := b_1) (o := 0) (ty := 42) (dst := some 103) [Value.int .i64 v103.Number, Value.slice v103.Writes.ptr v103.Writes.len v103.Writes.cap] (by kernel_rfl) (by kernel_rfl) (by kernel_rfl) (k := 2) (by kernel_rfl) (by kernel_rfl) hc ?_
                refine reg_run [] 5 [(17, [], Value.pointer (some ⟨b_2, 0, none⟩)), (102, [], Value.bool true), (103, [], Value.agg #[Value.int .i64 v103.Number, Value.slice v103.Writes.ptr v103.Writes.len v103.Writes.cap])] (by kernel_rfl) (by kernel_rfl) ?_
                obtain ⟨v104, hc, h⟩ := h
                refine reg_loadN (t := 42) (a := (Go.Operand.tmp 17)) (b := b_2) (o := 0) (ty := 42) (dst := some 104) [Value.int .i64 v104.Number, Value.slice v104.Writes.ptr v104.Writes.len v104.Writes.cap] (by kernel_rfl) (by kernel_rfl) (by kernel_rfl) (k := 2) (by kernel_rfl) (by kernel_rfl) hc ?_
                refine reg_run [] 6 [(102, [], Value.bool true), (103, [], Value.agg #[Value.int .i64 v103.Number, Value.slice v103.Writes.ptr v103.Writes.len v103.Writes.cap]), (104, [], Value.agg #[Value.int .i64 v104.Number, Value.slice v104.Writes.ptr v104.Writes.len v104.Writes.cap])] (by kernel_rfl) (by kernel_rfl) ?_
                refine reg_enter (op := (Go.Op.call (Go.Call.mk (Go.Callee.value (Go.Operand.func 22)) #[(Go.Operand.tmp 103), (Go.Operand.tmp 104)] #[42, 42]))) (ty := 4) (dst := some 105) 22 #[Value.agg #[Value.int .i64 v103.Number, Value.slice v103.Writes.ptr v103.Writes.len v103.Writes.cap], Value.agg #[Value.int .i64 v104.Number, Value.slice v104.Writes.ptr v104.Writes.len v104.Writes.cap]] (by kernel_rfl) (fun ww => by kernel_rfl) (Calls.mono h ?_)
                rintro _ w18 ⟨v105, rfl, h⟩
                refine ⟨_, rfl, ?_⟩
                refine reg_run [.plain, .plain] 9 [(6, [], Value.bool v105)] (by kernel_rfl) (by kernel_rfl) ?_
                refine reg_end [(6, Value.bool v105)] (by kernel_rfl) (by kernel_rfl) ?_
                change WpE _ _ c_towpathlaw16_asks_65 _ _ _
                refine wpE_ret (by kernel_rfl) ?_
                repeat (first | refine seqQ_ret ?_ | refine blockQ_ret ?_ | refine loopQ_ret ?_ | refine cutQ_ret ?_)
                exact retS (rs := [(Go.ResultVar.tmp 6)]) (v := Value.bool v105) (by kernel_rfl) (⟨by kernel_rfl, trivial⟩) ⟨v105, rfl, h⟩
              · replace h := h.2 hb
                refine reg_run [] 4 [(15, [], Value.pointer (some ⟨b_1, 0, none⟩)), (17, [], Value.pointer (some ⟨b_2, 0, none⟩)), (102, [], Value.bool false)] (by kernel_rfl) (by kernel_rfl) ?_
                refine reg_run [.skip, .skip, .skip, .plain, .plain] 9 [(6, [], Value.bool false)] (by kernel_rfl) (by kernel_rfl) ?_
                refine reg_end [(6, Value.bool false)] (by kernel_rfl) (by kernel_rfl) ?_
                change WpE _ _ c_towpathlaw16_asks_65 _ _ _
                refine wpE_ret (by kernel_rfl) ?_
                repeat (first | refine seqQ_ret ?_ | refine blockQ_ret ?_ | refine loopQ_ret ?_ | refine cutQ_ret ?_)
                exact retS (rs := [(Go.ResultVar.tmp 6)]) (v := Value.bool false) (by kernel_rfl) (⟨by kernel_rfl, trivial⟩) ⟨false, rfl, h⟩
            · replace h := h.2 hb
              refine wpE_skip (by kernel_rfl) ?_
              change WpE _ _ c_towpathlaw16_asks_67 _ _ _
              refine wpE_seq (x := c_towpathlaw16_asks_68) (y := c_towpathlaw16_asks_70) (by kernel_rfl) ?_
              refine wpE_region (id := 18) (ops := r_towpathlaw16_asks_68) (by kernel_rfl) ?_
              refine reg_run [.plain] 1 [(1, [], Value.pointer x), (107, [], Value.pointer f)] (by kernel_rfl) (by kernel_rfl) ?_
              refine reg_enter (op := (Go.Op.call (Go.Call.mk (Go.Callee.value (Go.Operand.func 15)) #[(Go.Operand.tmp 107)] #[26]))) (ty := 0) (dst := some 108) 15 #[Value.pointer f] (by kernel_rfl) (fun ww => by kernel_rfl) (Calls.mono h ?_)
              rintro _ w19 ⟨rfl, h⟩
              refine ⟨_, rfl, ?_⟩
              refine reg_end [(1, Value.pointer x)] (by kernel_rfl) (by kernel_rfl) ?_
              change WpE _ _ c_towpathlaw16_asks_70 _ _ _
              refine wpE_seq (x := c_towpathlaw16_asks_71) (y := c_towpathlaw16_asks_73) (by kernel_rfl) ?_
              refine wpE_region (id := 19) (ops := r_towpathlaw16_asks_71) (by kernel_rfl) ?_
              refine reg_run [.plain] 1 [(109, [], Value.pointer x)] (by kernel_rfl) (by kernel_rfl) ?_
              refine reg_enter (op := (Go.Op.call (Go.Call.mk (Go.Callee.value (Go.Operand.func 58)) #[(Go.Operand.tmp 109)] #[27]))) (ty := 0) (dst := some 110) 58 #[Value.pointer x] (by kernel_rfl) (fun ww => by kernel_rfl) (Calls.mono h ?_)
              rintro _ w20 ⟨rfl, h⟩
              refine ⟨_, rfl, ?_⟩
              refine reg_end [] (by kernel_rfl) (by kernel_rfl) ?_
              change WpE _ _ c_towpathlaw16_asks_73 _ _ _
              refine wpE_seq (x := c_towpathlaw16_asks_74) (y := c_towpathlaw16_asks_76) (by kernel_rfl) ?_
              refine wpE_region (id := 20) (ops := r_towpathlaw16_asks_74) (by kernel_rfl) ?_
              refine reg_run [.plain] 1 [(6, [], Value.bool true)] (by kernel_rfl) (by kernel_rfl) ?_
              refine reg_end [(6, Value.bool true)] (by kernel_rfl) (by kernel_rfl) ?_
              change WpE _ _ c_towpathlaw16_asks_76 _ _ _
              refine wpE_ret (by kernel_rfl) ?_
              repeat (first | refine seqQ_ret ?_ | refine blockQ_ret ?_ | refine loopQ_ret ?_ | refine cutQ_ret ?_)
              exact retS (rs := [(Go.ResultVar.tmp 6)]) (v := Value.bool true) (by kernel_rfl) (⟨by kernel_rfl, trivial⟩) ⟨true, rfl, h⟩
  · rintro e w' ⟨v, rfl, r0, rfl, h⟩; exact ⟨r0, rfl, h⟩

/-! ### towpath/towpathlaw16.three (function 45) -/
noncomputable def c_towpathlaw16_three_0 : Code := (Try.f45.body).getD Code.skip
noncomputable def c_towpathlaw16_three_1 : Code := Code.l c_towpathlaw16_three_0
noncomputable def r_towpathlaw16_three_1 : Array Oper := Code.ops c_towpathlaw16_three_1
noncomputable def c_towpathlaw16_three_3 : Code := Code.r c_towpathlaw16_three_0
noncomputable def c_towpathlaw16_three_4 : Code := Code.l c_towpathlaw16_three_3
noncomputable def r_towpathlaw16_three_4 : Array Oper := Code.ops c_towpathlaw16_three_4
noncomputable def c_towpathlaw16_three_6 : Code := Code.r c_towpathlaw16_three_3
noncomputable def c_towpathlaw16_three_7 : Code := Code.l c_towpathlaw16_three_6
noncomputable def r_towpathlaw16_three_7 : Array Oper := Code.ops c_towpathlaw16_three_7
noncomputable def c_towpathlaw16_three_9 : Code := Code.r c_towpathlaw16_three_6
noncomputable def c_towpathlaw16_three_10 : Code := Code.l c_towpathlaw16_three_9
noncomputable def r_towpathlaw16_three_10 : Array Oper := Code.ops c_towpathlaw16_three_10
noncomputable def c_towpathlaw16_three_12 : Code := Code.r c_towpathlaw16_three_9
noncomputable def c_towpathlaw16_three_13 : Code := Code.l c_towpathlaw16_three_12
noncomputable def r_towpathlaw16_three_13 : Array Oper := Code.ops c_towpathlaw16_three_13
noncomputable def c_towpathlaw16_three_15 : Code := Code.r c_towpathlaw16_three_12

set_option maxRecDepth 100000 in
set_option maxHeartbeats 4000000 in
theorem S_towpathlaw16_three {w : World} {R : Slc → World → Prop} (h : F_towpathlaw16_three R w) : C_towpathlaw16_three w R := by
  unfold F_towpathlaw16_three at h
  unfold C_towpathlaw16_three
  refine Calls.mono (calls_of_wpE (args := []) (R := fun v w' => ∃ (r0 : Slc), v = Value.slice r0.ptr r0.len r0.cap ∧ R r0 w') Try.func45 (c := c_towpathlaw16_three_0) (by kernel_rfl) 18 (by kernel_rfl) (by kernel_rfl) [] (by kernel_rfl) ?_) ?_
  · refine wpE_seq (x := c_towpathlaw16_three_1) (y := c_towpathlaw16_three_3) (by kernel_rfl) ?_
    refine wpE_region (id := 0) (ops := r_towpathlaw16_three_1) (by kernel_rfl) ?_
    refine reg_run [.plain] 1 [] (by kernel_rfl) (by kernel_rfl) ?_
    refine reg_end [] (by kernel_rfl) (by kernel_rfl) ?_
    change WpE _ _ c_towpathlaw16_three_3 _ _ _
    refine wpE_seq (x := c_towpathlaw16_three_4) (y := c_towpathlaw16_three_6) (by kernel_rfl) ?_
    refine wpE_region (id := 1) (ops := r_towpathlaw16_three_4) (by kernel_rfl) ?_
    refine reg_run [.plain] 1 [(4, [], Value.agg #[Value.string (ByteArray.mk #[97]), Value.string (ByteArray.mk #[49]), Value.bool false])] (by kernel_rfl) (by kernel_rfl) ?_
    refine reg_new (op := (Go.Op.buildSlice 40 1 #[(0, (Go.Operand.tmp 4))])) (ty := 40) (dst := some 5) (fun bb => Value.slice (some ⟨bb, 0, none⟩) 1 1) (Obj.cells ([Value.string (ByteArray.mk #[97]), Value.string (ByteArray.mk #[49]), Value.bool false]).toArray ty_api_Write (0, 0)) (by kernel_rfl) (by kernel_rfl) (fun b_ w1 hb hw => ?_)
    replace h := h b_ w1 hb hw
    clear hb hw
    refine reg_run [.plain] 3 [(6, [], Value.agg #[Value.int .i64 1, Value.slice (some ⟨b_, 0, none⟩) 1 1])] (by kernel_rfl) (by kernel_rfl) ?_
    refine reg_new (op := (Go.Op.alloc 42)) (ty := 0) (dst := some 1) (fun bb => Value.pointer (some ⟨bb, 0, none⟩)) (Obj.cells ([Value.int .i64 0, Value.slice none 0 0]).toArray ty_api_Txn (0, 0)) (by kernel_rfl) (by kernel_rfl) (fun b_1 w2 hb hw => ?_)
    replace h := h b_1 w2 hb hw
    clear hb hw
    refine reg_run [] 4 [(1, [], Value.pointer (some ⟨b_1, 0, none⟩)), (6, [], Value.agg #[Value.int .i64 1, Value.slice (some ⟨b_, 0, none⟩) 1 1])] (by kernel_rfl) (by kernel_rfl) ?_
    obtain ⟨hc, h⟩ := h
    refine reg_store (t := 42) (a := (Go.Operand.tmp 1)) (x := (Go.Operand.tmp 6)) (b := b_1) (o := 0) (ty := 0) (dst := none) [Value.int .i64 1, Value.slice (some ⟨b_, 0, none⟩) 1 1] (by kernel_rfl) (by kernel_rfl) (by kernel_rfl) (k := 2) (by kernel_rfl) (by kernel_rfl) (by kernel_rfl) hc (fun w3 hw => ?_)
    replace h := h w3 hw
    clear hw
    refine reg_end [(1, Value.pointer (some ⟨b_1, 0, none⟩))] (by kernel_rfl) (by kernel_rfl) ?_
    change WpE _ _ c_towpathlaw16_three_6 _ _ _
    refine wpE_seq (x := c_towpathlaw16_three_7) (y := c_towpathlaw16_three_9) (by kernel_rfl) ?_
    refine wpE_region (id := 2) (ops := r_towpathlaw16_three_7) (by kernel_rfl) ?_
    refine reg_run [.plain] 1 [(1, [], Value.pointer (some ⟨b_1, 0, none⟩)), (7, [], Value.agg #[Value.string (ByteArray.mk #[98]), Value.string (ByteArray.mk #[50]), Value.bool false])] (by kernel_rfl) (by kernel_rfl) ?_
    refine reg_new (op := (Go.Op.buildSlice 40 1 #[(0, (Go.Operand.tmp 7))])) (ty := 40) (dst := some 8) (fun bb => Value.slice (some ⟨bb, 0, none⟩) 1 1) (Obj.cells ([Value.string (ByteArray.mk #[98]), Value.string (ByteArray.mk #[50]), Value.bool false]).toArray ty_api_Write (0, 0)) (by kernel_rfl) (by kernel_rfl) (fun b_2 w4 hb hw => ?_)
    replace h := h b_2 w4 hb hw
    clear hb hw
    refine reg_run [.plain] 3 [(1, [], Value.pointer (some ⟨b_1, 0, none⟩)), (9, [], Value.agg #[Value.int .i64 2, Value.slice (some ⟨b_2, 0, none⟩) 1 1])] (by kernel_rfl) (by kernel_rfl) ?_
    refine reg_new (op := (Go.Op.alloc 42)) (ty := 0) (dst := some 2) (fun bb => Value.pointer (some ⟨bb, 0, none⟩)) (Obj.cells ([Value.int .i64 0, Value.slice none 0 0]).toArray ty_api_Txn (0, 0)) (by kernel_rfl) (by kernel_rfl) (fun b_3 w5 hb hw => ?_)
    replace h := h b_3 w5 hb hw
    clear hb hw
    refine reg_run [] 4 [(1, [], Value.pointer (some ⟨b_1, 0, none⟩)), (2, [], Value.pointer (some ⟨b_3, 0, none⟩)), (9, [], Value.agg #[Value.int .i64 2, Value.slice (some ⟨b_2, 0, none⟩) 1 1])] (by kernel_rfl) (by kernel_rfl) ?_
    obtain ⟨hc, h⟩ := h
    refine reg_store (t := 42) (a := (Go.Operand.tmp 2)) (x := (Go.Operand.tmp 9)) (b := b_3) (o := 0) (ty := 0) (dst := none) [Value.int .i64 2, Value.slice (some ⟨b_2, 0, none⟩) 1 1] (by kernel_rfl) (by kernel_rfl) (by kernel_rfl) (k := 2) (by kernel_rfl) (by kernel_rfl) (by kernel_rfl) hc (fun w6 hw => ?_)
    replace h := h w6 hw
    clear hw
    refine reg_end [(1, Value.pointer (some ⟨b_1, 0, none⟩)), (2, Value.pointer (some ⟨b_3, 0, none⟩))] (by kernel_rfl) (by kernel_rfl) ?_
    change WpE _ _ c_towpathlaw16_three_9 _ _ _
    refine wpE_seq (x := c_towpathlaw16_three_10) (y := c_towpathlaw16_three_12) (by kernel_rfl) ?_
    refine wpE_region (id := 3) (ops := r_towpathlaw16_three_10) (by kernel_rfl) ?_
    refine reg_run [.plain, .plain] 2 [(1, [], Value.pointer (some ⟨b_1, 0, none⟩)), (2, [], Value.pointer (some ⟨b_3, 0, none⟩)), (10, [], Value.agg #[Value.string (ByteArray.mk #[97]), Value.string (ByteArray.mk #[51]), Value.bool false]), (11, [], Value.agg #[Value.string (ByteArray.mk #[98]), Value.string ByteArray.empty, Value.bool true])] (by kernel_rfl) (by kernel_rfl) ?_
    refine reg_new (op := (Go.Op.buildSlice 40 2 #[(0, (Go.Operand.tmp 10)), (1, (Go.Operand.tmp 11))])) (ty := 40) (dst := some 12) (fun bb => Value.slice (some ⟨bb, 0, none⟩) 2 2) (Obj.cells ([Value.string (ByteArray.mk #[97]), Value.string (ByteArray.mk #[51]), Value.bool false, Value.string (ByteArray.mk #[98]), Value.string ByteArray.empty, Value.bool true]).toArray ty_api_Write (0, 0)) (by kernel_rfl) (by kernel_rfl) (fun b_4 w7 hb hw => ?_)
    replace h := h b_4 w7 hb hw
    clear hb hw
    refine reg_run [.plain] 4 [(1, [], Value.pointer (some ⟨b_1, 0, none⟩)), (2, [], Value.pointer (some ⟨b_3, 0, none⟩)), (13, [], Value.agg #[Value.int .i64 3, Value.slice (some ⟨b_4, 0, none⟩) 2 2])] (by kernel_rfl) (by kernel_rfl) ?_
    refine reg_new (op := (Go.Op.alloc 42)) (ty := 0) (dst := some 3) (fun bb => Value.pointer (some ⟨bb, 0, none⟩)) (Obj.cells ([Value.int .i64 0, Value.slice none 0 0]).toArray ty_api_Txn (0, 0)) (by kernel_rfl) (by kernel_rfl) (fun b_5 w8 hb hw => ?_)
    replace h := h b_5 w8 hb hw
    clear hb hw
    refine reg_run [] 5 [(1, [], Value.pointer (some ⟨b_1, 0, none⟩)), (2, [], Value.pointer (some ⟨b_3, 0, none⟩)), (3, [], Value.pointer (some ⟨b_5, 0, none⟩)), (13, [], Value.agg #[Value.int .i64 3, Value.slice (some ⟨b_4, 0, none⟩) 2 2])] (by kernel_rfl) (by kernel_rfl) ?_
    obtain ⟨hc, h⟩ := h
    refine reg_store (t := 42) (a := (Go.Operand.tmp 3)) (x := (Go.Operand.tmp 13)) (b := b_5) (o := 0) (ty := 0) (dst := none) [Value.int .i64 3, Value.slice (some ⟨b_4, 0, none⟩) 2 2] (by kernel_rfl) (by kernel_rfl) (by kernel_rfl) (k := 2) (by kernel_rfl) (by kernel_rfl) (by kernel_rfl) hc (fun w9 hw => ?_)
    replace h := h w9 hw
    clear hw
    refine reg_end [(1, Value.pointer (some ⟨b_1, 0, none⟩)), (2, Value.pointer (some ⟨b_3, 0, none⟩)), (3, Value.pointer (some ⟨b_5, 0, none⟩))] (by kernel_rfl) (by kernel_rfl) ?_
    change WpE _ _ c_towpathlaw16_three_12 _ _ _
    refine wpE_seq (x := c_towpathlaw16_three_13) (y := c_towpathlaw16_three_15) (by kernel_rfl) ?_
    refine wpE_region (id := 4) (ops := r_towpathlaw16_three_13) (by kernel_rfl) ?_
    refine reg_run [] 0 [(1, [], Value.pointer (some ⟨b_1, 0, none⟩)), (2, [], Value.pointer (some ⟨b_3, 0, none⟩)), (3, [], Value.pointer (some ⟨b_5, 0, none⟩))] (by kernel_rfl) (by kernel_rfl) ?_
    obtain ⟨v14, hc, h⟩ := h
    refine reg_loadN (t := 42) (a := (Go.Operand.tmp 1)) (b := b_1) (o := 0) (ty := 42) (dst := some 14) [Value.int .i64 v14.Number, Value.slice v14.Writes.ptr v14.Writes.len v14.Writes.cap] (by kernel_rfl) (by kernel_rfl) (by kernel_rfl) (k := 2) (by kernel_rfl) (by kernel_rfl) hc ?_
    refine reg_run [] 1 [(2, [], Value.pointer (some ⟨b_3, 0, none⟩)), (3, [], Value.pointer (some ⟨b_5, 0, none⟩)), (14, [], Value.agg #[Value.int .i64 v14.Number, Value.slice v14.Writes.ptr v14.Writes.len v14.Writes.cap])] (by kernel_rfl) (by kernel_rfl) ?_
    obtain ⟨v15, hc, h⟩ := h
    refine reg_loadN (t := 42) (a := (Go.Operand.tmp 2)) (b := b_3) (o := 0) (ty := 42) (dst := some 15) [Value.int .i64 v15.Number, Value.slice v15.Writes.ptr v15.Writes.len v15.Writes.cap] (by kernel_rfl) (by kernel_rfl) (by kernel_rfl) (k := 2) (by kernel_rfl) (by kernel_rfl) hc ?_
    refine reg_run [] 2 [(3, [], Value.pointer (some ⟨b_5, 0, none⟩)), (14, [], Value.agg #[Value.int .i64 v14.Number, Value.slice v14.Writes.ptr v14.Writes.len v14.Writes.cap]), (15, [], Value.agg #[Value.int .i64 v15.Number, Value.slice v15.Writes.ptr v15.Writes.len v15.Writes.cap])] (by kernel_rfl) (by kernel_rfl) ?_
    obtain ⟨v16, hc, h⟩ := h
    refine reg_loadN (t := 42) (a := (Go.Operand.tmp 3)) (b := b_5) (o := 0) (ty := 42) (dst := some 16) [Value.int .i64 v16.Number, Value.slice v16.Writes.ptr v16.Writes.len v16.Writes.cap] (by kernel_rfl) (by kernel_rfl) (by kernel_rfl) (k := 2) (by kernel_rfl) (by kernel_rfl) hc ?_
    refine reg_run [] 3 [(14, [], Value.agg #[Value.int .i64 v14.Number, Value.slice v14.Writes.ptr v14.Writes.len v14.Writes.cap]), (15, [], Value.agg #[Value.int .i64 v15.Number, Value.slice v15.Writes.ptr v15.Writes.len v15.Writes.cap]), (16, [], Value.agg #[Value.int .i64 v16.Number, Value.slice v16.Writes.ptr v16.Writes.len v16.Writes.cap])] (by kernel_rfl) (by kernel_rfl) ?_
    refine reg_new (op := (Go.Op.buildSlice 22 3 #[(0, (Go.Operand.tmp 14)), (1, (Go.Operand.tmp 15)), (2, (Go.Operand.tmp 16))])) (ty := 22) (dst := some 17) (fun bb => Value.slice (some ⟨bb, 0, none⟩) 3 3) (Obj.cells ([Value.int .i64 v14.Number, Value.slice v14.Writes.ptr v14.Writes.len v14.Writes.cap, Value.int .i64 v15.Number, Value.slice v15.Writes.ptr v15.Writes.len v15.Writes.cap, Value.int .i64 v16.Number, Value.slice v16.Writes.ptr v16.Writes.len v16.Writes.cap]).toArray ty_api_Txn (0, 0)) (by kernel_rfl) (by kernel_rfl) (fun b_6 w10 hb hw => ?_)
    replace h := h b_6 w10 hb hw
    clear hb hw
    refine reg_run [.plain] 5 [(0, [], Value.slice (some ⟨b_6, 0, none⟩) 3 3)] (by kernel_rfl) (by kernel_rfl) ?_
    refine reg_end [(0, Value.slice (some ⟨b_6, 0, none⟩) 3 3)] (by kernel_rfl) (by kernel_rfl) ?_
    change WpE _ _ c_towpathlaw16_three_15 _ _ _
    refine wpE_ret (by kernel_rfl) ?_
    repeat (first | refine seqQ_ret ?_ | refine blockQ_ret ?_ | refine loopQ_ret ?_ | refine cutQ_ret ?_)
    exact retS (rs := [(Go.ResultVar.tmp 0)]) (v := Value.slice (some ⟨b_6, 0, none⟩) 3 3) (by kernel_rfl) (⟨by kernel_rfl, trivial⟩) ⟨(Slc.mk (some ⟨b_6, 0, none⟩) 3 3), rfl, h⟩
  · rintro e w' ⟨v, rfl, r0, rfl, h⟩; exact ⟨r0, rfl, h⟩
end Go.Proofs.Ytpedclhflmhakaa
