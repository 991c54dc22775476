/- WRITTEN BY PROGRAM (dec.py): for each Go function the clean formula F, the call's contract C, and the proof S that F gives C. -/
import Derived.Test.YtckmganidgbpgaaRows
import Derived.Test.YtckmganidgbpgaaGF
namespace Go.Proofs.Ytckmganidgbpgaa
open Go
set_option linter.unusedVariables false

/-! ### towpath/towpathlaw02.CodecApart (function 7) -/
noncomputable def c_towpathlaw02_CodecApart_0 : Code := (Try.f7.body).getD Code.skip
noncomputable def c_towpathlaw02_CodecApart_1 : Code := Code.l c_towpathlaw02_CodecApart_0
noncomputable def r_towpathlaw02_CodecApart_1 : Array Oper := Code.ops c_towpathlaw02_CodecApart_1
noncomputable def c_towpathlaw02_CodecApart_3 : Code := Code.r c_towpathlaw02_CodecApart_0
noncomputable def c_towpathlaw02_CodecApart_4 : Code := Code.l c_towpathlaw02_CodecApart_3
noncomputable def r_towpathlaw02_CodecApart_4 : Array Oper := Code.ops c_towpathlaw02_CodecApart_4
noncomputable def c_towpathlaw02_CodecApart_6 : Code := Code.r c_towpathlaw02_CodecApart_3
noncomputable def c_towpathlaw02_CodecApart_7 : Code := Code.l c_towpathlaw02_CodecApart_6
noncomputable def r_towpathlaw02_CodecApart_7 : Array Oper := Code.ops c_towpathlaw02_CodecApart_7
noncomputable def c_towpathlaw02_CodecApart_9 : Code := Code.r c_towpathlaw02_CodecApart_6
noncomputable def c_towpathlaw02_CodecApart_10 : Code := Code.l c_towpathlaw02_CodecApart_9
noncomputable def r_towpathlaw02_CodecApart_10 : Array Oper := Code.ops c_towpathlaw02_CodecApart_10
noncomputable def c_towpathlaw02_CodecApart_12 : Code := Code.r c_towpathlaw02_CodecApart_9
noncomputable def c_towpathlaw02_CodecApart_13 : Code := Code.l c_towpathlaw02_CodecApart_12
noncomputable def r_towpathlaw02_CodecApart_13 : Array Oper := Code.ops c_towpathlaw02_CodecApart_13
noncomputable def c_towpathlaw02_CodecApart_15 : Code := Code.r c_towpathlaw02_CodecApart_12
noncomputable def c_towpathlaw02_CodecApart_16 : Code := Code.l c_towpathlaw02_CodecApart_15
noncomputable def c_towpathlaw02_CodecApart_17 : Code := Code.l c_towpathlaw02_CodecApart_16
noncomputable def r_towpathlaw02_CodecApart_17 : Array Oper := Code.ops c_towpathlaw02_CodecApart_17
noncomputable def c_towpathlaw02_CodecApart_19 : Code := Code.r c_towpathlaw02_CodecApart_16
noncomputable def c_towpathlaw02_CodecApart_20 : Code := Code.l c_towpathlaw02_CodecApart_19
noncomputable def c_towpathlaw02_CodecApart_21 : Code := Code.l c_towpathlaw02_CodecApart_20
noncomputable def r_towpathlaw02_CodecApart_21 : Array Oper := Code.ops c_towpathlaw02_CodecApart_21
noncomputable def c_towpathlaw02_CodecApart_23 : Code := Code.r c_towpathlaw02_CodecApart_20
noncomputable def c_towpathlaw02_CodecApart_24 : Code := Code.r c_towpathlaw02_CodecApart_19
noncomputable def c_towpathlaw02_CodecApart_25 : Code := Code.r c_towpathlaw02_CodecApart_15
noncomputable def c_towpathlaw02_CodecApart_26 : Code := Code.l c_towpathlaw02_CodecApart_25
noncomputable def c_towpathlaw02_CodecApart_27 : Code := Code.l c_towpathlaw02_CodecApart_26
noncomputable def r_towpathlaw02_CodecApart_27 : Array Oper := Code.ops c_towpathlaw02_CodecApart_27
noncomputable def c_towpathlaw02_CodecApart_29 : Code := Code.r c_towpathlaw02_CodecApart_26
noncomputable def c_towpathlaw02_CodecApart_30 : Code := Code.l c_towpathlaw02_CodecApart_29
noncomputable def c_towpathlaw02_CodecApart_31 : Code := Code.l c_towpathlaw02_CodecApart_30
noncomputable def r_towpathlaw02_CodecApart_31 : Array Oper := Code.ops c_towpathlaw02_CodecApart_31
noncomputable def c_towpathlaw02_CodecApart_33 : Code := Code.r c_towpathlaw02_CodecApart_30
noncomputable def c_towpathlaw02_CodecApart_34 : Code := Code.r c_towpathlaw02_CodecApart_29
noncomputable def c_towpathlaw02_CodecApart_35 : Code := Code.r c_towpathlaw02_CodecApart_25
noncomputable def c_towpathlaw02_CodecApart_36 : Code := Code.l c_towpathlaw02_CodecApart_35
noncomputable def r_towpathlaw02_CodecApart_36 : Array Oper := Code.ops c_towpathlaw02_CodecApart_36
noncomputable def c_towpathlaw02_CodecApart_38 : Code := Code.r c_towpathlaw02_CodecApart_35
noncomputable def c_towpathlaw02_CodecApart_39 : Code := Code.l c_towpathlaw02_CodecApart_38
noncomputable def r_towpathlaw02_CodecApart_39 : Array Oper := Code.ops c_towpathlaw02_CodecApart_39
noncomputable def c_towpathlaw02_CodecApart_41 : Code := Code.r c_towpathlaw02_CodecApart_38
def o_towpathlaw02_CodecApart_39 : List Nat := [0, 1, 2, 3, 4, 5, 6, 7, 8]

set_option maxRecDepth 100000 in
set_option maxHeartbeats 4000000 in
theorem S_towpathlaw02_CodecApart {n_ : Int} {m : Int} {w : World} {R : Bool → World → Prop} (h : F_towpathlaw02_CodecApart n_ m R w) : C_towpathlaw02_CodecApart n_ m w R := by
  unfold F_towpathlaw02_CodecApart at h
  unfold C_towpathlaw02_CodecApart
  refine Calls.mono (calls_of_wpE (args := [Value.int .u64 n_, Value.int .u64 m]) (R := fun v w' => ∃ (r0 : Bool), v = Value.bool r0 ∧ R r0 w') Try.func7 (c := c_towpathlaw02_CodecApart_0) (by kernel_rfl) 65 (by kernel_rfl) (by kernel_rfl) [(0, Value.int .u64 n_), (1, Value.int .u64 m)] (by kernel_rfl) ?_) ?_
  · refine wpE_seq (x := c_towpathlaw02_CodecApart_1) (y := c_towpathlaw02_CodecApart_3) (by kernel_rfl) ?_
    refine wpE_region (id := 0) (ops := r_towpathlaw02_CodecApart_1) (by kernel_rfl) ?_
    refine reg_run [.plain] 1 [(0, [], Value.int .u64 n_), (1, [], Value.int .u64 m)] (by kernel_rfl) (by kernel_rfl) ?_
    refine reg_end [(0, Value.int .u64 n_), (1, Value.int .u64 m)] (by kernel_rfl) (by kernel_rfl) ?_
    change WpE _ _ c_towpathlaw02_CodecApart_3 _ _ _
    refine wpE_seq (x := c_towpathlaw02_CodecApart_4) (y := c_towpathlaw02_CodecApart_6) (by kernel_rfl) ?_
    refine wpE_region (id := 1) (ops := r_towpathlaw02_CodecApart_4) (by kernel_rfl) ?_
    refine reg_run [] 0 [(0, [], Value.int .u64 n_), (1, [], Value.int .u64 m)] (by kernel_rfl) (by kernel_rfl) ?_
    refine reg_enter (op := (Go.Op.call (Go.Call.mk (Go.Callee.value (Go.Operand.func 33)) #[] #[]))) (ty := 65) (dst := some 10) 33 #[] (by kernel_rfl) (fun ww => by kernel_rfl) (Calls.mono h ?_)
    rintro _ w1 ⟨v10, rfl, h⟩
    refine ⟨_, rfl, ?_⟩
    refine reg_run [] 1 [(0, [], Value.int .u64 n_), (1, [], Value.int .u64 m), (10, [], Value.pointer v10)] (by kernel_rfl) (by kernel_rfl) ?_
    refine reg_enter (op := (Go.Op.call (Go.Call.mk (Go.Callee.value (Go.Operand.func 33)) #[] #[]))) (ty := 65) (dst := some 11) 33 #[] (by kernel_rfl) (fun ww => by kernel_rfl) (Calls.mono h ?_)
    rintro _ w2 ⟨v11, rfl, h⟩
    refine ⟨_, rfl, ?_⟩
    refine reg_run [.plain, .plain] 4 [(0, [], Value.int .u64 n_), (1, [], Value.int .u64 m), (5, [], Value.pointer v10), (6, [], Value.pointer v11)] (by kernel_rfl) (by kernel_rfl) ?_
    refine reg_end [(0, Value.int .u64 n_), (1, Value.int .u64 m), (5, Value.pointer v10), (6, Value.pointer v11)] (by kernel_rfl) (by kernel_rfl) ?_
    change WpE _ _ c_towpathlaw02_CodecApart_6 _ _ _
    refine wpE_seq (x := c_towpathlaw02_CodecApart_7) (y := c_towpathlaw02_CodecApart_9) (by kernel_rfl) ?_
    refine wpE_region (id := 2) (ops := r_towpathlaw02_CodecApart_7) (by kernel_rfl) ?_
    refine reg_run [.plain, .plain] 2 [(0, [], Value.int .u64 n_), (1, [], Value.int .u64 m), (5, [], Value.pointer v10), (6, [], Value.pointer v11), (12, [], Value.pointer v10), (13, [], Value.int .u64 n_)] (by kernel_rfl) (by kernel_rfl) ?_
    refine reg_enter (op := (Go.Op.call (Go.Call.mk (Go.Callee.value (Go.Operand.func 34)) #[(Go.Operand.tmp 12), (Go.Operand.tmp 13)] #[65, 35]))) (ty := 0) (dst := some 14) 34 #[Value.pointer v10, Value.int .u64 n_] (by kernel_rfl) (fun ww => by kernel_rfl) (Calls.mono h ?_)
    rintro _ w3 ⟨rfl, h⟩
    refine ⟨_, rfl, ?_⟩
    refine reg_end [(0, Value.int .u64 n_), (1, Value.int .u64 m), (5, Value.pointer v10), (6, Value.pointer v11)] (by kernel_rfl) (by kernel_rfl) ?_
    change WpE _ _ c_towpathlaw02_CodecApart_9 _ _ _
    refine wpE_seq (x := c_towpathlaw02_CodecApart_10) (y := c_towpathlaw02_CodecApart_12) (by kernel_rfl) ?_
    refine wpE_region (id := 3) (ops := r_towpathlaw02_CodecApart_10) (by kernel_rfl) ?_
    refine reg_run [.plain, .plain] 2 [(0, [], Value.int .u64 n_), (1, [], Value.int .u64 m), (5, [], Value.pointer v10), (6, [], Value.pointer v11), (15, [], Value.pointer v11), (16, [], Value.int .u64 m)] (by kernel_rfl) (by kernel_rfl) ?_
    refine reg_enter (op := (Go.Op.call (Go.Call.mk (Go.Callee.value (Go.Operand.func 34)) #[(Go.Operand.tmp 15), (Go.Operand.tmp 16)] #[65, 35]))) (ty := 0) (dst := some 17) 34 #[Value.pointer v11, Value.int .u64 m] (by kernel_rfl) (fun ww => by kernel_rfl) (Calls.mono h ?_)
    rintro _ w4 ⟨rfl, h⟩
    refine ⟨_, rfl, ?_⟩
    refine reg_end [(0, Value.int .u64 n_), (1, Value.int .u64 m), (5, Value.pointer v10), (6, Value.pointer v11)] (by kernel_rfl) (by kernel_rfl) ?_
    change WpE _ _ c_towpathlaw02_CodecApart_12 _ _ _
    refine wpE_seq (x := c_towpathlaw02_CodecApart_13) (y := c_towpathlaw02_CodecApart_15) (by kernel_rfl) ?_
    refine wpE_region (id := 4) (ops := r_towpathlaw02_CodecApart_13) (by kernel_rfl) ?_
    refine reg_run [.plain] 1 [(0, [], Value.int .u64 n_), (1, [], Value.int .u64 m), (6, [], Value.pointer v11), (18, [], Value.pointer v10)] (by kernel_rfl) (by kernel_rfl) ?_
    refine reg_enter (op := (Go.Op.call (Go.Call.mk (Go.Callee.value (Go.Operand.func 35)) #[(Go.Operand.tmp 18)] #[65]))) (ty := 22) (dst := some 19) 35 #[Value.pointer v10] (by kernel_rfl) (fun ww => by kernel_rfl) (Calls.mono h ?_)
    rintro _ w5 ⟨v19, rfl, h⟩
    refine ⟨_, rfl, ?_⟩
    refine reg_run [.plain] 3 [(0, [], Value.int .u64 n_), (1, [], Value.int .u64 m), (19, [], Value.slice v19.ptr v19.len v19.cap), (20, [], Value.pointer v11)] (by kernel_rfl) (by kernel_rfl) ?_
    refine reg_enter (op := (Go.Op.call (Go.Call.mk (Go.Callee.value (Go.Operand.func 35)) #[(Go.Operand.tmp 20)] #[65]))) (ty := 22) (dst := some 21) 35 #[Value.pointer v11] (by kernel_rfl) (fun ww => by kernel_rfl) (Calls.mono h ?_)
    rintro _ w6 ⟨v21, rfl, h⟩
    refine ⟨_, rfl, ?_⟩
    refine reg_run [.plain, .plain] 6 [(0, [], Value.int .u64 n_), (1, [], Value.int .u64 m), (7, [], Value.slice v19.ptr v19.len v19.cap), (8, [], Value.slice v21.ptr v21.len v21.cap)] (by kernel_rfl) (by kernel_rfl) ?_
    refine reg_end [(0, Value.int .u64 n_), (1, Value.int .u64 m), (7, Value.slice v19.ptr v19.len v19.cap), (8, Value.slice v21.ptr v21.len v21.cap)] (by kernel_rfl) (by kernel_rfl) ?_
    change WpE _ _ c_towpathlaw02_CodecApart_15 _ _ _
    refine wpE_seq (x := c_towpathlaw02_CodecApart_16) (y := c_towpathlaw02_CodecApart_25) (by kernel_rfl) ?_
    refine wpE_seq (x := c_towpathlaw02_CodecApart_17) (y := c_towpathlaw02_CodecApart_19) (by kernel_rfl) ?_
    refine wpE_region (id := 5) (ops := r_towpathlaw02_CodecApart_17) (by kernel_rfl) ?_
    refine reg_run [] 0 [(0, [], Value.int .u64 n_), (1, [], Value.int .u64 m), (7, [], Value.slice v19.ptr v19.len v19.cap), (8, [], Value.slice v21.ptr v21.len v21.cap)] (by kernel_rfl) (by kernel_rfl) ?_
    refine reg_enter (op := (Go.Op.call (Go.Call.mk (Go.Callee.value (Go.Operand.func 36)) #[] #[]))) (ty := 4) (dst := some 22) 36 #[] (by kernel_rfl) (fun ww => by kernel_rfl) (Calls.mono h ?_)
    rintro _ w7 ⟨v22, rfl, h⟩
    refine ⟨_, rfl, ?_⟩
    refine reg_run [.plain, .plain, .plain, .plain, .plain, .pick, .plain, .plain, .plain, .plain, .pick, .plain, .plain, .plain, .plain, .plain, .plain, .plain, .plain, .plain, .plain, .pick, .pick] 24 [(0, [], Value.int .u64 n_), (1, [], Value.int .u64 m), (7, [], Value.slice v19.ptr v19.len v19.cap), (8, [], Value.slice v21.ptr v21.len v21.cap), (45, [], Value.bool ((((!v22) || (((v19.len : Nat) : Int) == 0)) || (((v21.len : Nat) : Int) == 0)) || ((decide (n_ > m)) && (decide (((v19.len : Nat) : Int) < ((v21.len : Nat) : Int))))))] (by kernel_rfl) (by kernel_rfl) ?_
    refine reg_end [(0, Value.int .u64 n_), (1, Value.int .u64 m), (7, Value.slice v19.ptr v19.len v19.cap), (8, Value.slice v21.ptr v21.len v21.cap), (45, Value.bool ((((!v22) || (((v19.len : Nat) : Int) == 0)) || (((v21.len : Nat) : Int) == 0)) || ((decide (n_ > m)) && (decide (((v19.len : Nat) : Int) < ((v21.len : Nat) : Int))))))] (by kernel_rfl) (by kernel_rfl) ?_
    change WpE _ _ c_towpathlaw02_CodecApart_19 _ _ _
    refine wpE_cond (o := (Operand.tmp 45)) (b := ((((!v22) || (((v19.len : Nat) : Int) == 0)) || (((v21.len : Nat) : Int) == 0)) || ((decide (n_ > m)) && (decide (((v19.len : Nat) : Int) < ((v21.len : Nat) : Int)))))) (x := c_towpathlaw02_CodecApart_20) (y := c_towpathlaw02_CodecApart_24) (by kernel_rfl) (by kernel_rfl) (fun hb => ?_) (fun hb => ?_)
    · replace h := h.1 hb
      refine wpE_seq (x := c_towpathlaw02_CodecApart_21) (y := c_towpathlaw02_CodecApart_23) (by kernel_rfl) ?_
      refine wpE_region (id := 6) (ops := r_towpathlaw02_CodecApart_21) (by kernel_rfl) ?_
      refine reg_run [.plain] 1 [(4, [], Value.bool false)] (by kernel_rfl) (by kernel_rfl) ?_
      refine reg_end [(4, Value.bool false)] (by kernel_rfl) (by kernel_rfl) ?_
      change WpE _ _ c_towpathlaw02_CodecApart_23 _ _ _
      refine wpE_ret (by kernel_rfl) ?_
      repeat (first | refine seqQ_ret ?_ | refine blockQ_ret ?_ | refine loopQ_ret ?_ | refine cutQ_ret ?_)
      exact retS (rs := [(Go.ResultVar.tmp 4)]) (v := Value.bool false) (by kernel_rfl) (⟨by kernel_rfl, trivial⟩) ⟨false, rfl, h⟩
    · replace h := h.2 hb
      refine wpE_skip (by kernel_rfl) ?_
      change WpE _ _ c_towpathlaw02_CodecApart_25 _ _ _
      refine wpE_seq (x := c_towpathlaw02_CodecApart_26) (y := c_towpathlaw02_CodecApart_35) (by kernel_rfl) ?_
      refine wpE_seq (x := c_towpathlaw02_CodecApart_27) (y := c_towpathlaw02_CodecApart_29) (by kernel_rfl) ?_
      refine wpE_region (id := 7) (ops := r_towpathlaw02_CodecApart_27) (by kernel_rfl) ?_
      refine reg_run [.plain, .plain, .plain] 3 [(7, [], Value.slice v19.ptr v19.len v19.cap), (8, [], Value.slice v21.ptr v21.len v21.cap), (48, [], Value.bool (n_ == m))] (by kernel_rfl) (by kernel_rfl) ?_
      refine reg_end [(7, Value.slice v19.ptr v19.len v19.cap), (8, Value.slice v21.ptr v21.len v21.cap), (48, Value.bool (n_ == m))] (by kernel_rfl) (by kernel_rfl) ?_
      change WpE _ _ c_towpathlaw02_CodecApart_29 _ _ _
      refine wpE_cond (o := (Operand.tmp 48)) (b := (n_ == m)) (x := c_towpathlaw02_CodecApart_30) (y := c_towpathlaw02_CodecApart_34) (by kernel_rfl) (by kernel_rfl) (fun hb => ?_) (fun hb => ?_)
      · replace h := h.1 hb
        refine wpE_seq (x := c_towpathlaw02_CodecApart_31) (y := c_towpathlaw02_CodecApart_33) (by kernel_rfl) ?_
        refine wpE_region (id := 8) (ops := r_towpathlaw02_CodecApart_31) (by kernel_rfl) ?_
        refine reg_run [.plain, .plain] 2 [(49, [], Value.slice v19.ptr v19.len v19.cap), (50, [], Value.slice v21.ptr v21.len v21.cap)] (by kernel_rfl) (by kernel_rfl) ?_
        refine reg_enter (op := (Go.Op.call (Go.Call.mk (Go.Callee.value (Go.Operand.func 30)) #[(Go.Operand.tmp 49), (Go.Operand.tmp 50)] #[22, 22]))) (ty := 4) (dst := some 51) 30 #[Value.slice v19.ptr v19.len v19.cap, Value.slice v21.ptr v21.len v21.cap] (by kernel_rfl) (fun ww => by kernel_rfl) (Calls.mono h ?_)
        rintro _ w8 ⟨v51, rfl, h⟩
        refine ⟨_, rfl, ?_⟩
        refine reg_run [.plain] 4 [(4, [], Value.bool v51)] (by kernel_rfl) (by kernel_rfl) ?_
        refine reg_end [(4, Value.bool v51)] (by kernel_rfl) (by kernel_rfl) ?_
        change WpE _ _ c_towpathlaw02_CodecApart_33 _ _ _
        refine wpE_ret (by kernel_rfl) ?_
        repeat (first | refine seqQ_ret ?_ | refine blockQ_ret ?_ | refine loopQ_ret ?_ | refine cutQ_ret ?_)
        exact retS (rs := [(Go.ResultVar.tmp 4)]) (v := Value.bool v51) (by kernel_rfl) (⟨by kernel_rfl, trivial⟩) ⟨v51, rfl, h⟩
      · replace h := h.2 hb
        refine wpE_skip (by kernel_rfl) ?_
        change WpE _ _ c_towpathlaw02_CodecApart_35 _ _ _
        refine wpE_seq (x := c_towpathlaw02_CodecApart_36) (y := c_towpathlaw02_CodecApart_38) (by kernel_rfl) ?_
        refine wpE_region (id := 9) (ops := r_towpathlaw02_CodecApart_36) (by kernel_rfl) ?_
        refine reg_run [.plain, .plain, .plain, .plain, .plain, .plain] 6 [(7, [], Value.slice v19.ptr v19.len v19.cap), (8, [], Value.slice v21.ptr v21.len v21.cap), (9, [], Value.int .i64 (if ((v21.len : Nat) : Int) < ((v19.len : Nat) : Int) then ((v21.len : Nat) : Int) else ((v19.len : Nat) : Int)))] (by kernel_rfl) (by kernel_rfl) ?_
        refine reg_end [(7, Value.slice v19.ptr v19.len v19.cap), (8, Value.slice v21.ptr v21.len v21.cap), (9, Value.int .i64 (if ((v21.len : Nat) : Int) < ((v19.len : Nat) : Int) then ((v21.len : Nat) : Int) else ((v19.len : Nat) : Int)))] (by kernel_rfl) (by kernel_rfl) ?_
        change WpE _ _ c_towpathlaw02_CodecApart_38 _ _ _
        refine wpE_seq (x := c_towpathlaw02_CodecApart_39) (y := c_towpathlaw02_CodecApart_41) (by kernel_rfl) ?_
        refine wpE_mixregion (id := 10) (ops := r_towpathlaw02_CodecApart_39) o_towpathlaw02_CodecApart_39 (by kernel_rfl) (by kernel_rfl) (by kernel_rfl) (by kernel_rfl) (fun w9 hw => ?_)
        replace h := h w9 hw
        clear hw
        refine mreg_run [.plain, .plain] 2 [(8, [], Value.slice v21.ptr v21.len v21.cap), (9, [], Value.int .i64 (if ((v21.len : Nat) : Int) < ((v19.len : Nat) : Int) then ((v21.len : Nat) : Int) else ((v19.len : Nat) : Int))), (57, [], Value.slice v19.ptr v19.len v19.cap), (58, [], Value.int .i64 (if ((v21.len : Nat) : Int) < ((v19.len : Nat) : Int) then ((v21.len : Nat) : Int) else ((v19.len : Nat) : Int)))] (by kernel_rfl) (by kernel_rfl) ?_
        obtain ⟨h0, h1, h⟩ := h
        refine mreg_sliceHi (i := 2) (by kernel_rfl) (t := 22) (e := 5) (x := (Go.Operand.tmp 57)) (hi := (Go.Operand.tmp 58)) (p := v19.ptr) (l := v19.len) (c := v19.cap) (sz := 1) (k := .i64) (j := (if ((v21.len : Nat) : Int) < ((v19.len : Nat) : Int) then ((v21.len : Nat) : Int) else ((v19.len : Nat) : Int))) (ty := 22) (dst := some 59) (by kernel_rfl) (by kernel_rfl) (by kernel_rfl) (by kernel_rfl) (by kernel_rfl) h0 h1 ?_
        refine mreg_run [.plain, .plain] 5 [(59, [], Value.slice v19.ptr ((if ((v21.len : Nat) : Int) < ((v19.len : Nat) : Int) then ((v21.len : Nat) : Int) else ((v19.len : Nat) : Int)).toNat) v19.cap), (60, [], Value.slice v21.ptr v21.len v21.cap), (61, [], Value.int .i64 (if ((v21.len : Nat) : Int) < ((v19.len : Nat) : Int) then ((v21.len : Nat) : Int) else ((v19.len : Nat) : Int)))] (by kernel_rfl) (by kernel_rfl) ?_
        obtain ⟨h0, h1, h⟩ := h
        refine mreg_sliceHi (i := 5) (by kernel_rfl) (t := 22) (e := 5) (x := (Go.Operand.tmp 60)) (hi := (Go.Operand.tmp 61)) (p := v21.ptr) (l := v21.len) (c := v21.cap) (sz := 1) (k := .i64) (j := (if ((v21.len : Nat) : Int) < ((v19.len : Nat) : Int) then ((v21.len : Nat) : Int) else ((v19.len : Nat) : Int))) (ty := 22) (dst := some 62) (by kernel_rfl) (by kernel_rfl) (by kernel_rfl) (by kernel_rfl) (by kernel_rfl) h0 h1 ?_
        refine mreg_run [] 6 [(59, [], Value.slice v19.ptr ((if ((v21.len : Nat) : Int) < ((v19.len : Nat) : Int) then ((v21.len : Nat) : Int) else ((v19.len : Nat) : Int)).toNat) v19.cap), (62, [], Value.slice v21.ptr ((if ((v21.len : Nat) : Int) < ((v19.len : Nat) : Int) then ((v21.len : Nat) : Int) else ((v19.len : Nat) : Int)).toNat) v21.cap)] (by kernel_rfl) (by kernel_rfl) ?_
        refine mreg_enter (op := (Go.Op.call (Go.Call.mk (Go.Callee.value (Go.Operand.func 30)) #[(Go.Operand.tmp 59), (Go.Operand.tmp 62)] #[22, 22]))) (ty := 4) (dst := some 63) 6 [2, 5, 0, 1, 3, 4] [] 30 #[Value.slice v19.ptr ((if ((v21.len : Nat) : Int) < ((v19.len : Nat) : Int) then ((v21.len : Nat) : Int) else ((v19.len : Nat) : Int)).toNat) v19.cap, Value.slice v21.ptr ((if ((v21.len : Nat) : Int) < ((v19.len : Nat) : Int) then ((v21.len : Nat) : Int) else ((v19.len : Nat) : Int)).toNat) v21.cap] (by kernel_rfl) (by kernel_rfl) (by kernel_rfl) (by kernel_rfl) (by kernel_rfl) (fun ww => by kernel_rfl) (Calls.mono h ?_)
        rintro _ w10 ⟨v63, rfl, h⟩
        refine ⟨_, rfl, trivial, ?_⟩
        refine mreg_run [.plain, .plain] 9 [(4, [], Value.bool (!v63))] (by kernel_rfl) (by kernel_rfl) ?_
        refine mreg_end [(4, Value.bool (!v63))] (by kernel_rfl) (by kernel_rfl) (by kernel_rfl) ?_
        change WpE _ _ c_towpathlaw02_CodecApart_41 _ _ _
        refine wpE_ret (by kernel_rfl) ?_
        repeat (first | refine seqQ_ret ?_ | refine blockQ_ret ?_ | refine loopQ_ret ?_ | refine cutQ_ret ?_)
        exact retS (rs := [(Go.ResultVar.tmp 4)]) (v := Value.bool (!v63)) (by kernel_rfl) (⟨by kernel_rfl, trivial⟩) ⟨(!v63), rfl, h⟩
  · rintro e w' ⟨v, rfl, r0, rfl, h⟩; exact ⟨r0, rfl, h⟩
end Go.Proofs.Ytckmganidgbpgaa
