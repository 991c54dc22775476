/- WRITTEN BY PROGRAM (dec.py): for each Go function the clean formula F, the call's contract C, and the proof S that F gives C. -/
import Derived.Test.YtmcpljflohlnaaaRows
import Derived.Test.YtmcpljflohlnaaaGF
namespace Go.Proofs.Ytmcpljflohlnaaa
open Go
set_option linter.unusedVariables false

/-! ### towpath/towpathlaw03.SumJoins (function 9) -/
noncomputable def c_towpathlaw03_SumJoins_0 : Code := (Try.f9.body).getD Code.skip
noncomputable def c_towpathlaw03_SumJoins_1 : Code := Code.l c_towpathlaw03_SumJoins_0
noncomputable def r_towpathlaw03_SumJoins_1 : Array Oper := Code.ops c_towpathlaw03_SumJoins_1
noncomputable def c_towpathlaw03_SumJoins_3 : Code := Code.r c_towpathlaw03_SumJoins_0
noncomputable def c_towpathlaw03_SumJoins_4 : Code := Code.l c_towpathlaw03_SumJoins_3
noncomputable def c_towpathlaw03_SumJoins_5 : Code := Code.l c_towpathlaw03_SumJoins_4
noncomputable def r_towpathlaw03_SumJoins_5 : Array Oper := Code.ops c_towpathlaw03_SumJoins_5
noncomputable def c_towpathlaw03_SumJoins_7 : Code := Code.r c_towpathlaw03_SumJoins_4
noncomputable def c_towpathlaw03_SumJoins_8 : Code := Code.l c_towpathlaw03_SumJoins_7
noncomputable def c_towpathlaw03_SumJoins_9 : Code := Code.l c_towpathlaw03_SumJoins_8
noncomputable def r_towpathlaw03_SumJoins_9 : Array Oper := Code.ops c_towpathlaw03_SumJoins_9
noncomputable def c_towpathlaw03_SumJoins_11 : Code := Code.r c_towpathlaw03_SumJoins_8
noncomputable def c_towpathlaw03_SumJoins_12 : Code := Code.r c_towpathlaw03_SumJoins_7
noncomputable def c_towpathlaw03_SumJoins_13 : Code := Code.r c_towpathlaw03_SumJoins_3
noncomputable def c_towpathlaw03_SumJoins_14 : Code := Code.l c_towpathlaw03_SumJoins_13
noncomputable def r_towpathlaw03_SumJoins_14 : Array Oper := Code.ops c_towpathlaw03_SumJoins_14
noncomputable def c_towpathlaw03_SumJoins_16 : Code := Code.r c_towpathlaw03_SumJoins_13
noncomputable def c_towpathlaw03_SumJoins_17 : Code := Code.l c_towpathlaw03_SumJoins_16
noncomputable def r_towpathlaw03_SumJoins_17 : Array Oper := Code.ops c_towpathlaw03_SumJoins_17
noncomputable def c_towpathlaw03_SumJoins_19 : Code := Code.r c_towpathlaw03_SumJoins_16
noncomputable def c_towpathlaw03_SumJoins_20 : Code := Code.l c_towpathlaw03_SumJoins_19
noncomputable def r_towpathlaw03_SumJoins_20 : Array Oper := Code.ops c_towpathlaw03_SumJoins_20
noncomputable def c_towpathlaw03_SumJoins_22 : Code := Code.r c_towpathlaw03_SumJoins_19
noncomputable def c_towpathlaw03_SumJoins_23 : Code := Code.l c_towpathlaw03_SumJoins_22
noncomputable def r_towpathlaw03_SumJoins_23 : Array Oper := Code.ops c_towpathlaw03_SumJoins_23
noncomputable def c_towpathlaw03_SumJoins_25 : Code := Code.r c_towpathlaw03_SumJoins_22

set_option maxRecDepth 100000 in
set_option maxHeartbeats 4000000 in
theorem S_towpathlaw03_SumJoins {a_ : Slc} {b_ : Slc} {sum0 : Int} {w : World} {R : Bool → World → Prop} (h : F_towpathlaw03_SumJoins a_ b_ sum0 R w) : C_towpathlaw03_SumJoins a_ b_ sum0 w R := by
  unfold F_towpathlaw03_SumJoins at h
  unfold C_towpathlaw03_SumJoins
  refine Calls.mono (calls_of_wpE (args := [Value.slice a_.ptr a_.len a_.cap, Value.slice b_.ptr b_.len b_.cap, Value.int .u32 sum0]) (R := fun v w' => ∃ (r0 : Bool), v = Value.bool r0 ∧ R r0 w') Try.func9 (c := c_towpathlaw03_SumJoins_0) (by kernel_rfl) 49 (by kernel_rfl) (by kernel_rfl) [(0, Value.slice a_.ptr a_.len a_.cap), (1, Value.slice b_.ptr b_.len b_.cap), (2, Value.int .u32 sum0)] (by kernel_rfl) ?_) ?_
  · refine wpE_seq (x := c_towpathlaw03_SumJoins_1) (y := c_towpathlaw03_SumJoins_3) (by kernel_rfl) ?_
    refine wpE_region (id := 0) (ops := r_towpathlaw03_SumJoins_1) (by kernel_rfl) ?_
    refine reg_run [.plain] 1 [(0, [], Value.slice a_.ptr a_.len a_.cap), (1, [], Value.slice b_.ptr b_.len b_.cap), (2, [], Value.int .u32 sum0)] (by kernel_rfl) (by kernel_rfl) ?_
    refine reg_end [(0, Value.slice a_.ptr a_.len a_.cap), (1, Value.slice b_.ptr b_.len b_.cap), (2, Value.int .u32 sum0)] (by kernel_rfl) (by kernel_rfl) ?_
    change WpE _ _ c_towpathlaw03_SumJoins_3 _ _ _
    refine wpE_seq (x := c_towpathlaw03_SumJoins_4) (y := c_towpathlaw03_SumJoins_13) (by kernel_rfl) ?_
    refine wpE_seq_cut (x := c_towpathlaw03_SumJoins_5) (y := c_towpathlaw03_SumJoins_7) (by kernel_rfl) (fun l w => ∃ (t17 : Bool), l = [(0, Value.slice a_.ptr a_.len a_.cap), (1, Value.slice b_.ptr b_.len b_.cap), (2, Value.int .u32 sum0), (17, Value.bool t17)] ∧ F_towpathlaw03_SumJoins_k0 a_ b_ sum0 R t17 w) ?_ ?_
    · refine wpE_region (id := 1) (ops := r_towpathlaw03_SumJoins_5) (by kernel_rfl) ?_
      refine reg_run [] 0 [(0, [], Value.slice a_.ptr a_.len a_.cap), (1, [], Value.slice b_.ptr b_.len b_.cap), (2, [], Value.int .u32 sum0)] (by kernel_rfl) (by kernel_rfl) ?_
      refine reg_enter (op := (Go.Op.call (Go.Call.mk (Go.Callee.value (Go.Operand.func 56)) #[] #[]))) (ty := 4) (dst := some 8) 56 #[] (by kernel_rfl) (fun ww => by kernel_rfl) (Calls.mono h ?_)
      rintro _ w12 ⟨v8, rfl, h⟩
      refine ⟨_, rfl, ?_⟩
      refine reg_run [.plain, .plain, .plain, .plain, .plain, .plain] 7 [(0, [], Value.slice a_.ptr a_.len a_.cap), (1, [], Value.slice b_.ptr b_.len b_.cap), (2, [], Value.int .u32 sum0), (10, [], Value.bool (!v8)), (12, [(10, false)], Value.int .i64 ((a_.len : Nat) : Int)), (14, [(10, false)], Value.int .i64 ((b_.len : Nat) : Int))] (by kernel_rfl) (by kernel_rfl) ?_
      refine reg_split 10 (!v8) (by kernel_rfl) (fun hb => ?_) (fun hb => ?_)
      · replace h := h.1 hb
        refine reg_run [] 7 [(0, [], Value.slice a_.ptr a_.len a_.cap), (1, [], Value.slice b_.ptr b_.len b_.cap), (2, [], Value.int .u32 sum0), (10, [], Value.bool true), (12, [], undef), (14, [], undef)] (by kernel_rfl) (by kernel_rfl) ?_
        refine reg_run [.skip, .skip, .plain] 10 [(0, [], Value.slice a_.ptr a_.len a_.cap), (1, [], Value.slice b_.ptr b_.len b_.cap), (2, [], Value.int .u32 sum0), (17, [], Value.bool true)] (by kernel_rfl) (by kernel_rfl) ?_
        refine reg_end [(0, Value.slice a_.ptr a_.len a_.cap), (1, Value.slice b_.ptr b_.len b_.cap), (2, Value.int .u32 sum0), (17, Value.bool true)] (by kernel_rfl) (by kernel_rfl) ?_
        exact ⟨[(0, Value.slice a_.ptr a_.len a_.cap), (1, Value.slice b_.ptr b_.len b_.cap), (2, Value.int .u32 sum0), (17, Value.bool true)], Sub.mk (by kernel_rfl), true, rfl, h⟩
      · replace h := h.2 hb
        refine reg_run [] 7 [(0, [], Value.slice a_.ptr a_.len a_.cap), (1, [], Value.slice b_.ptr b_.len b_.cap), (2, [], Value.int .u32 sum0), (10, [], Value.bool false), (12, [], Value.int .i64 ((a_.len : Nat) : Int)), (14, [], Value.int .i64 ((b_.len : Nat) : Int))] (by kernel_rfl) (by kernel_rfl) ?_
        refine reg_run [] 7 [(0, [], Value.slice a_.ptr a_.len a_.cap), (1, [], Value.slice b_.ptr b_.len b_.cap), (2, [], Value.int .u32 sum0), (10, [], Value.bool false), (12, [], Value.int .i64 ((a_.len : Nat) : Int)), (14, [], Value.int .i64 ((b_.len : Nat) : Int))] (by kernel_rfl) (by kernel_rfl) ?_
        refine reg_new (op := (Go.Op.buildSlice 88 2 #[(0, (Go.Operand.tmp 12)), (1, (Go.Operand.tmp 14))])) (ty := 88) (dst := some 15) (fun bb => Value.slice (some ⟨bb, 0, none⟩) 2 2) (Obj.cells ([Value.int .i64 ((a_.len : Nat) : Int), Value.int .i64 ((b_.len : Nat) : Int)]).toArray ty_int (0, 0)) (by kernel_rfl) (by kernel_rfl) (fun b_1 w13 hb hw => ?_)
        replace h := h b_1 w13 hb hw
        clear hb hw
        refine reg_run [] 8 [(0, [], Value.slice a_.ptr a_.len a_.cap), (1, [], Value.slice b_.ptr b_.len b_.cap), (2, [], Value.int .u32 sum0), (10, [], Value.bool false), (15, [], Value.slice (some ⟨b_1, 0, none⟩) 2 2)] (by kernel_rfl) (by kernel_rfl) ?_
        refine reg_enter (op := (Go.Op.call (Go.Call.mk (Go.Callee.value (Go.Operand.func 37)) #[(Go.Operand.tmp 15)] #[88]))) (ty := 4) (dst := some 16) 37 #[Value.slice (some ⟨b_1, 0, none⟩) 2 2] (by kernel_rfl) (fun ww => by kernel_rfl) (Calls.mono h ?_)
        rintro _ w14 ⟨v16, rfl, h⟩
        refine ⟨_, rfl, ?_⟩
        refine reg_run [.plain] 10 [(0, [], Value.slice a_.ptr a_.len a_.cap), (1, [], Value.slice b_.ptr b_.len b_.cap), (2, [], Value.int .u32 sum0), (17, [], Value.bool v16)] (by kernel_rfl) (by kernel_rfl) ?_
        refine reg_end [(0, Value.slice a_.ptr a_.len a_.cap), (1, Value.slice b_.ptr b_.len b_.cap), (2, Value.int .u32 sum0), (17, Value.bool v16)] (by kernel_rfl) (by kernel_rfl) ?_
        exact ⟨[(0, Value.slice a_.ptr a_.len a_.cap), (1, Value.slice b_.ptr b_.len b_.cap), (2, Value.int .u32 sum0), (17, Value.bool v16)], Sub.mk (by kernel_rfl), v16, rfl, h⟩
    · rintro _ w1 ⟨t17, rfl, h⟩
      unfold F_towpathlaw03_SumJoins_k0 at h
      refine wpE_cond (o := (Operand.tmp 17)) (b := t17) (x := c_towpathlaw03_SumJoins_8) (y := c_towpathlaw03_SumJoins_12) (by kernel_rfl) (by kernel_rfl) (fun hb => ?_) (fun hb => ?_)
      · replace h := h.1 hb
        refine wpE_seq (x := c_towpathlaw03_SumJoins_9) (y := c_towpathlaw03_SumJoins_11) (by kernel_rfl) ?_
        refine wpE_region (id := 2) (ops := r_towpathlaw03_SumJoins_9) (by kernel_rfl) ?_
        refine reg_run [] 0 [] (by kernel_rfl) (by kernel_rfl) ?_
        refine reg_enter (op := (Go.Op.call (Go.Call.mk (Go.Callee.value (Go.Operand.func 56)) #[] #[]))) (ty := 4) (dst := some 18) 56 #[] (by kernel_rfl) (fun ww => by kernel_rfl) (Calls.mono h ?_)
        rintro _ w2 ⟨v18, rfl, h⟩
        refine ⟨_, rfl, ?_⟩
        refine reg_run [.plain] 2 [(6, [], Value.bool v18)] (by kernel_rfl) (by kernel_rfl) ?_
        refine reg_end [(6, Value.bool v18)] (by kernel_rfl) (by kernel_rfl) ?_
        change WpE _ _ c_towpathlaw03_SumJoins_11 _ _ _
        refine wpE_ret (by kernel_rfl) ?_
        repeat (first | refine seqQ_ret ?_ | refine blockQ_ret ?_ | refine loopQ_ret ?_ | refine cutQ_ret ?_)
        exact retS (rs := [(Go.ResultVar.tmp 6)]) (v := Value.bool v18) (by kernel_rfl) (⟨by kernel_rfl, trivial⟩) ⟨v18, rfl, h⟩
      · replace h := h.2 hb
        refine wpE_skip (by kernel_rfl) ?_
        change WpE _ _ c_towpathlaw03_SumJoins_13 _ _ _
        refine wpE_seq (x := c_towpathlaw03_SumJoins_14) (y := c_towpathlaw03_SumJoins_16) (by kernel_rfl) ?_
        refine wpE_region (id := 3) (ops := r_towpathlaw03_SumJoins_14) (by kernel_rfl) ?_
        refine reg_run [.plain] 1 [(0, [], Value.slice a_.ptr a_.len a_.cap), (1, [], Value.slice b_.ptr b_.len b_.cap), (2, [], Value.int .u32 sum0), (7, [], Value.slice none 0 0)] (by kernel_rfl) (by kernel_rfl) ?_
        refine reg_end [(0, Value.slice a_.ptr a_.len a_.cap), (1, Value.slice b_.ptr b_.len b_.cap), (2, Value.int .u32 sum0), (7, Value.slice none 0 0)] (by kernel_rfl) (by kernel_rfl) ?_
        change WpE _ _ c_towpathlaw03_SumJoins_16 _ _ _
        refine wpE_seq (x := c_towpathlaw03_SumJoins_17) (y := c_towpathlaw03_SumJoins_19) (by kernel_rfl) ?_
        refine wpE_region (id := 4) (ops := r_towpathlaw03_SumJoins_17) (by kernel_rfl) ?_
        refine reg_run [.plain, .plain] 2 [(0, [], Value.slice a_.ptr a_.len a_.cap), (1, [], Value.slice b_.ptr b_.len b_.cap), (2, [], Value.int .u32 sum0), (7, [], Value.slice none 0 0), (19, [], Value.slice none 0 0), (20, [], Value.slice a_.ptr a_.len a_.cap)] (by kernel_rfl) (by kernel_rfl) ?_
        obtain ⟨src, hs, h⟩ := h
        refine reg_append (t := 74) (tx := 74) (e := 5) (a := (Go.Operand.tmp 19)) (xo := (Go.Operand.tmp 20)) (s := (Slc.mk none 0 0)) (x := a_) (sz := 1) (by_ := 1) (zs := [Value.int .u8 0]) (ty := 74) (dst := some 21) src (by kernel_rfl) (by kernel_rfl) (by kernel_rfl) (by kernel_rfl) (by kernel_rfl) (by kernel_rfl) (by kernel_rfl) (by kernel_rfl) (by kernel_rfl) hs (AppendW.mono h (fun both w3 h => ?_))
        refine reg_run [.plain] 4 [(0, [], Value.slice a_.ptr a_.len a_.cap), (1, [], Value.slice b_.ptr b_.len b_.cap), (2, [], Value.int .u32 sum0), (7, [], Value.slice both.ptr both.len both.cap)] (by kernel_rfl) (by kernel_rfl) ?_
        refine reg_end [(0, Value.slice a_.ptr a_.len a_.cap), (1, Value.slice b_.ptr b_.len b_.cap), (2, Value.int .u32 sum0), (7, Value.slice both.ptr both.len both.cap)] (by kernel_rfl) (by kernel_rfl) ?_
        change WpE _ _ c_towpathlaw03_SumJoins_19 _ _ _
        refine wpE_seq (x := c_towpathlaw03_SumJoins_20) (y := c_towpathlaw03_SumJoins_22) (by kernel_rfl) ?_
        refine wpE_region (id := 5) (ops := r_towpathlaw03_SumJoins_20) (by kernel_rfl) ?_
        refine reg_run [.plain, .plain] 2 [(0, [], Value.slice a_.ptr a_.len a_.cap), (1, [], Value.slice b_.ptr b_.len b_.cap), (2, [], Value.int .u32 sum0), (7, [], Value.slice both.ptr both.len both.cap), (22, [], Value.slice both.ptr both.len both.cap), (23, [], Value.slice b_.ptr b_.len b_.cap)] (by kernel_rfl) (by kernel_rfl) ?_
        obtain ⟨src, hs, h⟩ := h
        refine reg_append (t := 74) (tx := 74) (e := 5) (a := (Go.Operand.tmp 22)) (xo := (Go.Operand.tmp 23)) (s := both) (x := b_) (sz := 1) (by_ := 1) (zs := [Value.int .u8 0]) (ty := 74) (dst := some 24) src (by kernel_rfl) (by kernel_rfl) (by kernel_rfl) (by kernel_rfl) (by kernel_rfl) (by kernel_rfl) (by kernel_rfl) (by kernel_rfl) (by kernel_rfl) hs (AppendW.mono h (fun both1 w4 h => ?_))
        refine reg_run [.plain] 4 [(0, [], Value.slice a_.ptr a_.len a_.cap), (1, [], Value.slice b_.ptr b_.len b_.cap), (2, [], Value.int .u32 sum0), (7, [], Value.slice both1.ptr both1.len both1.cap)] (by kernel_rfl) (by kernel_rfl) ?_
        refine reg_end [(0, Value.slice a_.ptr a_.len a_.cap), (1, Value.slice b_.ptr b_.len b_.cap), (2, Value.int .u32 sum0), (7, Value.slice both1.ptr both1.len both1.cap)] (by kernel_rfl) (by kernel_rfl) ?_
        change WpE _ _ c_towpathlaw03_SumJoins_22 _ _ _
        refine wpE_seq (x := c_towpathlaw03_SumJoins_23) (y := c_towpathlaw03_SumJoins_25) (by kernel_rfl) ?_
        refine wpE_region (id := 6) (ops := r_towpathlaw03_SumJoins_23) (by kernel_rfl) ?_
        refine reg_run [.plain] 1 [(0, [], Value.slice a_.ptr a_.len a_.cap), (1, [], Value.slice b_.ptr b_.len b_.cap), (2, [], Value.int .u32 sum0), (7, [], Value.slice both1.ptr both1.len both1.cap), (25, [], Value.slice a_.ptr a_.len a_.cap)] (by kernel_rfl) (by kernel_rfl) ?_
        refine reg_enter (op := (Go.Op.call (Go.Call.mk (Go.Callee.value (Go.Operand.func 51)) #[(Go.Operand.tmp 25)] #[74]))) (ty := 39) (dst := some 26) 51 #[Value.slice a_.ptr a_.len a_.cap] (by kernel_rfl) (fun ww => by kernel_rfl) (Calls.mono h ?_)
        rintro _ w5 ⟨v26, rfl, h⟩
        refine ⟨_, rfl, ?_⟩
        refine reg_run [.plain] 3 [(0, [], Value.slice a_.ptr a_.len a_.cap), (1, [], Value.slice b_.ptr b_.len b_.cap), (2, [], Value.int .u32 sum0), (7, [], Value.slice both1.ptr both1.len both1.cap), (26, [], Value.int .u32 v26), (27, [], Value.slice b_.ptr b_.len b_.cap)] (by kernel_rfl) (by kernel_rfl) ?_
        refine reg_enter (op := (Go.Op.call (Go.Call.mk (Go.Callee.value (Go.Operand.func 53)) #[(Go.Operand.tmp 26), (Go.Operand.tmp 27)] #[39, 74]))) (ty := 39) (dst := some 28) 53 #[Value.int .u32 v26, Value.slice b_.ptr b_.len b_.cap] (by kernel_rfl) (fun ww => by kernel_rfl) (Calls.mono h ?_)
        rintro _ w6 ⟨v28, rfl, h⟩
        refine ⟨_, rfl, ?_⟩
        refine reg_run [.plain] 5 [(0, [], Value.slice a_.ptr a_.len a_.cap), (1, [], Value.slice b_.ptr b_.len b_.cap), (2, [], Value.int .u32 sum0), (7, [], Value.slice both1.ptr both1.len both1.cap), (28, [], Value.int .u32 v28), (29, [], Value.slice both1.ptr both1.len both1.cap)] (by kernel_rfl) (by kernel_rfl) ?_
        refine reg_enter (op := (Go.Op.call (Go.Call.mk (Go.Callee.value (Go.Operand.func 51)) #[(Go.Operand.tmp 29)] #[74]))) (ty := 39) (dst := some 30) 51 #[Value.slice both1.ptr both1.len both1.cap] (by kernel_rfl) (fun ww => by kernel_rfl) (Calls.mono h ?_)
        rintro _ w7 ⟨v30, rfl, h⟩
        refine ⟨_, rfl, ?_⟩
        refine reg_run [.plain, .plain, .plain, .plain] 10 [(1, [], Value.slice b_.ptr b_.len b_.cap), (2, [], Value.int .u32 sum0), (7, [], Value.slice both1.ptr both1.len both1.cap), (32, [], Value.bool (v28 == v30)), (33, [(32, true)], Value.int .u32 sum0), (34, [(32, true)], Value.slice a_.ptr a_.len a_.cap)] (by kernel_rfl) (by kernel_rfl) ?_
        refine reg_split 32 (v28 == v30) (by kernel_rfl) (fun hb => ?_) (fun hb => ?_)
        · replace h := h.1 hb
          refine reg_run [] 10 [(1, [], Value.slice b_.ptr b_.len b_.cap), (2, [], Value.int .u32 sum0), (7, [], Value.slice both1.ptr both1.len both1.cap), (32, [], Value.bool true), (33, [], Value.int .u32 sum0), (34, [], Value.slice a_.ptr a_.len a_.cap)] (by kernel_rfl) (by kernel_rfl) ?_
          refine reg_run [] 10 [(1, [], Value.slice b_.ptr b_.len b_.cap), (2, [], Value.int .u32 sum0), (7, [], Value.slice both1.ptr both1.len both1.cap), (32, [], Value.bool true), (33, [], Value.int .u32 sum0), (34, [], Value.slice a_.ptr a_.len a_.cap)] (by kernel_rfl) (by kernel_rfl) ?_
          refine reg_enter (op := (Go.Op.call (Go.Call.mk (Go.Callee.value (Go.Operand.func 53)) #[(Go.Operand.tmp 33), (Go.Operand.tmp 34)] #[39, 74]))) (ty := 39) (dst := some 35) 53 #[Value.int .u32 sum0, Value.slice a_.ptr a_.len a_.cap] (by kernel_rfl) (fun ww => by kernel_rfl) (Calls.mono h ?_)
          rintro _ w8 ⟨v35, rfl, h⟩
          refine ⟨_, rfl, ?_⟩
          refine reg_run [.sure] 12 [(2, [], Value.int .u32 sum0), (7, [], Value.slice both1.ptr both1.len both1.cap), (32, [], Value.bool true), (35, [], Value.int .u32 v35), (36, [], Value.slice b_.ptr b_.len b_.cap)] (by kernel_rfl) (by kernel_rfl) ?_
          refine reg_enter (op := (Go.Op.call (Go.Call.mk (Go.Callee.value (Go.Operand.func 53)) #[(Go.Operand.tmp 35), (Go.Operand.tmp 36)] #[39, 74]))) (ty := 39) (dst := some 37) 53 #[Value.int .u32 v35, Value.slice b_.ptr b_.len b_.cap] (by kernel_rfl) (fun ww => by kernel_rfl) (Calls.mono h ?_)
          rintro _ w9 ⟨v37, rfl, h⟩
          refine ⟨_, rfl, ?_⟩
          refine reg_run [.sure, .sure] 15 [(2, [], Value.int .u32 sum0), (32, [], Value.bool true), (37, [], Value.int .u32 v37), (38, [], Value.int .u32 sum0), (39, [], Value.slice both1.ptr both1.len both1.cap)] (by kernel_rfl) (by kernel_rfl) ?_
          refine reg_enter (op := (Go.Op.call (Go.Call.mk (Go.Callee.value (Go.Operand.func 53)) #[(Go.Operand.tmp 38), (Go.Operand.tmp 39)] #[39, 74]))) (ty := 39) (dst := some 40) 53 #[Value.int .u32 sum0, Value.slice both1.ptr both1.len both1.cap] (by kernel_rfl) (fun ww => by kernel_rfl) (Calls.mono h ?_)
          rintro _ w10 ⟨v40, rfl, h⟩
          refine ⟨_, rfl, ?_⟩
          refine reg_run [.sure, .plain, .plain, .plain] 20 [(2, [], Value.int .u32 sum0), (43, [], Value.bool (v37 == v40)), (44, [(43, true)], Value.int .u32 sum0)] (by kernel_rfl) (by kernel_rfl) ?_
          refine reg_split 43 (v37 == v40) (by kernel_rfl) (fun hb => ?_) (fun hb => ?_)
          · replace h := h.1 hb
            refine reg_run [] 20 [(2, [], Value.int .u32 sum0), (43, [], Value.bool true), (44, [], Value.int .u32 sum0)] (by kernel_rfl) (by kernel_rfl) ?_
            refine reg_run [] 20 [(2, [], Value.int .u32 sum0), (43, [], Value.bool true), (44, [], Value.int .u32 sum0)] (by kernel_rfl) (by kernel_rfl) ?_
            refine reg_enter (op := (Go.Op.call (Go.Call.mk (Go.Callee.value (Go.Operand.func 53)) #[(Go.Operand.tmp 44), (Go.Operand.const (Go.Value.slice none 0 0))] #[39, 74]))) (ty := 39) (dst := some 45) 53 #[Value.int .u32 sum0, Value.slice none 0 0] (by kernel_rfl) (fun ww => by kernel_rfl) (Calls.mono h ?_)
            rintro _ w11 ⟨v45, rfl, h⟩
            refine ⟨_, rfl, ?_⟩
            refine reg_run [.sure, .sure, .plain, .plain] 25 [(6, [], Value.bool (v45 == sum0))] (by kernel_rfl) (by kernel_rfl) ?_
            refine reg_end [(6, Value.bool (v45 == sum0))] (by kernel_rfl) (by kernel_rfl) ?_
            change WpE _ _ c_towpathlaw03_SumJoins_25 _ _ _
            refine wpE_ret (by kernel_rfl) ?_
            repeat (first | refine seqQ_ret ?_ | refine blockQ_ret ?_ | refine loopQ_ret ?_ | refine cutQ_ret ?_)
            exact retS (rs := [(Go.ResultVar.tmp 6)]) (v := Value.bool (v45 == sum0)) (by kernel_rfl) (⟨by kernel_rfl, trivial⟩) ⟨(v45 == sum0), rfl, h⟩
          · replace h := h.2 hb
            refine reg_run [] 20 [(2, [], Value.int .u32 sum0), (43, [], Value.bool false), (44, [], undef)] (by kernel_rfl) (by kernel_rfl) ?_
            refine reg_run [.skip, .skip, .skip, .plain, .plain] 25 [(6, [], Value.bool false)] (by kernel_rfl) (by kernel_rfl) ?_
            refine reg_end [(6, Value.bool false)] (by kernel_rfl) (by kernel_rfl) ?_
            change WpE _ _ c_towpathlaw03_SumJoins_25 _ _ _
            refine wpE_ret (by kernel_rfl) ?_
            repeat (first | refine seqQ_ret ?_ | refine blockQ_ret ?_ | refine loopQ_ret ?_ | refine cutQ_ret ?_)
            exact retS (rs := [(Go.ResultVar.tmp 6)]) (v := Value.bool false) (by kernel_rfl) (⟨by kernel_rfl, trivial⟩) ⟨false, rfl, h⟩
        · replace h := h.2 hb
          refine reg_run [] 10 [(1, [], Value.slice b_.ptr b_.len b_.cap), (2, [], Value.int .u32 sum0), (7, [], Value.slice both1.ptr both1.len both1.cap), (32, [], Value.bool false), (33, [], undef), (34, [], undef)] (by kernel_rfl) (by kernel_rfl) ?_
          refine reg_run [.skip, .skip, .skip, .skip, .skip, .skip, .skip, .plain, .plain, .skip, .skip, .skip, .skip, .plain, .plain] 25 [(6, [], Value.bool false)] (by kernel_rfl) (by kernel_rfl) ?_
          refine reg_end [(6, Value.bool false)] (by kernel_rfl) (by kernel_rfl) ?_
          change WpE _ _ c_towpathlaw03_SumJoins_25 _ _ _
          refine wpE_ret (by kernel_rfl) ?_
          repeat (first | refine seqQ_ret ?_ | refine blockQ_ret ?_ | refine loopQ_ret ?_ | refine cutQ_ret ?_)
          exact retS (rs := [(Go.ResultVar.tmp 6)]) (v := Value.bool false) (by kernel_rfl) (⟨by kernel_rfl, trivial⟩) ⟨false, rfl, h⟩
  · rintro e w' ⟨v, rfl, r0, rfl, h⟩; exact ⟨r0, rfl, h⟩
end Go.Proofs.Ytmcpljflohlnaaa
