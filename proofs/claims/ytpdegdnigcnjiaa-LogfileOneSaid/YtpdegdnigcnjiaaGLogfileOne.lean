/- WRITTEN BY PROGRAM (dec.py): for each Go function the clean formula F, the call's contract C, and the proof S that F gives C. -/
import Derived.Test.YtpdegdnigcnjiaaRows
import Derived.Test.YtpdegdnigcnjiaaGF
namespace Go.Proofs.Ytpdegdnigcnjiaa
open Go
set_option linter.unusedVariables false

/-! ### towpath/towpathlaw06.LogfileOne (function 5) -/
noncomputable def c_towpathlaw06_LogfileOne_0 : Code := (Try.f5.body).getD Code.skip
noncomputable def c_towpathlaw06_LogfileOne_1 : Code := Code.l c_towpathlaw06_LogfileOne_0
noncomputable def r_towpathlaw06_LogfileOne_1 : Array Oper := Code.ops c_towpathlaw06_LogfileOne_1
noncomputable def c_towpathlaw06_LogfileOne_3 : Code := Code.r c_towpathlaw06_LogfileOne_0
noncomputable def c_towpathlaw06_LogfileOne_4 : Code := Code.l c_towpathlaw06_LogfileOne_3
noncomputable def c_towpathlaw06_LogfileOne_5 : Code := Code.l c_towpathlaw06_LogfileOne_4
noncomputable def r_towpathlaw06_LogfileOne_5 : Array Oper := Code.ops c_towpathlaw06_LogfileOne_5
noncomputable def c_towpathlaw06_LogfileOne_7 : Code := Code.r c_towpathlaw06_LogfileOne_4
noncomputable def c_towpathlaw06_LogfileOne_8 : Code := Code.l c_towpathlaw06_LogfileOne_7
noncomputable def c_towpathlaw06_LogfileOne_9 : Code := Code.l c_towpathlaw06_LogfileOne_8
noncomputable def r_towpathlaw06_LogfileOne_9 : Array Oper := Code.ops c_towpathlaw06_LogfileOne_9
noncomputable def c_towpathlaw06_LogfileOne_11 : Code := Code.r c_towpathlaw06_LogfileOne_8
noncomputable def c_towpathlaw06_LogfileOne_12 : Code := Code.r c_towpathlaw06_LogfileOne_7
noncomputable def c_towpathlaw06_LogfileOne_13 : Code := Code.r c_towpathlaw06_LogfileOne_3
noncomputable def c_towpathlaw06_LogfileOne_14 : Code := Code.l c_towpathlaw06_LogfileOne_13
noncomputable def r_towpathlaw06_LogfileOne_14 : Array Oper := Code.ops c_towpathlaw06_LogfileOne_14
noncomputable def c_towpathlaw06_LogfileOne_16 : Code := Code.r c_towpathlaw06_LogfileOne_13
noncomputable def c_towpathlaw06_LogfileOne_17 : Code := Code.l c_towpathlaw06_LogfileOne_16
noncomputable def r_towpathlaw06_LogfileOne_17 : Array Oper := Code.ops c_towpathlaw06_LogfileOne_17
noncomputable def c_towpathlaw06_LogfileOne_19 : Code := Code.r c_towpathlaw06_LogfileOne_16
noncomputable def c_towpathlaw06_LogfileOne_20 : Code := Code.l c_towpathlaw06_LogfileOne_19
noncomputable def c_towpathlaw06_LogfileOne_21 : Code := Code.l c_towpathlaw06_LogfileOne_20
noncomputable def r_towpathlaw06_LogfileOne_21 : Array Oper := Code.ops c_towpathlaw06_LogfileOne_21
noncomputable def c_towpathlaw06_LogfileOne_23 : Code := Code.r c_towpathlaw06_LogfileOne_20
noncomputable def c_towpathlaw06_LogfileOne_24 : Code := Code.l c_towpathlaw06_LogfileOne_23
noncomputable def c_towpathlaw06_LogfileOne_25 : Code := Code.l c_towpathlaw06_LogfileOne_24
noncomputable def r_towpathlaw06_LogfileOne_25 : Array Oper := Code.ops c_towpathlaw06_LogfileOne_25
noncomputable def c_towpathlaw06_LogfileOne_27 : Code := Code.r c_towpathlaw06_LogfileOne_24
noncomputable def c_towpathlaw06_LogfileOne_28 : Code := Code.r c_towpathlaw06_LogfileOne_23
noncomputable def c_towpathlaw06_LogfileOne_29 : Code := Code.r c_towpathlaw06_LogfileOne_19
noncomputable def c_towpathlaw06_LogfileOne_30 : Code := Code.l c_towpathlaw06_LogfileOne_29
noncomputable def c_towpathlaw06_LogfileOne_31 : Code := Code.l c_towpathlaw06_LogfileOne_30
noncomputable def r_towpathlaw06_LogfileOne_31 : Array Oper := Code.ops c_towpathlaw06_LogfileOne_31
noncomputable def c_towpathlaw06_LogfileOne_33 : Code := Code.r c_towpathlaw06_LogfileOne_30
noncomputable def c_towpathlaw06_LogfileOne_34 : Code := Code.l c_towpathlaw06_LogfileOne_33
noncomputable def c_towpathlaw06_LogfileOne_35 : Code := Code.l c_towpathlaw06_LogfileOne_34
noncomputable def c_towpathlaw06_LogfileOne_36 : Code := Code.l c_towpathlaw06_LogfileOne_35
noncomputable def c_towpathlaw06_LogfileOne_37 : Code := Code.l c_towpathlaw06_LogfileOne_36
noncomputable def r_towpathlaw06_LogfileOne_37 : Array Oper := Code.ops c_towpathlaw06_LogfileOne_37
noncomputable def c_towpathlaw06_LogfileOne_39 : Code := Code.r c_towpathlaw06_LogfileOne_36
noncomputable def c_towpathlaw06_LogfileOne_40 : Code := Code.l c_towpathlaw06_LogfileOne_39
noncomputable def c_towpathlaw06_LogfileOne_41 : Code := Code.r c_towpathlaw06_LogfileOne_39
noncomputable def c_towpathlaw06_LogfileOne_42 : Code := Code.r c_towpathlaw06_LogfileOne_35
noncomputable def c_towpathlaw06_LogfileOne_43 : Code := Code.l c_towpathlaw06_LogfileOne_42
noncomputable def c_towpathlaw06_LogfileOne_44 : Code := Code.l c_towpathlaw06_LogfileOne_43
noncomputable def c_towpathlaw06_LogfileOne_45 : Code := Code.l c_towpathlaw06_LogfileOne_44
noncomputable def r_towpathlaw06_LogfileOne_45 : Array Oper := Code.ops c_towpathlaw06_LogfileOne_45
noncomputable def c_towpathlaw06_LogfileOne_47 : Code := Code.r c_towpathlaw06_LogfileOne_44
noncomputable def c_towpathlaw06_LogfileOne_48 : Code := Code.l c_towpathlaw06_LogfileOne_47
noncomputable def c_towpathlaw06_LogfileOne_49 : Code := Code.l c_towpathlaw06_LogfileOne_48
noncomputable def r_towpathlaw06_LogfileOne_49 : Array Oper := Code.ops c_towpathlaw06_LogfileOne_49
noncomputable def c_towpathlaw06_LogfileOne_51 : Code := Code.r c_towpathlaw06_LogfileOne_48
noncomputable def c_towpathlaw06_LogfileOne_52 : Code := Code.r c_towpathlaw06_LogfileOne_47
noncomputable def c_towpathlaw06_LogfileOne_53 : Code := Code.r c_towpathlaw06_LogfileOne_42
noncomputable def r_towpathlaw06_LogfileOne_53 : Array Oper := Code.ops c_towpathlaw06_LogfileOne_53
noncomputable def c_towpathlaw06_LogfileOne_55 : Code := Code.r c_towpathlaw06_LogfileOne_29
noncomputable def c_towpathlaw06_LogfileOne_56 : Code := Code.l c_towpathlaw06_LogfileOne_55
noncomputable def r_towpathlaw06_LogfileOne_56 : Array Oper := Code.ops c_towpathlaw06_LogfileOne_56
noncomputable def c_towpathlaw06_LogfileOne_58 : Code := Code.r c_towpathlaw06_LogfileOne_55

set_option maxRecDepth 100000 in
set_option maxHeartbeats 4000000 in
theorem S_towpathlaw06_LogfileOne {b_ : Slc} {w : World} {R : Bool → World → Prop} (h : F_towpathlaw06_LogfileOne b_ R w) : C_towpathlaw06_LogfileOne b_ w R := by
  unfold F_towpathlaw06_LogfileOne at h
  unfold C_towpathlaw06_LogfileOne
  refine Calls.mono (calls_of_wpE (args := [Value.slice b_.ptr b_.len b_.cap]) (R := fun v w' => ∃ (r0 : Bool), v = Value.bool r0 ∧ R r0 w') Try.func5 (c := c_towpathlaw06_LogfileOne_0) (by kernel_rfl) 80 (by kernel_rfl) (by kernel_rfl) [(0, Value.slice b_.ptr b_.len b_.cap)] (by kernel_rfl) ?_) ?_
  · refine wpE_seq (x := c_towpathlaw06_LogfileOne_1) (y := c_towpathlaw06_LogfileOne_3) (by kernel_rfl) ?_
    refine wpE_region (id := 0) (ops := r_towpathlaw06_LogfileOne_1) (by kernel_rfl) ?_
    refine reg_run [.plain] 1 [(0, [], Value.slice b_.ptr b_.len b_.cap)] (by kernel_rfl) (by kernel_rfl) ?_
    refine reg_end [(0, Value.slice b_.ptr b_.len b_.cap)] (by kernel_rfl) (by kernel_rfl) ?_
    change WpE _ _ c_towpathlaw06_LogfileOne_3 _ _ _
    refine wpE_seq (x := c_towpathlaw06_LogfileOne_4) (y := c_towpathlaw06_LogfileOne_13) (by kernel_rfl) ?_
    refine wpE_seq_cut (x := c_towpathlaw06_LogfileOne_5) (y := c_towpathlaw06_LogfileOne_7) (by kernel_rfl) (fun l w => ∃ (t16 : Bool), l = [(0, Value.slice b_.ptr b_.len b_.cap), (16, Value.bool t16)] ∧ F_towpathlaw06_LogfileOne_k0 b_ R t16 w) ?_ ?_
    · refine wpE_region (id := 1) (ops := r_towpathlaw06_LogfileOne_5) (by kernel_rfl) ?_
      refine reg_run [] 0 [(0, [], Value.slice b_.ptr b_.len b_.cap)] (by kernel_rfl) (by kernel_rfl) ?_
      refine reg_enter (op := (Go.Op.call (Go.Call.mk (Go.Callee.value (Go.Operand.func 15)) #[] #[]))) (ty := 4) (dst := some 9) 15 #[] (by kernel_rfl) (fun ww => by kernel_rfl) (Calls.mono h ?_)
      rintro _ w10 ⟨v9, rfl, h⟩
      refine ⟨_, rfl, ?_⟩
      refine reg_run [.plain, .plain, .plain, .plain] 5 [(0, [], Value.slice b_.ptr b_.len b_.cap), (11, [], Value.bool (!v9)), (13, [(11, false)], Value.int .i64 ((b_.len : Nat) : Int))] (by kernel_rfl) (by kernel_rfl) ?_
      refine reg_split 11 (!v9) (by kernel_rfl) (fun hb => ?_) (fun hb => ?_)
      · replace h := h.1 hb
        refine reg_run [] 5 [(0, [], Value.slice b_.ptr b_.len b_.cap), (11, [], Value.bool true), (13, [], undef)] (by kernel_rfl) (by kernel_rfl) ?_
        refine reg_run [.skip, .skip, .plain] 8 [(0, [], Value.slice b_.ptr b_.len b_.cap), (16, [], Value.bool true)] (by kernel_rfl) (by kernel_rfl) ?_
        refine reg_end [(0, Value.slice b_.ptr b_.len b_.cap), (16, Value.bool true)] (by kernel_rfl) (by kernel_rfl) ?_
        exact ⟨[(0, Value.slice b_.ptr b_.len b_.cap), (16, Value.bool true)], Sub.mk (by kernel_rfl), true, rfl, h⟩
      · replace h := h.2 hb
        refine reg_run [] 5 [(0, [], Value.slice b_.ptr b_.len b_.cap), (11, [], Value.bool false), (13, [], Value.int .i64 ((b_.len : Nat) : Int))] (by kernel_rfl) (by kernel_rfl) ?_
        refine reg_run [] 5 [(0, [], Value.slice b_.ptr b_.len b_.cap), (11, [], Value.bool false), (13, [], Value.int .i64 ((b_.len : Nat) : Int))] (by kernel_rfl) (by kernel_rfl) ?_
        refine reg_new (op := (Go.Op.buildSlice 25 1 #[(0, (Go.Operand.tmp 13))])) (ty := 25) (dst := some 14) (fun bb => Value.slice (some ⟨bb, 0, none⟩) 1 1) (Obj.cells ([Value.int .i64 ((b_.len : Nat) : Int)]).toArray ty_int (0, 0)) (by kernel_rfl) (by kernel_rfl) (fun b_1 w11 hb hw => ?_)
        replace h := h b_1 w11 hb hw
        clear hb hw
        refine reg_run [] 6 [(0, [], Value.slice b_.ptr b_.len b_.cap), (11, [], Value.bool false), (14, [], Value.slice (some ⟨b_1, 0, none⟩) 1 1)] (by kernel_rfl) (by kernel_rfl) ?_
        refine reg_enter (op := (Go.Op.call (Go.Call.mk (Go.Callee.value (Go.Operand.func 10)) #[(Go.Operand.tmp 14)] #[25]))) (ty := 4) (dst := some 15) 10 #[Value.slice (some ⟨b_1, 0, none⟩) 1 1] (by kernel_rfl) (fun ww => by kernel_rfl) (Calls.mono h ?_)
        rintro _ w12 ⟨v15, rfl, h⟩
        refine ⟨_, rfl, ?_⟩
        refine reg_run [.plain] 8 [(0, [], Value.slice b_.ptr b_.len b_.cap), (16, [], Value.bool v15)] (by kernel_rfl) (by kernel_rfl) ?_
        refine reg_end [(0, Value.slice b_.ptr b_.len b_.cap), (16, Value.bool v15)] (by kernel_rfl) (by kernel_rfl) ?_
        exact ⟨[(0, Value.slice b_.ptr b_.len b_.cap), (16, Value.bool v15)], Sub.mk (by kernel_rfl), v15, rfl, h⟩
    · rintro _ w1 ⟨t16, rfl, h⟩
      unfold F_towpathlaw06_LogfileOne_k0 at h
      refine wpE_cond (o := (Operand.tmp 16)) (b := t16) (x := c_towpathlaw06_LogfileOne_8) (y := c_towpathlaw06_LogfileOne_12) (by kernel_rfl) (by kernel_rfl) (fun hb => ?_) (fun hb => ?_)
      · replace h := h.1 hb
        refine wpE_seq (x := c_towpathlaw06_LogfileOne_9) (y := c_towpathlaw06_LogfileOne_11) (by kernel_rfl) ?_
        refine wpE_region (id := 2) (ops := r_towpathlaw06_LogfileOne_9) (by kernel_rfl) ?_
        refine reg_run [] 0 [] (by kernel_rfl) (by kernel_rfl) ?_
        refine reg_enter (op := (Go.Op.call (Go.Call.mk (Go.Callee.value (Go.Operand.func 15)) #[] #[]))) (ty := 4) (dst := some 17) 15 #[] (by kernel_rfl) (fun ww => by kernel_rfl) (Calls.mono h ?_)
        rintro _ w2 ⟨v17, rfl, h⟩
        refine ⟨_, rfl, ?_⟩
        refine reg_run [.plain] 2 [(2, [], Value.bool v17)] (by kernel_rfl) (by kernel_rfl) ?_
        refine reg_end [(2, Value.bool v17)] (by kernel_rfl) (by kernel_rfl) ?_
        change WpE _ _ c_towpathlaw06_LogfileOne_11 _ _ _
        refine wpE_ret (by kernel_rfl) ?_
        repeat (first | refine seqQ_ret ?_ | refine blockQ_ret ?_ | refine loopQ_ret ?_ | refine cutQ_ret ?_)
        exact retS (rs := [(Go.ResultVar.tmp 2)]) (v := Value.bool v17) (by kernel_rfl) (⟨by kernel_rfl, trivial⟩) ⟨v17, rfl, h⟩
      · replace h := h.2 hb
        refine wpE_skip (by kernel_rfl) ?_
        change WpE _ _ c_towpathlaw06_LogfileOne_13 _ _ _
        refine wpE_seq (x := c_towpathlaw06_LogfileOne_14) (y := c_towpathlaw06_LogfileOne_16) (by kernel_rfl) ?_
        refine wpE_region (id := 3) (ops := r_towpathlaw06_LogfileOne_14) (by kernel_rfl) ?_
        refine reg_run [.plain] 1 [(0, [], Value.slice b_.ptr b_.len b_.cap), (19, [], Value.slice b_.ptr b_.len b_.cap)] (by kernel_rfl) (by kernel_rfl) ?_
        refine reg_enter (op := (Go.Op.call (Go.Call.mk (Go.Callee.value (Go.Operand.func 19)) #[(Go.Operand.tmp 19)] #[22]))) (ty := 42) (dst := some 20) 19 #[Value.slice b_.ptr b_.len b_.cap] (by kernel_rfl) (fun ww => by kernel_rfl) (Calls.mono h ?_)
        rintro _ w3 ⟨l_, good, e, rfl, h⟩
        refine ⟨_, rfl, ?_⟩
        refine reg_run [.plain, .plain, .plain, .plain, .plain, .plain, .plain] 9 [(0, [], Value.slice b_.ptr b_.len b_.cap), (3, [], Value.slice l_.ptr l_.len l_.cap), (4, [], Value.int .i64 good), (5, [], Value.int .i64 e)] (by kernel_rfl) (by kernel_rfl) ?_
        refine reg_end [(0, Value.slice b_.ptr b_.len b_.cap), (3, Value.slice l_.ptr l_.len l_.cap), (4, Value.int .i64 good), (5, Value.int .i64 e)] (by kernel_rfl) (by kernel_rfl) ?_
        change WpE _ _ c_towpathlaw06_LogfileOne_16 _ _ _
        refine wpE_seq (x := c_towpathlaw06_LogfileOne_17) (y := c_towpathlaw06_LogfileOne_19) (by kernel_rfl) ?_
        refine wpE_region (id := 4) (ops := r_towpathlaw06_LogfileOne_17) (by kernel_rfl) ?_
        refine reg_run [.plain] 1 [(0, [], Value.slice b_.ptr b_.len b_.cap), (3, [], Value.slice l_.ptr l_.len l_.cap), (4, [], Value.int .i64 good), (5, [], Value.int .i64 e), (25, [], Value.slice l_.ptr l_.len l_.cap)] (by kernel_rfl) (by kernel_rfl) ?_
        refine reg_enter (op := (Go.Op.call (Go.Call.mk (Go.Callee.value (Go.Operand.func 17)) #[(Go.Operand.tmp 25)] #[37]))) (ty := 32) (dst := some 26) 17 #[Value.slice l_.ptr l_.len l_.cap] (by kernel_rfl) (fun ww => by kernel_rfl) (Calls.mono h ?_)
        rintro _ w4 ⟨c, f, rfl, h⟩
        refine ⟨_, rfl, ?_⟩
        refine reg_run [.plain, .plain, .plain, .plain, .plain] 7 [(0, [], Value.slice b_.ptr b_.len b_.cap), (3, [], Value.slice l_.ptr l_.len l_.cap), (4, [], Value.int .i64 good), (5, [], Value.int .i64 e), (6, [], Value.slice c.ptr c.len c.cap), (7, [], Value.int .i64 f)] (by kernel_rfl) (by kernel_rfl) ?_
        refine reg_end [(0, Value.slice b_.ptr b_.len b_.cap), (3, Value.slice l_.ptr l_.len l_.cap), (4, Value.int .i64 good), (5, Value.int .i64 e), (6, Value.slice c.ptr c.len c.cap), (7, Value.int .i64 f)] (by kernel_rfl) (by kernel_rfl) ?_
        change WpE _ _ c_towpathlaw06_LogfileOne_19 _ _ _
        refine wpE_seq (x := c_towpathlaw06_LogfileOne_20) (y := c_towpathlaw06_LogfileOne_29) (by kernel_rfl) ?_
        refine wpE_seq_cut (x := c_towpathlaw06_LogfileOne_21) (y := c_towpathlaw06_LogfileOne_23) (by kernel_rfl) (fun l w => ∃ (t57 : Bool), l = [(3, Value.slice l_.ptr l_.len l_.cap), (57, Value.bool t57)] ∧ F_towpathlaw06_LogfileOne_k1 R l_ t57 w) ?_ ?_
        · refine wpE_region (id := 5) (ops := r_towpathlaw06_LogfileOne_21) (by kernel_rfl) ?_
          refine reg_run [.plain, .plain, .plain, .plain, .plain, .pick, .plain, .plain, .plain, .plain, .plain, .pick, .plain, .plain, .plain, .plain, .plain, .plain, .plain, .plain, .pick, .plain, .plain, .plain, .plain] 25 [(3, [], Value.slice l_.ptr l_.len l_.cap), (50, [], Value.bool ((((f != 0) || (decide (good < 0))) || (decide (good > ((b_.len : Nat) : Int)))) || (!((e == 0) == (good == ((b_.len : Nat) : Int)))))), (51, [(50, false)], Value.slice c.ptr c.len c.cap), (52, [(50, false)], Value.slice b_.ptr b_.len b_.cap), (53, [(50, false)], Value.int .i64 good)] (by kernel_rfl) (by kernel_rfl) ?_
          refine reg_split 50 ((((f != 0) || (decide (good < 0))) || (decide (good > ((b_.len : Nat) : Int)))) || (!((e == 0) == (good == ((b_.len : Nat) : Int))))) (by kernel_rfl) (fun hb => ?_) (fun hb => ?_)
          · replace h := h.1 hb
            refine reg_run [] 25 [(3, [], Value.slice l_.ptr l_.len l_.cap), (50, [], Value.bool true), (51, [], undef), (52, [], undef), (53, [], undef)] (by kernel_rfl) (by kernel_rfl) ?_
            refine reg_run [.skip, .skip, .skip, .plain] 29 [(3, [], Value.slice l_.ptr l_.len l_.cap), (57, [], Value.bool true)] (by kernel_rfl) (by kernel_rfl) ?_
            refine reg_end [(3, Value.slice l_.ptr l_.len l_.cap), (57, Value.bool true)] (by kernel_rfl) (by kernel_rfl) ?_
            exact ⟨[(3, Value.slice l_.ptr l_.len l_.cap), (57, Value.bool true)], Sub.mk (by kernel_rfl), true, rfl, h⟩
          · replace h := h.2 hb
            refine reg_run [] 25 [(3, [], Value.slice l_.ptr l_.len l_.cap), (50, [], Value.bool false), (51, [], Value.slice c.ptr c.len c.cap), (52, [], Value.slice b_.ptr b_.len b_.cap), (53, [], Value.int .i64 good)] (by kernel_rfl) (by kernel_rfl) ?_
            refine reg_run [] 25 [(3, [], Value.slice l_.ptr l_.len l_.cap), (50, [], Value.bool false), (51, [], Value.slice c.ptr c.len c.cap), (52, [], Value.slice b_.ptr b_.len b_.cap), (53, [], Value.int .i64 good)] (by kernel_rfl) (by kernel_rfl) ?_
            obtain ⟨h0, h1, h⟩ := h
            refine reg_sliceHi (t := 22) (e := 5) (x := (Go.Operand.tmp 52)) (hi := (Go.Operand.tmp 53)) (p := b_.ptr) (l := b_.len) (c := b_.cap) (sz := 1) (k := .i64) (j := good) (ty := 22) (dst := some 54) (by kernel_rfl) (by kernel_rfl) (by kernel_rfl) (by kernel_rfl) (by kernel_rfl) h0 h1 ?_
            refine reg_run [] 26 [(3, [], Value.slice l_.ptr l_.len l_.cap), (50, [], Value.bool false), (51, [], Value.slice c.ptr c.len c.cap), (54, [], Value.slice b_.ptr good.toNat b_.cap)] (by kernel_rfl) (by kernel_rfl) ?_
            refine reg_enter (op := (Go.Op.call (Go.Call.mk (Go.Callee.value (Go.Operand.func 14)) #[(Go.Operand.tmp 51), (Go.Operand.tmp 54)] #[22, 22]))) (ty := 4) (dst := some 55) 14 #[Value.slice c.ptr c.len c.cap, Value.slice b_.ptr good.toNat b_.cap] (by kernel_rfl) (fun ww => by kernel_rfl) (Calls.mono h ?_)
            rintro _ w9 ⟨v55, rfl, h⟩
            refine ⟨_, rfl, ?_⟩
            refine reg_run [.sure, .plain] 29 [(3, [], Value.slice l_.ptr l_.len l_.cap), (57, [], Value.bool (!v55))] (by kernel_rfl) (by kernel_rfl) ?_
            refine reg_end [(3, Value.slice l_.ptr l_.len l_.cap), (57, Value.bool (!v55))] (by kernel_rfl) (by kernel_rfl) ?_
            exact ⟨[(3, Value.slice l_.ptr l_.len l_.cap), (57, Value.bool (!v55))], Sub.mk (by kernel_rfl), (!v55), rfl, h⟩
        · rintro _ w5 ⟨t57, rfl, h⟩
          unfold F_towpathlaw06_LogfileOne_k1 at h
          refine wpE_cond (o := (Operand.tmp 57)) (b := t57) (x := c_towpathlaw06_LogfileOne_24) (y := c_towpathlaw06_LogfileOne_28) (by kernel_rfl) (by kernel_rfl) (fun hb => ?_) (fun hb => ?_)
          · replace h := h.1 hb
            refine wpE_seq (x := c_towpathlaw06_LogfileOne_25) (y := c_towpathlaw06_LogfileOne_27) (by kernel_rfl) ?_
            refine wpE_region (id := 6) (ops := r_towpathlaw06_LogfileOne_25) (by kernel_rfl) ?_
            refine reg_run [.plain] 1 [(2, [], Value.bool false)] (by kernel_rfl) (by kernel_rfl) ?_
            refine reg_end [(2, Value.bool false)] (by kernel_rfl) (by kernel_rfl) ?_
            change WpE _ _ c_towpathlaw06_LogfileOne_27 _ _ _
            refine wpE_ret (by kernel_rfl) ?_
            repeat (first | refine seqQ_ret ?_ | refine blockQ_ret ?_ | refine loopQ_ret ?_ | refine cutQ_ret ?_)
            exact retS (rs := [(Go.ResultVar.tmp 2)]) (v := Value.bool false) (by kernel_rfl) (⟨by kernel_rfl, trivial⟩) ⟨false, rfl, h⟩
          · replace h := h.2 hb
            refine wpE_skip (by kernel_rfl) ?_
            change WpE _ _ c_towpathlaw06_LogfileOne_29 _ _ _
            refine wpE_seq (x := c_towpathlaw06_LogfileOne_30) (y := c_towpathlaw06_LogfileOne_55) (by kernel_rfl) ?_
            refine wpE_seq (x := c_towpathlaw06_LogfileOne_31) (y := c_towpathlaw06_LogfileOne_33) (by kernel_rfl) ?_
            refine wpE_region (id := 7) (ops := r_towpathlaw06_LogfileOne_31) (by kernel_rfl) ?_
            refine reg_run [.plain] 1 [(3, [], Value.slice l_.ptr l_.len l_.cap), (8, [], Value.int .i64 0)] (by kernel_rfl) (by kernel_rfl) ?_
            refine reg_end [(3, Value.slice l_.ptr l_.len l_.cap), (8, Value.int .i64 0)] (by kernel_rfl) (by kernel_rfl) ?_
            change WpE _ _ c_towpathlaw06_LogfileOne_33 _ _ _
            refine wpE_block (id := 0) (x := c_towpathlaw06_LogfileOne_34) (by kernel_rfl) ?_
            obtain ⟨I, μ, h0, hr⟩ := h
            refine wpE_loop (x := c_towpathlaw06_LogfileOne_35) (by kernel_rfl) (fun m l w => ∃ (i : Int), l = [(3, Value.slice l_.ptr l_.len l_.cap), (8, Value.int .i64 i)] ∧ I i w ∧ μ i w = m) (l' := [(3, Value.slice l_.ptr l_.len l_.cap), (8, Value.int .i64 0)]) (Sub.mk (by kernel_rfl)) ⟨0, rfl, h0, rfl⟩ ?_
            rintro _ _ w6 ⟨i, rfl, hI, rfl⟩
            obtain ⟨again_, again__h, h⟩ : ∃ again_ : Int → World → Prop, (∀ i' w', again_ i' w' → I i' w' ∧ μ i' w' < μ i w6) ∧ F_towpathlaw06_LogfileOne_L2 R l_ again_ i w6 := ⟨_, fun _ _ h => h, hr i w6 hI⟩
            clear h0 hI
            unfold F_towpathlaw06_LogfileOne_L2 at h
            refine wpE_seq (x := c_towpathlaw06_LogfileOne_36) (y := c_towpathlaw06_LogfileOne_42) (by kernel_rfl) ?_
            refine wpE_seq (x := c_towpathlaw06_LogfileOne_37) (y := c_towpathlaw06_LogfileOne_39) (by kernel_rfl) ?_
            refine wpE_region (id := 8) (ops := r_towpathlaw06_LogfileOne_37) (by kernel_rfl) ?_
            refine reg_run [.plain, .plain, .plain, .plain] 4 [(3, [], Value.slice l_.ptr l_.len l_.cap), (8, [], Value.int .i64 i), (61, [], Value.bool (decide (i < ((l_.len : Nat) : Int))))] (by kernel_rfl) (by kernel_rfl) ?_
            refine reg_end [(3, Value.slice l_.ptr l_.len l_.cap), (8, Value.int .i64 i), (61, Value.bool (decide (i < ((l_.len : Nat) : Int))))] (by kernel_rfl) (by kernel_rfl) ?_
            change WpE _ _ c_towpathlaw06_LogfileOne_39 _ _ _
            refine wpE_cond (o := (Operand.tmp 61)) (b := (decide (i < ((l_.len : Nat) : Int)))) (x := c_towpathlaw06_LogfileOne_40) (y := c_towpathlaw06_LogfileOne_41) (by kernel_rfl) (by kernel_rfl) (fun hb => ?_) (fun hb => ?_)
            · replace h := h.1 hb
              refine wpE_skip (by kernel_rfl) ?_
              change WpE _ _ c_towpathlaw06_LogfileOne_42 _ _ _
              refine wpE_seq (x := c_towpathlaw06_LogfileOne_43) (y := c_towpathlaw06_LogfileOne_53) (by kernel_rfl) ?_
              refine wpE_block (id := 1) (x := c_towpathlaw06_LogfileOne_44) (by kernel_rfl) ?_
              refine wpE_seq_cut (x := c_towpathlaw06_LogfileOne_45) (y := c_towpathlaw06_LogfileOne_47) (by kernel_rfl) (fun l w => ∃ (t79 : Bool), l = [(3, Value.slice l_.ptr l_.len l_.cap), (8, Value.int .i64 i), (79, Value.bool t79)] ∧ F_towpathlaw06_LogfileOne_k3 R i again_ t79 w) ?_ ?_
              · refine wpE_region (id := 10) (ops := r_towpathlaw06_LogfileOne_45) (by kernel_rfl) ?_
                refine reg_run [.plain, .plain] 2 [(3, [], Value.slice l_.ptr l_.len l_.cap), (8, [], Value.int .i64 i), (64, [], Value.slice l_.ptr l_.len l_.cap), (65, [], Value.int .i64 i)] (by kernel_rfl) (by kernel_rfl) ?_
                obtain ⟨hp_14, h⟩ := h
                refine reg_conv [(3, [], Value.slice l_.ptr l_.len l_.cap), (8, [], Value.int .i64 i), (64, [], Value.slice (some ⟨(pblk l_.ptr), (poff l_.ptr), none⟩) l_.len l_.cap), (65, [], Value.int .i64 i)] (congrArg (fun pp => ([(3, [], Value.slice l_.ptr l_.len l_.cap), (8, [], Value.int .i64 i), (64, [], Value.slice pp l_.len l_.cap), (65, [], Value.int .i64 i)] : GEnv)) hp_14) ?_
                obtain ⟨h0, h1, h⟩ := h
                refine reg_indexS (t := 37) (e := 49) (x := (Go.Operand.tmp 64)) (ix := (Go.Operand.tmp 65)) (b := (pblk l_.ptr)) (o := (poff l_.ptr)) (l := l_.len) (c := l_.cap) (k := .i64) (j := i) (ty := 0) (dst := some 66) (sz := 2) (by kernel_rfl) (by kernel_rfl) (by kernel_rfl) (by kernel_rfl) (by kernel_rfl) h0 h1 ?_
                refine reg_run [.plain] 4 [(3, [], Value.slice l_.ptr l_.len l_.cap), (8, [], Value.int .i64 i), (67, [], Value.pointer (some ⟨(pblk l_.ptr), (poff l_.ptr) + i.toNat * 2, none⟩))] (by kernel_rfl) (by kernel_rfl) ?_
                obtain ⟨v68, hc, h⟩ := h
                refine reg_load1 (t := 3) (a := (Go.Operand.tmp 67)) (b := (pblk l_.ptr)) (o := ((poff l_.ptr) + i.toNat * 2)) (ty := 3) (dst := some 68) (by kernel_rfl) (by kernel_rfl) (by kernel_rfl) hc ?_
                refine reg_run [.plain, .plain, .plain, .plain, .plain, .plain] 11 [(3, [], Value.slice l_.ptr l_.len l_.cap), (8, [], Value.int .i64 i), (72, [], Value.bool (v68 != (IntKind.i64.wrap (i + 1)))), (73, [(72, false)], Value.slice l_.ptr l_.len l_.cap), (74, [(72, false)], Value.int .i64 i)] (by kernel_rfl) (by kernel_rfl) ?_
                refine reg_split 72 (v68 != (IntKind.i64.wrap (i + 1))) (by kernel_rfl) (fun hb => ?_) (fun hb => ?_)
                · replace h := h.1 hb
                  refine reg_run [] 11 [(3, [], Value.slice l_.ptr l_.len l_.cap), (8, [], Value.int .i64 i), (72, [], Value.bool true), (73, [], undef), (74, [], undef)] (by kernel_rfl) (by kernel_rfl) ?_
                  refine reg_run [.skip, .skip, .skip, .skip, .plain] 16 [(3, [], Value.slice l_.ptr l_.len l_.cap), (8, [], Value.int .i64 i), (79, [], Value.bool true)] (by kernel_rfl) (by kernel_rfl) ?_
                  refine reg_end [(3, Value.slice l_.ptr l_.len l_.cap), (8, Value.int .i64 i), (79, Value.bool true)] (by kernel_rfl) (by kernel_rfl) ?_
                  exact ⟨[(3, Value.slice l_.ptr l_.len l_.cap), (8, Value.int .i64 i), (79, Value.bool true)], Sub.mk (by kernel_rfl), true, rfl, h⟩
                · replace h := h.2 hb
                  refine reg_run [] 11 [(3, [], Value.slice l_.ptr l_.len l_.cap), (8, [], Value.int .i64 i), (72, [], Value.bool false), (73, [], Value.slice l_.ptr l_.len l_.cap), (74, [], Value.int .i64 i)] (by kernel_rfl) (by kernel_rfl) ?_
                  refine reg_run [] 11 [(3, [], Value.slice l_.ptr l_.len l_.cap), (8, [], Value.int .i64 i), (72, [], Value.bool false), (73, [], Value.slice l_.ptr l_.len l_.cap), (74, [], Value.int .i64 i)] (by kernel_rfl) (by kernel_rfl) ?_
                  obtain ⟨hp_15, h⟩ := h
                  refine reg_conv [(3, [], Value.slice l_.ptr l_.len l_.cap), (8, [], Value.int .i64 i), (72, [], Value.bool false), (73, [], Value.slice (some ⟨(pblk l_.ptr), (poff l_.ptr), none⟩) l_.len l_.cap), (74, [], Value.int .i64 i)] (congrArg (fun pp => ([(3, [], Value.slice l_.ptr l_.len l_.cap), (8, [], Value.int .i64 i), (72, [], Value.bool false), (73, [], Value.slice pp l_.len l_.cap), (74, [], Value.int .i64 i)] : GEnv)) hp_15) ?_
                  obtain ⟨h0, h1, h⟩ := h
                  refine reg_indexS (t := 37) (e := 49) (x := (Go.Operand.tmp 73)) (ix := (Go.Operand.tmp 74)) (b := (pblk l_.ptr)) (o := (poff l_.ptr)) (l := l_.len) (c := l_.cap) (k := .i64) (j := i) (ty := 0) (dst := some 75) (sz := 2) (by kernel_rfl) (by kernel_rfl) (by kernel_rfl) (by kernel_rfl) (by kernel_rfl) h0 h1 ?_
                  refine reg_run [] 12 [(3, [], Value.slice l_.ptr l_.len l_.cap), (8, [], Value.int .i64 i), (72, [], Value.bool false), (75, [], Value.pointer (some ⟨(pblk l_.ptr), (poff l_.ptr) + i.toNat * 2, none⟩))] (by kernel_rfl) (by kernel_rfl) ?_
                  obtain ⟨v76, hc, h⟩ := h
                  refine reg_loadN (t := 49) (a := (Go.Operand.tmp 75)) (b := (pblk l_.ptr)) (o := ((poff l_.ptr) + i.toNat * 2)) (ty := 49) (dst := some 76) [Value.int .i64 v76.Number, Value.slice v76.Writes.ptr v76.Writes.len v76.Writes.cap] (by kernel_rfl) (by kernel_rfl) (by kernel_rfl) (k := 2) (by kernel_rfl) (by kernel_rfl) hc ?_
                  refine reg_run [] 13 [(3, [], Value.slice l_.ptr l_.len l_.cap), (8, [], Value.int .i64 i), (72, [], Value.bool false), (76, [], Value.agg #[Value.int .i64 v76.Number, Value.slice v76.Writes.ptr v76.Writes.len v76.Writes.cap])] (by kernel_rfl) (by kernel_rfl) ?_
                  refine reg_enter (op := (Go.Op.call (Go.Call.mk (Go.Callee.value (Go.Operand.func 22)) #[(Go.Operand.tmp 76)] #[49]))) (ty := 29) (dst := some 77) 22 #[Value.agg #[Value.int .i64 v76.Number, Value.slice v76.Writes.ptr v76.Writes.len v76.Writes.cap]] (by kernel_rfl) (fun ww => by kernel_rfl) (Calls.mono h ?_)
                  rintro _ w8 ⟨v77, rfl, h⟩
                  refine ⟨_, rfl, ?_⟩
                  refine reg_run [.sure, .plain] 16 [(3, [], Value.slice l_.ptr l_.len l_.cap), (8, [], Value.int .i64 i), (79, [], Value.bool (v77 != 0))] (by kernel_rfl) (by kernel_rfl) ?_
                  refine reg_end [(3, Value.slice l_.ptr l_.len l_.cap), (8, Value.int .i64 i), (79, Value.bool (v77 != 0))] (by kernel_rfl) (by kernel_rfl) ?_
                  exact ⟨[(3, Value.slice l_.ptr l_.len l_.cap), (8, Value.int .i64 i), (79, Value.bool (v77 != 0))], Sub.mk (by kernel_rfl), (v77 != 0), rfl, h⟩
              · rintro _ w7 ⟨t79, rfl, h⟩
                unfold F_towpathlaw06_LogfileOne_k3 at h
                refine wpE_cond (o := (Operand.tmp 79)) (b := t79) (x := c_towpathlaw06_LogfileOne_48) (y := c_towpathlaw06_LogfileOne_52) (by kernel_rfl) (by kernel_rfl) (fun hb => ?_) (fun hb => ?_)
                · replace h := h.1 hb
                  refine wpE_seq (x := c_towpathlaw06_LogfileOne_49) (y := c_towpathlaw06_LogfileOne_51) (by kernel_rfl) ?_
                  refine wpE_region (id := 11) (ops := r_towpathlaw06_LogfileOne_49) (by kernel_rfl) ?_
                  refine reg_run [.plain] 1 [(2, [], Value.bool false)] (by kernel_rfl) (by kernel_rfl) ?_
                  refine reg_end [(2, Value.bool false)] (by kernel_rfl) (by kernel_rfl) ?_
                  change WpE _ _ c_towpathlaw06_LogfileOne_51 _ _ _
                  refine wpE_ret (by kernel_rfl) ?_
                  repeat (first | refine seqQ_ret ?_ | refine blockQ_ret ?_ | refine loopQ_ret ?_ | refine cutQ_ret ?_)
                  exact retS (rs := [(Go.ResultVar.tmp 2)]) (v := Value.bool false) (by kernel_rfl) (⟨by kernel_rfl, trivial⟩) ⟨false, rfl, h⟩
                · replace h := h.2 hb
                  refine wpE_skip (by kernel_rfl) ?_
                  change WpE _ _ c_towpathlaw06_LogfileOne_53 _ _ _
                  refine wpE_region (id := 9) (ops := r_towpathlaw06_LogfileOne_53) (by kernel_rfl) ?_
                  refine reg_run [.plain, .plain, .plain] 3 [(3, [], Value.slice l_.ptr l_.len l_.cap), (8, [], Value.int .i64 (IntKind.i64.wrap (i + 1)))] (by kernel_rfl) (by kernel_rfl) ?_
                  refine reg_end [(3, Value.slice l_.ptr l_.len l_.cap), (8, Value.int .i64 (IntKind.i64.wrap (i + 1)))] (by kernel_rfl) (by kernel_rfl) ?_
                  have hb_ := again__h _ _ h
                  exact ⟨_, hb_.2, [(3, Value.slice l_.ptr l_.len l_.cap), (8, Value.int .i64 (IntKind.i64.wrap (i + 1)))], Sub.mk (by kernel_rfl), (IntKind.i64.wrap (i + 1)), rfl, hb_.1, rfl⟩
            · replace h := h.2 hb
              refine wpE_exit (id := 0) (by kernel_rfl) ?_
              change WpE _ _ c_towpathlaw06_LogfileOne_55 _ _ _
              refine wpE_seq (x := c_towpathlaw06_LogfileOne_56) (y := c_towpathlaw06_LogfileOne_58) (by kernel_rfl) ?_
              refine wpE_region (id := 12) (ops := r_towpathlaw06_LogfileOne_56) (by kernel_rfl) ?_
              refine reg_run [.plain] 1 [(2, [], Value.bool true)] (by kernel_rfl) (by kernel_rfl) ?_
              refine reg_end [(2, Value.bool true)] (by kernel_rfl) (by kernel_rfl) ?_
              change WpE _ _ c_towpathlaw06_LogfileOne_58 _ _ _
              refine wpE_ret (by kernel_rfl) ?_
              repeat (first | refine seqQ_ret ?_ | refine blockQ_ret ?_ | refine loopQ_ret ?_ | refine cutQ_ret ?_)
              exact retS (rs := [(Go.ResultVar.tmp 2)]) (v := Value.bool true) (by kernel_rfl) (⟨by kernel_rfl, trivial⟩) ⟨true, rfl, h⟩
  · rintro e w' ⟨v, rfl, r0, rfl, h⟩; exact ⟨r0, rfl, h⟩
end Go.Proofs.Ytpdegdnigcnjiaa
