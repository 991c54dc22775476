/- WRITTEN BY PROGRAM (dec.py): for each Go function the clean formula F, the call's contract C, and the proof S that F gives C. -/
import Derived.Test.YtmcpljflohlnaaaRows
import Derived.Test.YtmcpljflohlnaaaGF
namespace Go.Proofs.Ytmcpljflohlnaaa
open Go
set_option linter.unusedVariables false

/-! ### towpath/towpathlaw03.SumBursts (function 10) -/
noncomputable def c_towpathlaw03_SumBursts_0 : Code := (Try.f10.body).getD Code.skip
noncomputable def c_towpathlaw03_SumBursts_1 : Code := Code.l c_towpathlaw03_SumBursts_0
noncomputable def r_towpathlaw03_SumBursts_1 : Array Oper := Code.ops c_towpathlaw03_SumBursts_1
noncomputable def c_towpathlaw03_SumBursts_3 : Code := Code.r c_towpathlaw03_SumBursts_0
noncomputable def c_towpathlaw03_SumBursts_4 : Code := Code.l c_towpathlaw03_SumBursts_3
noncomputable def c_towpathlaw03_SumBursts_5 : Code := Code.l c_towpathlaw03_SumBursts_4
noncomputable def r_towpathlaw03_SumBursts_5 : Array Oper := Code.ops c_towpathlaw03_SumBursts_5
noncomputable def c_towpathlaw03_SumBursts_7 : Code := Code.r c_towpathlaw03_SumBursts_4
noncomputable def c_towpathlaw03_SumBursts_8 : Code := Code.l c_towpathlaw03_SumBursts_7
noncomputable def c_towpathlaw03_SumBursts_9 : Code := Code.l c_towpathlaw03_SumBursts_8
noncomputable def r_towpathlaw03_SumBursts_9 : Array Oper := Code.ops c_towpathlaw03_SumBursts_9
noncomputable def c_towpathlaw03_SumBursts_11 : Code := Code.r c_towpathlaw03_SumBursts_8
noncomputable def c_towpathlaw03_SumBursts_12 : Code := Code.r c_towpathlaw03_SumBursts_7
noncomputable def c_towpathlaw03_SumBursts_13 : Code := Code.r c_towpathlaw03_SumBursts_3
noncomputable def c_towpathlaw03_SumBursts_14 : Code := Code.l c_towpathlaw03_SumBursts_13
noncomputable def r_towpathlaw03_SumBursts_14 : Array Oper := Code.ops c_towpathlaw03_SumBursts_14
noncomputable def c_towpathlaw03_SumBursts_16 : Code := Code.r c_towpathlaw03_SumBursts_13
noncomputable def c_towpathlaw03_SumBursts_17 : Code := Code.l c_towpathlaw03_SumBursts_16
noncomputable def r_towpathlaw03_SumBursts_17 : Array Oper := Code.ops c_towpathlaw03_SumBursts_17
noncomputable def c_towpathlaw03_SumBursts_19 : Code := Code.r c_towpathlaw03_SumBursts_16
noncomputable def c_towpathlaw03_SumBursts_20 : Code := Code.l c_towpathlaw03_SumBursts_19
noncomputable def r_towpathlaw03_SumBursts_20 : Array Oper := Code.ops c_towpathlaw03_SumBursts_20
noncomputable def c_towpathlaw03_SumBursts_22 : Code := Code.r c_towpathlaw03_SumBursts_19
noncomputable def c_towpathlaw03_SumBursts_23 : Code := Code.l c_towpathlaw03_SumBursts_22
noncomputable def r_towpathlaw03_SumBursts_23 : Array Oper := Code.ops c_towpathlaw03_SumBursts_23
noncomputable def c_towpathlaw03_SumBursts_25 : Code := Code.r c_towpathlaw03_SumBursts_22
noncomputable def c_towpathlaw03_SumBursts_26 : Code := Code.l c_towpathlaw03_SumBursts_25
noncomputable def c_towpathlaw03_SumBursts_27 : Code := Code.l c_towpathlaw03_SumBursts_26
noncomputable def r_towpathlaw03_SumBursts_27 : Array Oper := Code.ops c_towpathlaw03_SumBursts_27
noncomputable def c_towpathlaw03_SumBursts_29 : Code := Code.r c_towpathlaw03_SumBursts_26
noncomputable def c_towpathlaw03_SumBursts_30 : Code := Code.l c_towpathlaw03_SumBursts_29
noncomputable def c_towpathlaw03_SumBursts_31 : Code := Code.l c_towpathlaw03_SumBursts_30
noncomputable def c_towpathlaw03_SumBursts_32 : Code := Code.l c_towpathlaw03_SumBursts_31
noncomputable def c_towpathlaw03_SumBursts_33 : Code := Code.l c_towpathlaw03_SumBursts_32
noncomputable def r_towpathlaw03_SumBursts_33 : Array Oper := Code.ops c_towpathlaw03_SumBursts_33
noncomputable def c_towpathlaw03_SumBursts_35 : Code := Code.r c_towpathlaw03_SumBursts_32
noncomputable def c_towpathlaw03_SumBursts_36 : Code := Code.l c_towpathlaw03_SumBursts_35
noncomputable def c_towpathlaw03_SumBursts_37 : Code := Code.r c_towpathlaw03_SumBursts_35
noncomputable def c_towpathlaw03_SumBursts_38 : Code := Code.r c_towpathlaw03_SumBursts_31
noncomputable def c_towpathlaw03_SumBursts_39 : Code := Code.l c_towpathlaw03_SumBursts_38
noncomputable def c_towpathlaw03_SumBursts_40 : Code := Code.l c_towpathlaw03_SumBursts_39
noncomputable def c_towpathlaw03_SumBursts_41 : Code := Code.l c_towpathlaw03_SumBursts_40
noncomputable def r_towpathlaw03_SumBursts_41 : Array Oper := Code.ops c_towpathlaw03_SumBursts_41
noncomputable def c_towpathlaw03_SumBursts_43 : Code := Code.r c_towpathlaw03_SumBursts_40
noncomputable def c_towpathlaw03_SumBursts_44 : Code := Code.l c_towpathlaw03_SumBursts_43
noncomputable def r_towpathlaw03_SumBursts_44 : Array Oper := Code.ops c_towpathlaw03_SumBursts_44
noncomputable def c_towpathlaw03_SumBursts_46 : Code := Code.r c_towpathlaw03_SumBursts_43
noncomputable def c_towpathlaw03_SumBursts_47 : Code := Code.l c_towpathlaw03_SumBursts_46
noncomputable def c_towpathlaw03_SumBursts_48 : Code := Code.l c_towpathlaw03_SumBursts_47
noncomputable def r_towpathlaw03_SumBursts_48 : Array Oper := Code.ops c_towpathlaw03_SumBursts_48
noncomputable def c_towpathlaw03_SumBursts_50 : Code := Code.r c_towpathlaw03_SumBursts_47
noncomputable def r_towpathlaw03_SumBursts_50 : Array Oper := Code.ops c_towpathlaw03_SumBursts_50
noncomputable def c_towpathlaw03_SumBursts_52 : Code := Code.r c_towpathlaw03_SumBursts_46
noncomputable def c_towpathlaw03_SumBursts_53 : Code := Code.r c_towpathlaw03_SumBursts_38
noncomputable def r_towpathlaw03_SumBursts_53 : Array Oper := Code.ops c_towpathlaw03_SumBursts_53
noncomputable def c_towpathlaw03_SumBursts_55 : Code := Code.r c_towpathlaw03_SumBursts_25
noncomputable def c_towpathlaw03_SumBursts_56 : Code := Code.l c_towpathlaw03_SumBursts_55
noncomputable def r_towpathlaw03_SumBursts_56 : Array Oper := Code.ops c_towpathlaw03_SumBursts_56
noncomputable def c_towpathlaw03_SumBursts_58 : Code := Code.r c_towpathlaw03_SumBursts_55

set_option maxRecDepth 100000 in
set_option maxHeartbeats 4000000 in
theorem S_towpathlaw03_SumBursts {b_ : Slc} {at_ : Int} {turned : Int} {w : World} {R : Bool → World → Prop} (h : F_towpathlaw03_SumBursts b_ at_ turned R w) : C_towpathlaw03_SumBursts b_ at_ turned w R := by
  unfold F_towpathlaw03_SumBursts at h
  unfold C_towpathlaw03_SumBursts
  refine Calls.mono (calls_of_wpE (args := [Value.slice b_.ptr b_.len b_.cap, Value.int .u32 at_, Value.int .u32 turned]) (R := fun v w' => ∃ (r0 : Bool), v = Value.bool r0 ∧ R r0 w') Try.func10 (c := c_towpathlaw03_SumBursts_0) (by kernel_rfl) 78 (by kernel_rfl) (by kernel_rfl) [(0, Value.slice b_.ptr b_.len b_.cap), (1, Value.int .u32 at_), (2, Value.int .u32 turned)] (by kernel_rfl) ?_) ?_
  · refine wpE_seq (x := c_towpathlaw03_SumBursts_1) (y := c_towpathlaw03_SumBursts_3) (by kernel_rfl) ?_
    refine wpE_region (id := 0) (ops := r_towpathlaw03_SumBursts_1) (by kernel_rfl) ?_
    refine reg_run [.plain] 1 [(0, [], Value.slice b_.ptr b_.len b_.cap), (1, [], Value.int .u32 at_), (2, [], Value.int .u32 turned)] (by kernel_rfl) (by kernel_rfl) ?_
    refine reg_end [(0, Value.slice b_.ptr b_.len b_.cap), (1, Value.int .u32 at_), (2, Value.int .u32 turned)] (by kernel_rfl) (by kernel_rfl) ?_
    change WpE _ _ c_towpathlaw03_SumBursts_3 _ _ _
    refine wpE_seq (x := c_towpathlaw03_SumBursts_4) (y := c_towpathlaw03_SumBursts_13) (by kernel_rfl) ?_
    refine wpE_seq_cut (x := c_towpathlaw03_SumBursts_5) (y := c_towpathlaw03_SumBursts_7) (by kernel_rfl) (fun l w => ∃ (t28 : Bool), l = [(0, Value.slice b_.ptr b_.len b_.cap), (1, Value.int .u32 at_), (2, Value.int .u32 turned), (28, Value.bool t28)] ∧ F_towpathlaw03_SumBursts_k0 b_ at_ turned R t28 w) ?_ ?_
    · refine wpE_region (id := 1) (ops := r_towpathlaw03_SumBursts_5) (by kernel_rfl) ?_
      refine reg_run [] 0 [(0, [], Value.slice b_.ptr b_.len b_.cap), (1, [], Value.int .u32 at_), (2, [], Value.int .u32 turned)] (by kernel_rfl) (by kernel_rfl) ?_
      refine reg_enter (op := (Go.Op.call (Go.Call.mk (Go.Callee.value (Go.Operand.func 56)) #[] #[]))) (ty := 4) (dst := some 12) 56 #[] (by kernel_rfl) (fun ww => by kernel_rfl) (Calls.mono h ?_)
      rintro _ w10 ⟨v12, rfl, h⟩
      refine ⟨_, rfl, ?_⟩
      refine reg_run [.plain, .plain, .plain, .plain] 5 [(0, [], Value.slice b_.ptr b_.len b_.cap), (1, [], Value.int .u32 at_), (2, [], Value.int .u32 turned), (14, [], Value.bool (!v12)), (16, [(14, false)], Value.int .i64 ((b_.len : Nat) : Int))] (by kernel_rfl) (by kernel_rfl) ?_
      refine reg_split 14 (!v12) (by kernel_rfl) (fun hb => ?_) (fun hb => ?_)
      · replace h := h.1 hb
        refine reg_run [] 5 [(0, [], Value.slice b_.ptr b_.len b_.cap), (1, [], Value.int .u32 at_), (2, [], Value.int .u32 turned), (14, [], Value.bool true), (16, [], undef)] (by kernel_rfl) (by kernel_rfl) ?_
        refine reg_run [.skip, .skip, .plain, .plain, .skip, .skip, .skip, .plain, .plain, .skip, .skip, .plain] 17 [(0, [], Value.slice b_.ptr b_.len b_.cap), (1, [], Value.int .u32 at_), (2, [], Value.int .u32 turned), (28, [], Value.bool true)] (by kernel_rfl) (by kernel_rfl) ?_
        refine reg_end [(0, Value.slice b_.ptr b_.len b_.cap), (1, Value.int .u32 at_), (2, Value.int .u32 turned), (28, Value.bool true)] (by kernel_rfl) (by kernel_rfl) ?_
        exact ⟨[(0, Value.slice b_.ptr b_.len b_.cap), (1, Value.int .u32 at_), (2, Value.int .u32 turned), (28, Value.bool true)], Sub.mk (by kernel_rfl), true, rfl, h⟩
      · replace h := h.2 hb
        refine reg_run [] 5 [(0, [], Value.slice b_.ptr b_.len b_.cap), (1, [], Value.int .u32 at_), (2, [], Value.int .u32 turned), (14, [], Value.bool false), (16, [], Value.int .i64 ((b_.len : Nat) : Int))] (by kernel_rfl) (by kernel_rfl) ?_
        refine reg_run [] 5 [(0, [], Value.slice b_.ptr b_.len b_.cap), (1, [], Value.int .u32 at_), (2, [], Value.int .u32 turned), (14, [], Value.bool false), (16, [], Value.int .i64 ((b_.len : Nat) : Int))] (by kernel_rfl) (by kernel_rfl) ?_
        refine reg_new (op := (Go.Op.buildSlice 88 1 #[(0, (Go.Operand.tmp 16))])) (ty := 88) (dst := some 17) (fun bb => Value.slice (some ⟨bb, 0, none⟩) 1 1) (Obj.cells ([Value.int .i64 ((b_.len : Nat) : Int)]).toArray ty_int (0, 0)) (by kernel_rfl) (by kernel_rfl) (fun b_1 w11 hb hw => ?_)
        replace h := h b_1 w11 hb hw
        clear hb hw
        refine reg_run [] 6 [(0, [], Value.slice b_.ptr b_.len b_.cap), (1, [], Value.int .u32 at_), (2, [], Value.int .u32 turned), (14, [], Value.bool false), (17, [], Value.slice (some ⟨b_1, 0, none⟩) 1 1)] (by kernel_rfl) (by kernel_rfl) ?_
        refine reg_enter (op := (Go.Op.call (Go.Call.mk (Go.Callee.value (Go.Operand.func 37)) #[(Go.Operand.tmp 17)] #[88]))) (ty := 4) (dst := some 18) 37 #[Value.slice (some ⟨b_1, 0, none⟩) 1 1] (by kernel_rfl) (fun ww => by kernel_rfl) (Calls.mono h ?_)
        rintro _ w12 ⟨v18, rfl, h⟩
        refine ⟨_, rfl, ?_⟩
        refine reg_run [.plain, .plain, .plain, .plain, .plain, .pick, .plain, .plain, .plain, .pick] 17 [(0, [], Value.slice b_.ptr b_.len b_.cap), (1, [], Value.int .u32 at_), (2, [], Value.int .u32 turned), (28, [], Value.bool ((v18 || (((b_.len : Nat) : Int) == 0)) || (turned == 0)))] (by kernel_rfl) (by kernel_rfl) ?_
        refine reg_end [(0, Value.slice b_.ptr b_.len b_.cap), (1, Value.int .u32 at_), (2, Value.int .u32 turned), (28, Value.bool ((v18 || (((b_.len : Nat) : Int) == 0)) || (turned == 0)))] (by kernel_rfl) (by kernel_rfl) ?_
        exact ⟨[(0, Value.slice b_.ptr b_.len b_.cap), (1, Value.int .u32 at_), (2, Value.int .u32 turned), (28, Value.bool ((v18 || (((b_.len : Nat) : Int) == 0)) || (turned == 0)))], Sub.mk (by kernel_rfl), ((v18 || (((b_.len : Nat) : Int) == 0)) || (turned == 0)), rfl, h⟩
    · rintro _ w1 ⟨t28, rfl, h⟩
      unfold F_towpathlaw03_SumBursts_k0 at h
      refine wpE_cond (o := (Operand.tmp 28)) (b := t28) (x := c_towpathlaw03_SumBursts_8) (y := c_towpathlaw03_SumBursts_12) (by kernel_rfl) (by kernel_rfl) (fun hb => ?_) (fun hb => ?_)
      · replace h := h.1 hb
        refine wpE_seq (x := c_towpathlaw03_SumBursts_9) (y := c_towpathlaw03_SumBursts_11) (by kernel_rfl) ?_
        refine wpE_region (id := 2) (ops := r_towpathlaw03_SumBursts_9) (by kernel_rfl) ?_
        refine reg_run [] 0 [] (by kernel_rfl) (by kernel_rfl) ?_
        refine reg_enter (op := (Go.Op.call (Go.Call.mk (Go.Callee.value (Go.Operand.func 56)) #[] #[]))) (ty := 4) (dst := some 29) 56 #[] (by kernel_rfl) (fun ww => by kernel_rfl) (Calls.mono h ?_)
        rintro _ w2 ⟨v29, rfl, h⟩
        refine ⟨_, rfl, ?_⟩
        refine reg_run [.plain] 2 [(6, [], Value.bool v29)] (by kernel_rfl) (by kernel_rfl) ?_
        refine reg_end [(6, Value.bool v29)] (by kernel_rfl) (by kernel_rfl) ?_
        change WpE _ _ c_towpathlaw03_SumBursts_11 _ _ _
        refine wpE_ret (by kernel_rfl) ?_
        repeat (first | refine seqQ_ret ?_ | refine blockQ_ret ?_ | refine loopQ_ret ?_ | refine cutQ_ret ?_)
        exact retS (rs := [(Go.ResultVar.tmp 6)]) (v := Value.bool v29) (by kernel_rfl) (⟨by kernel_rfl, trivial⟩) ⟨v29, rfl, h⟩
      · replace h := h.2 hb
        refine wpE_skip (by kernel_rfl) ?_
        change WpE _ _ c_towpathlaw03_SumBursts_13 _ _ _
        refine wpE_seq (x := c_towpathlaw03_SumBursts_14) (y := c_towpathlaw03_SumBursts_16) (by kernel_rfl) ?_
        refine wpE_region (id := 3) (ops := r_towpathlaw03_SumBursts_14) (by kernel_rfl) ?_
        refine reg_run [.plain] 1 [(0, [], Value.slice b_.ptr b_.len b_.cap), (1, [], Value.int .u32 at_), (2, [], Value.int .u32 turned), (7, [], Value.slice none 0 0)] (by kernel_rfl) (by kernel_rfl) ?_
        refine reg_end [(0, Value.slice b_.ptr b_.len b_.cap), (1, Value.int .u32 at_), (2, Value.int .u32 turned), (7, Value.slice none 0 0)] (by kernel_rfl) (by kernel_rfl) ?_
        change WpE _ _ c_towpathlaw03_SumBursts_16 _ _ _
        refine wpE_seq (x := c_towpathlaw03_SumBursts_17) (y := c_towpathlaw03_SumBursts_19) (by kernel_rfl) ?_
        refine wpE_region (id := 4) (ops := r_towpathlaw03_SumBursts_17) (by kernel_rfl) ?_
        refine reg_run [.plain, .plain] 2 [(0, [], Value.slice b_.ptr b_.len b_.cap), (1, [], Value.int .u32 at_), (2, [], Value.int .u32 turned), (7, [], Value.slice none 0 0), (30, [], Value.slice none 0 0), (31, [], Value.slice b_.ptr b_.len b_.cap)] (by kernel_rfl) (by kernel_rfl) ?_
        obtain ⟨src, hs, h⟩ := h
        refine reg_append (t := 74) (tx := 74) (e := 5) (a := (Go.Operand.tmp 30)) (xo := (Go.Operand.tmp 31)) (s := (Slc.mk none 0 0)) (x := b_) (sz := 1) (by_ := 1) (zs := [Value.int .u8 0]) (ty := 74) (dst := some 32)  src (by kernel_rfl) (by kernel_rfl) (by kernel_rfl) (by kernel_rfl) (by kernel_rfl) (by kernel_rfl) (by kernel_rfl) (by kernel_rfl) (by kernel_rfl) hs (AppendW.mono h (fun c w3 h => ?_))
        refine reg_run [.plain] 4 [(0, [], Value.slice b_.ptr b_.len b_.cap), (1, [], Value.int .u32 at_), (2, [], Value.int .u32 turned), (7, [], Value.slice c.ptr c.len c.cap)] (by kernel_rfl) (by kernel_rfl) ?_
        refine reg_end [(0, Value.slice b_.ptr b_.len b_.cap), (1, Value.int .u32 at_), (2, Value.int .u32 turned), (7, Value.slice c.ptr c.len c.cap)] (by kernel_rfl) (by kernel_rfl) ?_
        change WpE _ _ c_towpathlaw03_SumBursts_19 _ _ _
        refine wpE_seq (x := c_towpathlaw03_SumBursts_20) (y := c_towpathlaw03_SumBursts_22) (by kernel_rfl) ?_
        refine wpE_region (id := 5) (ops := r_towpathlaw03_SumBursts_20) (by kernel_rfl) ?_
        refine reg_run [.plain, .plain, .plain, .plain, .plain] 5 [(0, [], Value.slice b_.ptr b_.len b_.cap), (2, [], Value.int .u32 turned), (7, [], Value.slice c.ptr c.len c.cap), (34, [], Value.int .i64 (IntKind.i64.wrap at_)), (37, [], Value.int .i64 (IntKind.i64.wrap (8 * ((b_.len : Nat) : Int))))] (by kernel_rfl) (by kernel_rfl) ?_
        obtain ⟨h0, h⟩ := h
        refine reg_val (op := (Go.Op.binOp Go.BinOp.rem 3 (Go.Operand.tmp 34) (Go.Operand.tmp 37) 3)) (ty := 3) (dst := some 38) (Value.int .i64 (Int.tmod (IntKind.i64.wrap at_) (IntKind.i64.wrap (8 * ((b_.len : Nat) : Int))))) (by kernel_rfl) (fun ww => run_rem (by kernel_rfl) (by kernel_rfl) h0 ww) ?_
        refine reg_run [.plain] 7 [(0, [], Value.slice b_.ptr b_.len b_.cap), (2, [], Value.int .u32 turned), (7, [], Value.slice c.ptr c.len c.cap), (8, [], Value.int .i64 (Int.tmod (IntKind.i64.wrap at_) (IntKind.i64.wrap (8 * ((b_.len : Nat) : Int)))))] (by kernel_rfl) (by kernel_rfl) ?_
        refine reg_end [(0, Value.slice b_.ptr b_.len b_.cap), (2, Value.int .u32 turned), (7, Value.slice c.ptr c.len c.cap), (8, Value.int .i64 (Int.tmod (IntKind.i64.wrap at_) (IntKind.i64.wrap (8 * ((b_.len : Nat) : Int)))))] (by kernel_rfl) (by kernel_rfl) ?_
        change WpE _ _ c_towpathlaw03_SumBursts_22 _ _ _
        refine wpE_seq (x := c_towpathlaw03_SumBursts_23) (y := c_towpathlaw03_SumBursts_25) (by kernel_rfl) ?_
        refine wpE_region (id := 6) (ops := r_towpathlaw03_SumBursts_23) (by kernel_rfl) ?_
        refine reg_run [.plain] 1 [(0, [], Value.slice b_.ptr b_.len b_.cap), (2, [], Value.int .u32 turned), (7, [], Value.slice c.ptr c.len c.cap), (8, [], Value.int .i64 (Int.tmod (IntKind.i64.wrap at_) (IntKind.i64.wrap (8 * ((b_.len : Nat) : Int))))), (9, [], Value.bool false)] (by kernel_rfl) (by kernel_rfl) ?_
        refine reg_end [(0, Value.slice b_.ptr b_.len b_.cap), (2, Value.int .u32 turned), (7, Value.slice c.ptr c.len c.cap), (8, Value.int .i64 (Int.tmod (IntKind.i64.wrap at_) (IntKind.i64.wrap (8 * ((b_.len : Nat) : Int))))), (9, Value.bool false)] (by kernel_rfl) (by kernel_rfl) ?_
        change WpE _ _ c_towpathlaw03_SumBursts_25 _ _ _
        refine wpE_seq (x := c_towpathlaw03_SumBursts_26) (y := c_towpathlaw03_SumBursts_55) (by kernel_rfl) ?_
        refine wpE_seq (x := c_towpathlaw03_SumBursts_27) (y := c_towpathlaw03_SumBursts_29) (by kernel_rfl) ?_
        refine wpE_region (id := 7) (ops := r_towpathlaw03_SumBursts_27) (by kernel_rfl) ?_
        refine reg_run [.plain] 1 [(0, [], Value.slice b_.ptr b_.len b_.cap), (2, [], Value.int .u32 turned), (7, [], Value.slice c.ptr c.len c.cap), (8, [], Value.int .i64 (Int.tmod (IntKind.i64.wrap at_) (IntKind.i64.wrap (8 * ((b_.len : Nat) : Int))))), (9, [], Value.bool false), (10, [], Value.int .i64 0)] (by kernel_rfl) (by kernel_rfl) ?_
        refine reg_end [(0, Value.slice b_.ptr b_.len b_.cap), (2, Value.int .u32 turned), (7, Value.slice c.ptr c.len c.cap), (8, Value.int .i64 (Int.tmod (IntKind.i64.wrap at_) (IntKind.i64.wrap (8 * ((b_.len : Nat) : Int))))), (9, Value.bool false), (10, Value.int .i64 0)] (by kernel_rfl) (by kernel_rfl) ?_
        change WpE _ _ c_towpathlaw03_SumBursts_29 _ _ _
        refine wpE_block (id := 0) (x := c_towpathlaw03_SumBursts_30) (by kernel_rfl) ?_
        obtain ⟨I, μ, h0, hr⟩ := h
        refine wpE_loop (x := c_towpathlaw03_SumBursts_31) (by kernel_rfl) (fun m l w => ∃ (some_ : Bool) (i : Int), l = [(0, Value.slice b_.ptr b_.len b_.cap), (2, Value.int .u32 turned), (7, Value.slice c.ptr c.len c.cap), (8, Value.int .i64 (Int.tmod (IntKind.i64.wrap at_) (IntKind.i64.wrap (8 * ((b_.len : Nat) : Int))))), (9, Value.bool some_), (10, Value.int .i64 i)] ∧ I some_ i w ∧ μ some_ i w = m) (l' := [(0, Value.slice b_.ptr b_.len b_.cap), (2, Value.int .u32 turned), (7, Value.slice c.ptr c.len c.cap), (8, Value.int .i64 (Int.tmod (IntKind.i64.wrap at_) (IntKind.i64.wrap (8 * ((b_.len : Nat) : Int))))), (9, Value.bool false), (10, Value.int .i64 0)]) (Sub.mk (by kernel_rfl)) ⟨false, 0, rfl, h0, rfl⟩ ?_
        rintro _ _ w4 ⟨some_, i, rfl, hI, rfl⟩
        obtain ⟨again_, again__h, h⟩ : ∃ again_ : Bool → Int → World → Prop, (∀ some_' i' w', again_ some_' i' w' → I some_' i' w' ∧ μ some_' i' w' < μ some_ i w4) ∧ F_towpathlaw03_SumBursts_L1 b_ at_ turned R c again_ some_ i w4 := ⟨_, fun _ _ _ h => h, hr some_ i w4 hI⟩
        clear h0 hI
        unfold F_towpathlaw03_SumBursts_L1 at h
        refine wpE_seq (x := c_towpathlaw03_SumBursts_32) (y := c_towpathlaw03_SumBursts_38) (by kernel_rfl) ?_
        refine wpE_seq (x := c_towpathlaw03_SumBursts_33) (y := c_towpathlaw03_SumBursts_35) (by kernel_rfl) ?_
        refine wpE_region (id := 8) (ops := r_towpathlaw03_SumBursts_33) (by kernel_rfl) ?_
        refine reg_run [.plain, .plain] 2 [(0, [], Value.slice b_.ptr b_.len b_.cap), (2, [], Value.int .u32 turned), (7, [], Value.slice c.ptr c.len c.cap), (8, [], Value.int .i64 (Int.tmod (IntKind.i64.wrap at_) (IntKind.i64.wrap (8 * ((b_.len : Nat) : Int))))), (9, [], Value.bool some_), (10, [], Value.int .i64 i), (40, [], Value.bool (decide (i < 32)))] (by kernel_rfl) (by kernel_rfl) ?_
        refine reg_end [(0, Value.slice b_.ptr b_.len b_.cap), (2, Value.int .u32 turned), (7, Value.slice c.ptr c.len c.cap), (8, Value.int .i64 (Int.tmod (IntKind.i64.wrap at_) (IntKind.i64.wrap (8 * ((b_.len : Nat) : Int))))), (9, Value.bool some_), (10, Value.int .i64 i), (40, Value.bool (decide (i < 32)))] (by kernel_rfl) (by kernel_rfl) ?_
        change WpE _ _ c_towpathlaw03_SumBursts_35 _ _ _
        refine wpE_cond (o := (Operand.tmp 40)) (b := (decide (i < 32))) (x := c_towpathlaw03_SumBursts_36) (y := c_towpathlaw03_SumBursts_37) (by kernel_rfl) (by kernel_rfl) (fun hb => ?_) (fun hb => ?_)
        · replace h := h.1 hb
          refine wpE_skip (by kernel_rfl) ?_
          change WpE _ _ c_towpathlaw03_SumBursts_38 _ _ _
          refine wpE_seq_cut (x := c_towpathlaw03_SumBursts_39) (y := c_towpathlaw03_SumBursts_53) (by kernel_rfl) (fun l w => ∃ (some_1 : Bool), l = [(0, Value.slice b_.ptr b_.len b_.cap), (2, Value.int .u32 turned), (7, Value.slice c.ptr c.len c.cap), (8, Value.int .i64 (Int.tmod (IntKind.i64.wrap at_) (IntKind.i64.wrap (8 * ((b_.len : Nat) : Int))))), (9, Value.bool some_1), (10, Value.int .i64 i)] ∧ F_towpathlaw03_SumBursts_k2 i again_ some_1 w) ?_ ?_
          · refine wpE_block (id := 1) (x := c_towpathlaw03_SumBursts_40) (by kernel_rfl) ?_
            refine wpE_seq (x := c_towpathlaw03_SumBursts_41) (y := c_towpathlaw03_SumBursts_43) (by kernel_rfl) ?_
            refine wpE_region (id := 10) (ops := r_towpathlaw03_SumBursts_41) (by kernel_rfl) ?_
            refine reg_run [.plain, .plain, .plain, .plain] 4 [(0, [], Value.slice b_.ptr b_.len b_.cap), (2, [], Value.int .u32 turned), (7, [], Value.slice c.ptr c.len c.cap), (8, [], Value.int .i64 (Int.tmod (IntKind.i64.wrap at_) (IntKind.i64.wrap (8 * ((b_.len : Nat) : Int))))), (9, [], Value.bool some_), (10, [], Value.int .i64 i), (11, [], Value.int .i64 (IntKind.i64.wrap ((Int.tmod (IntKind.i64.wrap at_) (IntKind.i64.wrap (8 * ((b_.len : Nat) : Int)))) + i)))] (by kernel_rfl) (by kernel_rfl) ?_
            refine reg_end [(0, Value.slice b_.ptr b_.len b_.cap), (2, Value.int .u32 turned), (7, Value.slice c.ptr c.len c.cap), (8, Value.int .i64 (Int.tmod (IntKind.i64.wrap at_) (IntKind.i64.wrap (8 * ((b_.len : Nat) : Int))))), (9, Value.bool some_), (10, Value.int .i64 i), (11, Value.int .i64 (IntKind.i64.wrap ((Int.tmod (IntKind.i64.wrap at_) (IntKind.i64.wrap (8 * ((b_.len : Nat) : Int)))) + i)))] (by kernel_rfl) (by kernel_rfl) ?_
            change WpE _ _ c_towpathlaw03_SumBursts_43 _ _ _
            refine wpE_seq (x := c_towpathlaw03_SumBursts_44) (y := c_towpathlaw03_SumBursts_46) (by kernel_rfl) ?_
            refine wpE_region (id := 11) (ops := r_towpathlaw03_SumBursts_44) (by kernel_rfl) ?_
            refine reg_run [.plain, .plain] 2 [(0, [], Value.slice b_.ptr b_.len b_.cap), (2, [], Value.int .u32 turned), (7, [], Value.slice c.ptr c.len c.cap), (8, [], Value.int .i64 (Int.tmod (IntKind.i64.wrap at_) (IntKind.i64.wrap (8 * ((b_.len : Nat) : Int))))), (9, [], Value.bool some_), (10, [], Value.int .i64 i), (11, [], Value.int .i64 (IntKind.i64.wrap ((Int.tmod (IntKind.i64.wrap at_) (IntKind.i64.wrap (8 * ((b_.len : Nat) : Int)))) + i))), (46, [], Value.int .u32 turned), (47, [], Value.int .i64 i)] (by kernel_rfl) (by kernel_rfl) ?_
            obtain ⟨h0, h⟩ := h
            refine reg_val (op := (Go.Op.binOp Go.BinOp.shr 39 (Go.Operand.tmp 46) (Go.Operand.tmp 47) 3)) (ty := 39) (dst := some 48) (Value.int .u32 (Int.fdiv turned (2 ^ (min i.toNat 32)))) (by kernel_rfl) (fun ww => run_shr (k' := .i64) (by kernel_rfl) (by kernel_rfl) (by kernel_rfl) h0 ww) ?_
            refine reg_run [.plain, .plain, .plain, .plain, .plain, .plain, .plain, .plain, .pick] 12 [(0, [], Value.slice b_.ptr b_.len b_.cap), (2, [], Value.int .u32 turned), (7, [], Value.slice c.ptr c.len c.cap), (8, [], Value.int .i64 (Int.tmod (IntKind.i64.wrap at_) (IntKind.i64.wrap (8 * ((b_.len : Nat) : Int))))), (9, [], Value.bool some_), (10, [], Value.int .i64 i), (11, [], Value.int .i64 (IntKind.i64.wrap ((Int.tmod (IntKind.i64.wrap at_) (IntKind.i64.wrap (8 * ((b_.len : Nat) : Int)))) + i))), (57, [], Value.bool (((band .u32 (Int.fdiv turned (2 ^ (min i.toNat 32))) 1) == 1) && (decide ((IntKind.i64.wrap ((Int.tmod (IntKind.i64.wrap at_) (IntKind.i64.wrap (8 * ((b_.len : Nat) : Int)))) + i)) < (IntKind.i64.wrap (8 * ((b_.len : Nat) : Int)))))))] (by kernel_rfl) (by kernel_rfl) ?_
            refine reg_end [(0, Value.slice b_.ptr b_.len b_.cap), (2, Value.int .u32 turned), (7, Value.slice c.ptr c.len c.cap), (8, Value.int .i64 (Int.tmod (IntKind.i64.wrap at_) (IntKind.i64.wrap (8 * ((b_.len : Nat) : Int))))), (9, Value.bool some_), (10, Value.int .i64 i), (11, Value.int .i64 (IntKind.i64.wrap ((Int.tmod (IntKind.i64.wrap at_) (IntKind.i64.wrap (8 * ((b_.len : Nat) : Int)))) + i))), (57, Value.bool (((band .u32 (Int.fdiv turned (2 ^ (min i.toNat 32))) 1) == 1) && (decide ((IntKind.i64.wrap ((Int.tmod (IntKind.i64.wrap at_) (IntKind.i64.wrap (8 * ((b_.len : Nat) : Int)))) + i)) < (IntKind.i64.wrap (8 * ((b_.len : Nat) : Int)))))))] (by kernel_rfl) (by kernel_rfl) ?_
            change WpE _ _ c_towpathlaw03_SumBursts_46 _ _ _
            refine wpE_cond (o := (Operand.tmp 57)) (b := (((band .u32 (Int.fdiv turned (2 ^ (min i.toNat 32))) 1) == 1) && (decide ((IntKind.i64.wrap ((Int.tmod (IntKind.i64.wrap at_) (IntKind.i64.wrap (8 * ((b_.len : Nat) : Int)))) + i)) < (IntKind.i64.wrap (8 * ((b_.len : Nat) : Int))))))) (x := c_towpathlaw03_SumBursts_47) (y := c_towpathlaw03_SumBursts_52) (by kernel_rfl) (by kernel_rfl) (fun hb => ?_) (fun hb => ?_)
            · replace h := h.1 hb
              refine wpE_seq (x := c_towpathlaw03_SumBursts_48) (y := c_towpathlaw03_SumBursts_50) (by kernel_rfl) ?_
              refine wpE_tailregion (id := 12) (ops := r_towpathlaw03_SumBursts_48) (by kernel_rfl) 13 (by kernel_rfl) (by kernel_rfl) (fun w6 hw => ?_)
              replace h := h w6 hw
              clear hw
              refine qreg_run [.plain, .plain, .plain, .plain, .plain, .plain] 6 [(0, [], Value.slice b_.ptr b_.len b_.cap), (2, [], Value.int .u32 turned), (7, [], Value.slice c.ptr c.len c.cap), (8, [], Value.int .i64 (Int.tmod (IntKind.i64.wrap at_) (IntKind.i64.wrap (8 * ((b_.len : Nat) : Int))))), (10, [], Value.int .i64 i), (11, [], Value.int .i64 (IntKind.i64.wrap ((Int.tmod (IntKind.i64.wrap at_) (IntKind.i64.wrap (8 * ((b_.len : Nat) : Int)))) + i))), (58, [], Value.slice c.ptr c.len c.cap), (60, [], Value.int .i64 (IntKind.i64.wrap (Int.tdiv (IntKind.i64.wrap ((Int.tmod (IntKind.i64.wrap at_) (IntKind.i64.wrap (8 * ((b_.len : Nat) : Int)))) + i)) 8))), (61, [], Value.slice c.ptr c.len c.cap), (63, [], Value.int .i64 (IntKind.i64.wrap (Int.tdiv (IntKind.i64.wrap ((Int.tmod (IntKind.i64.wrap at_) (IntKind.i64.wrap (8 * ((b_.len : Nat) : Int)))) + i)) 8)))] (by kernel_rfl) (by kernel_rfl) ?_
              obtain ⟨hp_14, h⟩ := h
              refine qreg_conv [(0, [], Value.slice b_.ptr b_.len b_.cap), (2, [], Value.int .u32 turned), (7, [], Value.slice c.ptr c.len c.cap), (8, [], Value.int .i64 (Int.tmod (IntKind.i64.wrap at_) (IntKind.i64.wrap (8 * ((b_.len : Nat) : Int))))), (10, [], Value.int .i64 i), (11, [], Value.int .i64 (IntKind.i64.wrap ((Int.tmod (IntKind.i64.wrap at_) (IntKind.i64.wrap (8 * ((b_.len : Nat) : Int)))) + i))), (58, [], Value.slice c.ptr c.len c.cap), (60, [], Value.int .i64 (IntKind.i64.wrap (Int.tdiv (IntKind.i64.wrap ((Int.tmod (IntKind.i64.wrap at_) (IntKind.i64.wrap (8 * ((b_.len : Nat) : Int)))) + i)) 8))), (61, [], Value.slice (some ⟨(pblk c.ptr), (poff c.ptr), none⟩) c.len c.cap), (63, [], Value.int .i64 (IntKind.i64.wrap (Int.tdiv (IntKind.i64.wrap ((Int.tmod (IntKind.i64.wrap at_) (IntKind.i64.wrap (8 * ((b_.len : Nat) : Int)))) + i)) 8)))] (congrArg (fun pp => ([(0, [], Value.slice b_.ptr b_.len b_.cap), (2, [], Value.int .u32 turned), (7, [], Value.slice c.ptr c.len c.cap), (8, [], Value.int .i64 (Int.tmod (IntKind.i64.wrap at_) (IntKind.i64.wrap (8 * ((b_.len : Nat) : Int))))), (10, [], Value.int .i64 i), (11, [], Value.int .i64 (IntKind.i64.wrap ((Int.tmod (IntKind.i64.wrap at_) (IntKind.i64.wrap (8 * ((b_.len : Nat) : Int)))) + i))), (58, [], Value.slice c.ptr c.len c.cap), (60, [], Value.int .i64 (IntKind.i64.wrap (Int.tdiv (IntKind.i64.wrap ((Int.tmod (IntKind.i64.wrap at_) (IntKind.i64.wrap (8 * ((b_.len : Nat) : Int)))) + i)) 8))), (61, [], Value.slice pp c.len c.cap), (63, [], Value.int .i64 (IntKind.i64.wrap (Int.tdiv (IntKind.i64.wrap ((Int.tmod (IntKind.i64.wrap at_) (IntKind.i64.wrap (8 * ((b_.len : Nat) : Int)))) + i)) 8)))] : GEnv)) hp_14) ?_
              obtain ⟨h0, h1, h⟩ := h
              refine qreg_indexS1 (t := 74) (e := 5) (x := (Go.Operand.tmp 61)) (ix := (Go.Operand.tmp 63)) (b := (pblk c.ptr)) (o := (poff c.ptr)) (l := c.len) (c := c.cap) (k := .i64) (j := (IntKind.i64.wrap (Int.tdiv (IntKind.i64.wrap ((Int.tmod (IntKind.i64.wrap at_) (IntKind.i64.wrap (8 * ((b_.len : Nat) : Int)))) + i)) 8))) (ty := 0) (dst := some 64) (by kernel_rfl) (by kernel_rfl) (by kernel_rfl) (by kernel_rfl) (by kernel_rfl) h0 h1 ?_
              refine qreg_run [] 7 [(0, [], Value.slice b_.ptr b_.len b_.cap), (2, [], Value.int .u32 turned), (7, [], Value.slice c.ptr c.len c.cap), (8, [], Value.int .i64 (Int.tmod (IntKind.i64.wrap at_) (IntKind.i64.wrap (8 * ((b_.len : Nat) : Int))))), (10, [], Value.int .i64 i), (11, [], Value.int .i64 (IntKind.i64.wrap ((Int.tmod (IntKind.i64.wrap at_) (IntKind.i64.wrap (8 * ((b_.len : Nat) : Int)))) + i))), (58, [], Value.slice c.ptr c.len c.cap), (60, [], Value.int .i64 (IntKind.i64.wrap (Int.tdiv (IntKind.i64.wrap ((Int.tmod (IntKind.i64.wrap at_) (IntKind.i64.wrap (8 * ((b_.len : Nat) : Int)))) + i)) 8))), (64, [], Value.pointer (some ⟨(pblk c.ptr), (poff c.ptr) + (IntKind.i64.wrap (Int.tdiv (IntKind.i64.wrap ((Int.tmod (IntKind.i64.wrap at_) (IntKind.i64.wrap (8 * ((b_.len : Nat) : Int)))) + i)) 8)).toNat, none⟩))] (by kernel_rfl) (by kernel_rfl) ?_
              obtain ⟨v65, hc, h⟩ := h
              refine qreg_load1 (t := 5) (a := (Go.Operand.tmp 64)) (b := (pblk c.ptr)) (o := ((poff c.ptr) + (IntKind.i64.wrap (Int.tdiv (IntKind.i64.wrap ((Int.tmod (IntKind.i64.wrap at_) (IntKind.i64.wrap (8 * ((b_.len : Nat) : Int)))) + i)) 8)).toNat)) (ty := 5) (dst := some 65) (by kernel_rfl) (by kernel_rfl) (by kernel_rfl) hc ?_
              refine qreg_run [.plain, .plain] 10 [(0, [], Value.slice b_.ptr b_.len b_.cap), (2, [], Value.int .u32 turned), (7, [], Value.slice c.ptr c.len c.cap), (8, [], Value.int .i64 (Int.tmod (IntKind.i64.wrap at_) (IntKind.i64.wrap (8 * ((b_.len : Nat) : Int))))), (10, [], Value.int .i64 i), (58, [], Value.slice c.ptr c.len c.cap), (60, [], Value.int .i64 (IntKind.i64.wrap (Int.tdiv (IntKind.i64.wrap ((Int.tmod (IntKind.i64.wrap at_) (IntKind.i64.wrap (8 * ((b_.len : Nat) : Int)))) + i)) 8))), (65, [], Value.int .u8 v65), (67, [], Value.int .i64 (Int.tmod (IntKind.i64.wrap ((Int.tmod (IntKind.i64.wrap at_) (IntKind.i64.wrap (8 * ((b_.len : Nat) : Int)))) + i)) 8))] (by kernel_rfl) (by kernel_rfl) ?_
              obtain ⟨h0, h⟩ := h
              refine qreg_val (op := (Go.Op.binOp Go.BinOp.shl 5 (Go.Operand.const (Go.Value.int Go.IntKind.u8 1)) (Go.Operand.tmp 67) 3)) (ty := 5) (dst := some 68) (Value.int .u8 (IntKind.u8.wrap (1 * 2 ^ (min (Int.tmod (IntKind.i64.wrap ((Int.tmod (IntKind.i64.wrap at_) (IntKind.i64.wrap (8 * ((b_.len : Nat) : Int)))) + i)) 8).toNat 8)))) (by kernel_rfl) (fun ww => run_shl (k' := .i64) (by kernel_rfl) (by kernel_rfl) (by kernel_rfl) h0 ww) ?_
              refine qreg_run [.plain] 12 [(0, [], Value.slice b_.ptr b_.len b_.cap), (2, [], Value.int .u32 turned), (7, [], Value.slice c.ptr c.len c.cap), (8, [], Value.int .i64 (Int.tmod (IntKind.i64.wrap at_) (IntKind.i64.wrap (8 * ((b_.len : Nat) : Int))))), (10, [], Value.int .i64 i), (58, [], Value.slice c.ptr c.len c.cap), (60, [], Value.int .i64 (IntKind.i64.wrap (Int.tdiv (IntKind.i64.wrap ((Int.tmod (IntKind.i64.wrap at_) (IntKind.i64.wrap (8 * ((b_.len : Nat) : Int)))) + i)) 8))), (69, [], Value.int .u8 (bxor .u8 v65 (IntKind.u8.wrap (1 * 2 ^ (min (Int.tmod (IntKind.i64.wrap ((Int.tmod (IntKind.i64.wrap at_) (IntKind.i64.wrap (8 * ((b_.len : Nat) : Int)))) + i)) 8).toNat 8)))))] (by kernel_rfl) (by kernel_rfl) ?_
              obtain ⟨hp_15, h⟩ := h
              refine qreg_conv [(0, [], Value.slice b_.ptr b_.len b_.cap), (2, [], Value.int .u32 turned), (7, [], Value.slice c.ptr c.len c.cap), (8, [], Value.int .i64 (Int.tmod (IntKind.i64.wrap at_) (IntKind.i64.wrap (8 * ((b_.len : Nat) : Int))))), (10, [], Value.int .i64 i), (58, [], Value.slice (some ⟨(pblk c.ptr), (poff c.ptr), none⟩) c.len c.cap), (60, [], Value.int .i64 (IntKind.i64.wrap (Int.tdiv (IntKind.i64.wrap ((Int.tmod (IntKind.i64.wrap at_) (IntKind.i64.wrap (8 * ((b_.len : Nat) : Int)))) + i)) 8))), (69, [], Value.int .u8 (bxor .u8 v65 (IntKind.u8.wrap (1 * 2 ^ (min (Int.tmod (IntKind.i64.wrap ((Int.tmod (IntKind.i64.wrap at_) (IntKind.i64.wrap (8 * ((b_.len : Nat) : Int)))) + i)) 8).toNat 8)))))] (congrArg (fun pp => ([(0, [], Value.slice b_.ptr b_.len b_.cap), (2, [], Value.int .u32 turned), (7, [], Value.slice c.ptr c.len c.cap), (8, [], Value.int .i64 (Int.tmod (IntKind.i64.wrap at_) (IntKind.i64.wrap (8 * ((b_.len : Nat) : Int))))), (10, [], Value.int .i64 i), (58, [], Value.slice pp c.len c.cap), (60, [], Value.int .i64 (IntKind.i64.wrap (Int.tdiv (IntKind.i64.wrap ((Int.tmod (IntKind.i64.wrap at_) (IntKind.i64.wrap (8 * ((b_.len : Nat) : Int)))) + i)) 8))), (69, [], Value.int .u8 (bxor .u8 v65 (IntKind.u8.wrap (1 * 2 ^ (min (Int.tmod (IntKind.i64.wrap ((Int.tmod (IntKind.i64.wrap at_) (IntKind.i64.wrap (8 * ((b_.len : Nat) : Int)))) + i)) 8).toNat 8)))))] : GEnv)) hp_15) ?_
              obtain ⟨h0, h1, h⟩ := h
              refine qreg_indexS1 (t := 74) (e := 5) (x := (Go.Operand.tmp 58)) (ix := (Go.Operand.tmp 60)) (b := (pblk c.ptr)) (o := (poff c.ptr)) (l := c.len) (c := c.cap) (k := .i64) (j := (IntKind.i64.wrap (Int.tdiv (IntKind.i64.wrap ((Int.tmod (IntKind.i64.wrap at_) (IntKind.i64.wrap (8 * ((b_.len : Nat) : Int)))) + i)) 8))) (ty := 0) (dst := some 70) (by kernel_rfl) (by kernel_rfl) (by kernel_rfl) (by kernel_rfl) (by kernel_rfl) h0 h1 ?_
              refine qreg_run [] 13 [(0, [], Value.slice b_.ptr b_.len b_.cap), (2, [], Value.int .u32 turned), (7, [], Value.slice c.ptr c.len c.cap), (8, [], Value.int .i64 (Int.tmod (IntKind.i64.wrap at_) (IntKind.i64.wrap (8 * ((b_.len : Nat) : Int))))), (10, [], Value.int .i64 i), (69, [], Value.int .u8 (bxor .u8 v65 (IntKind.u8.wrap (1 * 2 ^ (min (Int.tmod (IntKind.i64.wrap ((Int.tmod (IntKind.i64.wrap at_) (IntKind.i64.wrap (8 * ((b_.len : Nat) : Int)))) + i)) 8).toNat 8))))), (70, [], Value.pointer (some ⟨(pblk c.ptr), (poff c.ptr) + (IntKind.i64.wrap (Int.tdiv (IntKind.i64.wrap ((Int.tmod (IntKind.i64.wrap at_) (IntKind.i64.wrap (8 * ((b_.len : Nat) : Int)))) + i)) 8)).toNat, none⟩))] (by kernel_rfl) (by kernel_rfl) ?_
              refine qreg_tail (by kernel_rfl) ?_
              refine reg_run [] 13 [(0, [], Value.slice b_.ptr b_.len b_.cap), (2, [], Value.int .u32 turned), (7, [], Value.slice c.ptr c.len c.cap), (8, [], Value.int .i64 (Int.tmod (IntKind.i64.wrap at_) (IntKind.i64.wrap (8 * ((b_.len : Nat) : Int))))), (10, [], Value.int .i64 i), (69, [], Value.int .u8 (bxor .u8 v65 (IntKind.u8.wrap (1 * 2 ^ (min (Int.tmod (IntKind.i64.wrap ((Int.tmod (IntKind.i64.wrap at_) (IntKind.i64.wrap (8 * ((b_.len : Nat) : Int)))) + i)) 8).toNat 8))))), (70, [], Value.pointer (some ⟨(pblk c.ptr), (poff c.ptr) + (IntKind.i64.wrap (Int.tdiv (IntKind.i64.wrap ((Int.tmod (IntKind.i64.wrap at_) (IntKind.i64.wrap (8 * ((b_.len : Nat) : Int)))) + i)) 8)).toNat, none⟩))] (by kernel_rfl) (by kernel_rfl) ?_
              obtain ⟨hc, h⟩ := h
              refine reg_store (t := 5) (a := (Go.Operand.tmp 70)) (x := (Go.Operand.tmp 69)) (b := (pblk c.ptr)) (o := ((poff c.ptr) + (IntKind.i64.wrap (Int.tdiv (IntKind.i64.wrap ((Int.tmod (IntKind.i64.wrap at_) (IntKind.i64.wrap (8 * ((b_.len : Nat) : Int)))) + i)) 8)).toNat)) (ty := 0) (dst := none) [Value.int .u8 (bxor .u8 v65 (IntKind.u8.wrap (1 * 2 ^ (min (Int.tmod (IntKind.i64.wrap ((Int.tmod (IntKind.i64.wrap at_) (IntKind.i64.wrap (8 * ((b_.len : Nat) : Int)))) + i)) 8).toNat 8))))] (by kernel_rfl) (by kernel_rfl) (by kernel_rfl) (k := 1) (by kernel_rfl) (by kernel_rfl) (by kernel_rfl) hc (fun w7 hw => ?_)
              replace h := h w7 hw
              clear hw
              refine reg_end [(0, Value.slice b_.ptr b_.len b_.cap), (2, Value.int .u32 turned), (7, Value.slice c.ptr c.len c.cap), (8, Value.int .i64 (Int.tmod (IntKind.i64.wrap at_) (IntKind.i64.wrap (8 * ((b_.len : Nat) : Int))))), (10, Value.int .i64 i)] (by kernel_rfl) (by kernel_rfl) ?_
              change WpE _ _ c_towpathlaw03_SumBursts_50 _ _ _
              refine wpE_region (id := 13) (ops := r_towpathlaw03_SumBursts_50) (by kernel_rfl) ?_
              refine reg_run [.plain] 1 [(0, [], Value.slice b_.ptr b_.len b_.cap), (2, [], Value.int .u32 turned), (7, [], Value.slice c.ptr c.len c.cap), (8, [], Value.int .i64 (Int.tmod (IntKind.i64.wrap at_) (IntKind.i64.wrap (8 * ((b_.len : Nat) : Int))))), (9, [], Value.bool true), (10, [], Value.int .i64 i)] (by kernel_rfl) (by kernel_rfl) ?_
              refine reg_end [(0, Value.slice b_.ptr b_.len b_.cap), (2, Value.int .u32 turned), (7, Value.slice c.ptr c.len c.cap), (8, Value.int .i64 (Int.tmod (IntKind.i64.wrap at_) (IntKind.i64.wrap (8 * ((b_.len : Nat) : Int))))), (9, Value.bool true), (10, Value.int .i64 i)] (by kernel_rfl) (by kernel_rfl) ?_
              exact ⟨[(0, Value.slice b_.ptr b_.len b_.cap), (2, Value.int .u32 turned), (7, Value.slice c.ptr c.len c.cap), (8, Value.int .i64 (Int.tmod (IntKind.i64.wrap at_) (IntKind.i64.wrap (8 * ((b_.len : Nat) : Int))))), (9, Value.bool true), (10, Value.int .i64 i)], Sub.mk (by kernel_rfl), true, rfl, h⟩
            · replace h := h.2 hb
              refine wpE_skip (by kernel_rfl) ?_
              exact ⟨[(0, Value.slice b_.ptr b_.len b_.cap), (2, Value.int .u32 turned), (7, Value.slice c.ptr c.len c.cap), (8, Value.int .i64 (Int.tmod (IntKind.i64.wrap at_) (IntKind.i64.wrap (8 * ((b_.len : Nat) : Int))))), (9, Value.bool some_), (10, Value.int .i64 i)], Sub.mk (by kernel_rfl), some_, rfl, h⟩
          · rintro _ w5 ⟨some_1, rfl, h⟩
            unfold F_towpathlaw03_SumBursts_k2 at h
            refine wpE_region (id := 9) (ops := r_towpathlaw03_SumBursts_53) (by kernel_rfl) ?_
            refine reg_run [.plain, .plain, .plain] 3 [(0, [], Value.slice b_.ptr b_.len b_.cap), (2, [], Value.int .u32 turned), (7, [], Value.slice c.ptr c.len c.cap), (8, [], Value.int .i64 (Int.tmod (IntKind.i64.wrap at_) (IntKind.i64.wrap (8 * ((b_.len : Nat) : Int))))), (9, [], Value.bool some_1), (10, [], Value.int .i64 (IntKind.i64.wrap (i + 1)))] (by kernel_rfl) (by kernel_rfl) ?_
            refine reg_end [(0, Value.slice b_.ptr b_.len b_.cap), (2, Value.int .u32 turned), (7, Value.slice c.ptr c.len c.cap), (8, Value.int .i64 (Int.tmod (IntKind.i64.wrap at_) (IntKind.i64.wrap (8 * ((b_.len : Nat) : Int))))), (9, Value.bool some_1), (10, Value.int .i64 (IntKind.i64.wrap (i + 1)))] (by kernel_rfl) (by kernel_rfl) ?_
            have hb_ := again__h _ _ _ h
            exact ⟨_, hb_.2, [(0, Value.slice b_.ptr b_.len b_.cap), (2, Value.int .u32 turned), (7, Value.slice c.ptr c.len c.cap), (8, Value.int .i64 (Int.tmod (IntKind.i64.wrap at_) (IntKind.i64.wrap (8 * ((b_.len : Nat) : Int))))), (9, Value.bool some_1), (10, Value.int .i64 (IntKind.i64.wrap (i + 1)))], Sub.mk (by kernel_rfl), some_1, (IntKind.i64.wrap (i + 1)), rfl, hb_.1, rfl⟩
        · replace h := h.2 hb
          refine wpE_exit (id := 0) (by kernel_rfl) ?_
          change WpE _ _ c_towpathlaw03_SumBursts_55 _ _ _
          refine wpE_seq (x := c_towpathlaw03_SumBursts_56) (y := c_towpathlaw03_SumBursts_58) (by kernel_rfl) ?_
          refine wpE_region (id := 14) (ops := r_towpathlaw03_SumBursts_56) (by kernel_rfl) ?_
          refine reg_run [.plain] 1 [(0, [], Value.slice b_.ptr b_.len b_.cap), (9, [], Value.bool some_), (71, [], Value.slice c.ptr c.len c.cap)] (by kernel_rfl) (by kernel_rfl) ?_
          refine reg_enter (op := (Go.Op.call (Go.Call.mk (Go.Callee.value (Go.Operand.func 51)) #[(Go.Operand.tmp 71)] #[74]))) (ty := 39) (dst := some 72) 51 #[Value.slice c.ptr c.len c.cap] (by kernel_rfl) (fun ww => by kernel_rfl) (Calls.mono h ?_)
          rintro _ w8 ⟨v72, rfl, h⟩
          refine ⟨_, rfl, ?_⟩
          refine reg_run [.plain] 3 [(9, [], Value.bool some_), (72, [], Value.int .u32 v72), (73, [], Value.slice b_.ptr b_.len b_.cap)] (by kernel_rfl) (by kernel_rfl) ?_
          refine reg_enter (op := (Go.Op.call (Go.Call.mk (Go.Callee.value (Go.Operand.func 51)) #[(Go.Operand.tmp 73)] #[74]))) (ty := 39) (dst := some 74) 51 #[Value.slice b_.ptr b_.len b_.cap] (by kernel_rfl) (fun ww => by kernel_rfl) (Calls.mono h ?_)
          rintro _ w9 ⟨v74, rfl, h⟩
          refine ⟨_, rfl, ?_⟩
          refine reg_run [.plain, .plain, .plain, .plain] 8 [(6, [], Value.bool ((v72 != v74) == some_))] (by kernel_rfl) (by kernel_rfl) ?_
          refine reg_end [(6, Value.bool ((v72 != v74) == some_))] (by kernel_rfl) (by kernel_rfl) ?_
          change WpE _ _ c_towpathlaw03_SumBursts_58 _ _ _
          refine wpE_ret (by kernel_rfl) ?_
          repeat (first | refine seqQ_ret ?_ | refine blockQ_ret ?_ | refine loopQ_ret ?_ | refine cutQ_ret ?_)
          exact retS (rs := [(Go.ResultVar.tmp 6)]) (v := Value.bool ((v72 != v74) == some_)) (by kernel_rfl) (⟨by kernel_rfl, trivial⟩) ⟨((v72 != v74) == some_), rfl, h⟩
  · rintro e w' ⟨v, rfl, r0, rfl, h⟩; exact ⟨r0, rfl, h⟩
end Go.Proofs.Ytmcpljflohlnaaa
