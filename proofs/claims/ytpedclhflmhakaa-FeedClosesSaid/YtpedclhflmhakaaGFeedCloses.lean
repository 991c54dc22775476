/- WRITTEN BY PROGRAM (dec.py): for each Go function the clean formula F, the call's contract C, and the proof S that F gives C. -/
import Derived.Test.YtpedclhflmhakaaRows
import Derived.Test.YtpedclhflmhakaaGF
namespace Go.Proofs.Ytpedclhflmhakaa
open Go
set_option linter.unusedVariables false

/-! ### towpath/towpathlaw16.FeedCloses (function 3) -/
noncomputable def c_towpathlaw16_FeedCloses_0 : Code := (Try.f3.body).getD Code.skip
noncomputable def c_towpathlaw16_FeedCloses_1 : Code := Code.l c_towpathlaw16_FeedCloses_0
noncomputable def r_towpathlaw16_FeedCloses_1 : Array Oper := Code.ops c_towpathlaw16_FeedCloses_1
noncomputable def c_towpathlaw16_FeedCloses_3 : Code := Code.r c_towpathlaw16_FeedCloses_0
noncomputable def c_towpathlaw16_FeedCloses_4 : Code := Code.l c_towpathlaw16_FeedCloses_3
noncomputable def r_towpathlaw16_FeedCloses_4 : Array Oper := Code.ops c_towpathlaw16_FeedCloses_4
noncomputable def c_towpathlaw16_FeedCloses_6 : Code := Code.r c_towpathlaw16_FeedCloses_3
noncomputable def c_towpathlaw16_FeedCloses_7 : Code := Code.l c_towpathlaw16_FeedCloses_6
noncomputable def c_towpathlaw16_FeedCloses_8 : Code := Code.l c_towpathlaw16_FeedCloses_7
noncomputable def r_towpathlaw16_FeedCloses_8 : Array Oper := Code.ops c_towpathlaw16_FeedCloses_8
noncomputable def c_towpathlaw16_FeedCloses_10 : Code := Code.r c_towpathlaw16_FeedCloses_7
noncomputable def c_towpathlaw16_FeedCloses_11 : Code := Code.l c_towpathlaw16_FeedCloses_10
noncomputable def c_towpathlaw16_FeedCloses_12 : Code := Code.l c_towpathlaw16_FeedCloses_11
noncomputable def r_towpathlaw16_FeedCloses_12 : Array Oper := Code.ops c_towpathlaw16_FeedCloses_12
noncomputable def c_towpathlaw16_FeedCloses_14 : Code := Code.r c_towpathlaw16_FeedCloses_11
noncomputable def c_towpathlaw16_FeedCloses_15 : Code := Code.r c_towpathlaw16_FeedCloses_10
noncomputable def c_towpathlaw16_FeedCloses_16 : Code := Code.r c_towpathlaw16_FeedCloses_6
noncomputable def c_towpathlaw16_FeedCloses_17 : Code := Code.l c_towpathlaw16_FeedCloses_16
noncomputable def c_towpathlaw16_FeedCloses_18 : Code := Code.l c_towpathlaw16_FeedCloses_17
noncomputable def r_towpathlaw16_FeedCloses_18 : Array Oper := Code.ops c_towpathlaw16_FeedCloses_18
noncomputable def c_towpathlaw16_FeedCloses_20 : Code := Code.r c_towpathlaw16_FeedCloses_17
noncomputable def c_towpathlaw16_FeedCloses_21 : Code := Code.l c_towpathlaw16_FeedCloses_20
noncomputable def c_towpathlaw16_FeedCloses_22 : Code := Code.l c_towpathlaw16_FeedCloses_21
noncomputable def r_towpathlaw16_FeedCloses_22 : Array Oper := Code.ops c_towpathlaw16_FeedCloses_22
noncomputable def c_towpathlaw16_FeedCloses_24 : Code := Code.r c_towpathlaw16_FeedCloses_21
noncomputable def c_towpathlaw16_FeedCloses_25 : Code := Code.r c_towpathlaw16_FeedCloses_20
noncomputable def c_towpathlaw16_FeedCloses_26 : Code := Code.r c_towpathlaw16_FeedCloses_16
noncomputable def c_towpathlaw16_FeedCloses_27 : Code := Code.l c_towpathlaw16_FeedCloses_26
noncomputable def r_towpathlaw16_FeedCloses_27 : Array Oper := Code.ops c_towpathlaw16_FeedCloses_27
noncomputable def c_towpathlaw16_FeedCloses_29 : Code := Code.r c_towpathlaw16_FeedCloses_26
noncomputable def c_towpathlaw16_FeedCloses_30 : Code := Code.l c_towpathlaw16_FeedCloses_29
noncomputable def r_towpathlaw16_FeedCloses_30 : Array Oper := Code.ops c_towpathlaw16_FeedCloses_30
noncomputable def c_towpathlaw16_FeedCloses_32 : Code := Code.r c_towpathlaw16_FeedCloses_29
noncomputable def c_towpathlaw16_FeedCloses_33 : Code := Code.l c_towpathlaw16_FeedCloses_32
noncomputable def r_towpathlaw16_FeedCloses_33 : Array Oper := Code.ops c_towpathlaw16_FeedCloses_33
noncomputable def c_towpathlaw16_FeedCloses_35 : Code := Code.r c_towpathlaw16_FeedCloses_32
noncomputable def c_towpathlaw16_FeedCloses_36 : Code := Code.l c_towpathlaw16_FeedCloses_35
noncomputable def r_towpathlaw16_FeedCloses_36 : Array Oper := Code.ops c_towpathlaw16_FeedCloses_36
noncomputable def c_towpathlaw16_FeedCloses_38 : Code := Code.r c_towpathlaw16_FeedCloses_35
noncomputable def c_towpathlaw16_FeedCloses_39 : Code := Code.l c_towpathlaw16_FeedCloses_38
noncomputable def r_towpathlaw16_FeedCloses_39 : Array Oper := Code.ops c_towpathlaw16_FeedCloses_39
noncomputable def c_towpathlaw16_FeedCloses_41 : Code := Code.r c_towpathlaw16_FeedCloses_38
noncomputable def c_towpathlaw16_FeedCloses_42 : Code := Code.l c_towpathlaw16_FeedCloses_41
noncomputable def c_towpathlaw16_FeedCloses_43 : Code := Code.l c_towpathlaw16_FeedCloses_42
noncomputable def r_towpathlaw16_FeedCloses_43 : Array Oper := Code.ops c_towpathlaw16_FeedCloses_43
noncomputable def c_towpathlaw16_FeedCloses_45 : Code := Code.r c_towpathlaw16_FeedCloses_42
noncomputable def c_towpathlaw16_FeedCloses_46 : Code := Code.l c_towpathlaw16_FeedCloses_45
noncomputable def c_towpathlaw16_FeedCloses_47 : Code := Code.l c_towpathlaw16_FeedCloses_46
noncomputable def c_towpathlaw16_FeedCloses_48 : Code := Code.l c_towpathlaw16_FeedCloses_47
noncomputable def r_towpathlaw16_FeedCloses_48 : Array Oper := Code.ops c_towpathlaw16_FeedCloses_48
noncomputable def c_towpathlaw16_FeedCloses_50 : Code := Code.r c_towpathlaw16_FeedCloses_47
noncomputable def c_towpathlaw16_FeedCloses_51 : Code := Code.l c_towpathlaw16_FeedCloses_50
noncomputable def c_towpathlaw16_FeedCloses_52 : Code := Code.l c_towpathlaw16_FeedCloses_51
noncomputable def r_towpathlaw16_FeedCloses_52 : Array Oper := Code.ops c_towpathlaw16_FeedCloses_52
noncomputable def c_towpathlaw16_FeedCloses_54 : Code := Code.r c_towpathlaw16_FeedCloses_51
noncomputable def c_towpathlaw16_FeedCloses_55 : Code := Code.r c_towpathlaw16_FeedCloses_50
noncomputable def c_towpathlaw16_FeedCloses_56 : Code := Code.r c_towpathlaw16_FeedCloses_46
noncomputable def c_towpathlaw16_FeedCloses_57 : Code := Code.l c_towpathlaw16_FeedCloses_56
noncomputable def r_towpathlaw16_FeedCloses_57 : Array Oper := Code.ops c_towpathlaw16_FeedCloses_57
noncomputable def c_towpathlaw16_FeedCloses_59 : Code := Code.r c_towpathlaw16_FeedCloses_56
noncomputable def c_towpathlaw16_FeedCloses_60 : Code := Code.l c_towpathlaw16_FeedCloses_59
noncomputable def r_towpathlaw16_FeedCloses_60 : Array Oper := Code.ops c_towpathlaw16_FeedCloses_60
noncomputable def c_towpathlaw16_FeedCloses_62 : Code := Code.r c_towpathlaw16_FeedCloses_59
noncomputable def c_towpathlaw16_FeedCloses_63 : Code := Code.l c_towpathlaw16_FeedCloses_62
noncomputable def c_towpathlaw16_FeedCloses_64 : Code := Code.l c_towpathlaw16_FeedCloses_63
noncomputable def r_towpathlaw16_FeedCloses_64 : Array Oper := Code.ops c_towpathlaw16_FeedCloses_64
noncomputable def c_towpathlaw16_FeedCloses_66 : Code := Code.r c_towpathlaw16_FeedCloses_63
noncomputable def c_towpathlaw16_FeedCloses_67 : Code := Code.r c_towpathlaw16_FeedCloses_62
noncomputable def c_towpathlaw16_FeedCloses_68 : Code := Code.r c_towpathlaw16_FeedCloses_45
noncomputable def c_towpathlaw16_FeedCloses_69 : Code := Code.r c_towpathlaw16_FeedCloses_41
noncomputable def c_towpathlaw16_FeedCloses_70 : Code := Code.l c_towpathlaw16_FeedCloses_69
noncomputable def r_towpathlaw16_FeedCloses_70 : Array Oper := Code.ops c_towpathlaw16_FeedCloses_70
noncomputable def c_towpathlaw16_FeedCloses_72 : Code := Code.r c_towpathlaw16_FeedCloses_69
noncomputable def c_towpathlaw16_FeedCloses_73 : Code := Code.l c_towpathlaw16_FeedCloses_72
noncomputable def r_towpathlaw16_FeedCloses_73 : Array Oper := Code.ops c_towpathlaw16_FeedCloses_73
noncomputable def c_towpathlaw16_FeedCloses_75 : Code := Code.r c_towpathlaw16_FeedCloses_72
def o_towpathlaw16_FeedCloses_48 : List Nat := [0, 1, 2, 3, 5, 6, 7, 4, 8, 9, 10, 11, 12, 13, 14, 15, 16]

set_option maxRecDepth 100000 in
set_option maxHeartbeats 4000000 in
theorem S_towpathlaw16_FeedCloses {l_ : Slc} {m_ : T_towpathlaw16_Made} {w : World} {R : Bool → World → Prop} (h : F_towpathlaw16_FeedCloses l_ m_ R w) : C_towpathlaw16_FeedCloses l_ m_ w R := by
  unfold F_towpathlaw16_FeedCloses at h
  unfold C_towpathlaw16_FeedCloses
  refine Calls.mono (calls_of_wpE (args := [Value.slice l_.ptr l_.len l_.cap, Value.agg #[Value.int .i64 m_.Mark, Value.slice m_.Beyond.ptr m_.Beyond.len m_.Beyond.cap, Value.int .i64 m_.Window]]) (R := fun v w' => ∃ (r0 : Bool), v = Value.bool r0 ∧ R r0 w') Try.func3 (c := c_towpathlaw16_FeedCloses_0) (by kernel_rfl) 113 (by kernel_rfl) (by kernel_rfl) [(0, Value.slice l_.ptr l_.len l_.cap), (1, Value.agg #[Value.int .i64 m_.Mark, Value.slice m_.Beyond.ptr m_.Beyond.len m_.Beyond.cap, Value.int .i64 m_.Window])] (by kernel_rfl) ?_) ?_
  · refine wpE_seq (x := c_towpathlaw16_FeedCloses_1) (y := c_towpathlaw16_FeedCloses_3) (by kernel_rfl) ?_
    refine wpE_region (id := 0) (ops := r_towpathlaw16_FeedCloses_1) (by kernel_rfl) ?_
    refine reg_run [] 0 [(0, [], Value.slice l_.ptr l_.len l_.cap), (1, [], Value.agg #[Value.int .i64 m_.Mark, Value.slice m_.Beyond.ptr m_.Beyond.len m_.Beyond.cap, Value.int .i64 m_.Window])] (by kernel_rfl) (by kernel_rfl) ?_
    refine reg_new (op := (Go.Op.box 25 (Go.Operand.tmp 1))) (ty := 0) (dst := some 3) (fun bb => Value.pointer (some ⟨bb, 0, none⟩)) (Obj.cells ([Value.int .i64 m_.Mark, Value.slice m_.Beyond.ptr m_.Beyond.len m_.Beyond.cap, Value.int .i64 m_.Window]).toArray ty_towpathlaw16_Made (0, 0)) (by kernel_rfl) (by kernel_rfl) (fun b_ w1 hb hw => ?_)
    replace h := h b_ w1 hb hw
    clear hb hw
    refine reg_run [.plain] 2 [(0, [], Value.slice l_.ptr l_.len l_.cap), (3, [], Value.pointer (some ⟨b_, 0, none⟩))] (by kernel_rfl) (by kernel_rfl) ?_
    refine reg_end [(0, Value.slice l_.ptr l_.len l_.cap), (3, Value.pointer (some ⟨b_, 0, none⟩))] (by kernel_rfl) (by kernel_rfl) ?_
    change WpE _ _ c_towpathlaw16_FeedCloses_3 _ _ _
    refine wpE_seq (x := c_towpathlaw16_FeedCloses_4) (y := c_towpathlaw16_FeedCloses_6) (by kernel_rfl) ?_
    refine wpE_region (id := 1) (ops := r_towpathlaw16_FeedCloses_4) (by kernel_rfl) ?_
    refine reg_run [.plain] 1 [(0, [], Value.slice l_.ptr l_.len l_.cap), (3, [], Value.pointer (some ⟨b_, 0, none⟩)), (17, [], Value.slice l_.ptr l_.len l_.cap)] (by kernel_rfl) (by kernel_rfl) ?_
    obtain ⟨v18, hc, h⟩ := h
    refine reg_loadN (t := 25) (a := (Go.Operand.tmp 3)) (b := b_) (o := 0) (ty := 25) (dst := some 18) [Value.int .i64 v18.Mark, Value.slice v18.Beyond.ptr v18.Beyond.len v18.Beyond.cap, Value.int .i64 v18.Window] (by kernel_rfl) (by kernel_rfl) (by kernel_rfl) (k := 3) (by kernel_rfl) (by kernel_rfl) hc ?_
    refine reg_run [] 2 [(0, [], Value.slice l_.ptr l_.len l_.cap), (3, [], Value.pointer (some ⟨b_, 0, none⟩)), (17, [], Value.slice l_.ptr l_.len l_.cap), (18, [], Value.agg #[Value.int .i64 v18.Mark, Value.slice v18.Beyond.ptr v18.Beyond.len v18.Beyond.cap, Value.int .i64 v18.Window])] (by kernel_rfl) (by kernel_rfl) ?_
    refine reg_enter (op := (Go.Op.call (Go.Call.mk (Go.Callee.value (Go.Operand.func 11)) #[(Go.Operand.tmp 17), (Go.Operand.tmp 18)] #[22, 25]))) (ty := 29) (dst := some 19) 11 #[Value.slice l_.ptr l_.len l_.cap, Value.agg #[Value.int .i64 v18.Mark, Value.slice v18.Beyond.ptr v18.Beyond.len v18.Beyond.cap, Value.int .i64 v18.Window]] (by kernel_rfl) (fun ww => by kernel_rfl) (Calls.mono h ?_)
    rintro _ w2 ⟨f, v19_1, s, ok, rfl, h⟩
    refine ⟨_, rfl, ?_⟩
    refine reg_run [.plain, .plain, .plain, .plain, .plain, .plain, .plain, .plain, .plain] 12 [(0, [], Value.slice l_.ptr l_.len l_.cap), (3, [], Value.pointer (some ⟨b_, 0, none⟩)), (5, [], Value.pointer f), (7, [], Value.pointer s), (8, [], Value.bool ok)] (by kernel_rfl) (by kernel_rfl) ?_
    refine reg_end [(0, Value.slice l_.ptr l_.len l_.cap), (3, Value.pointer (some ⟨b_, 0, none⟩)), (5, Value.pointer f), (7, Value.pointer s), (8, Value.bool ok)] (by kernel_rfl) (by kernel_rfl) ?_
    change WpE _ _ c_towpathlaw16_FeedCloses_6 _ _ _
    refine wpE_seq (x := c_towpathlaw16_FeedCloses_7) (y := c_towpathlaw16_FeedCloses_16) (by kernel_rfl) ?_
    refine wpE_seq (x := c_towpathlaw16_FeedCloses_8) (y := c_towpathlaw16_FeedCloses_10) (by kernel_rfl) ?_
    refine wpE_region (id := 2) (ops := r_towpathlaw16_FeedCloses_8) (by kernel_rfl) ?_
    refine reg_run [.plain, .plain] 2 [(0, [], Value.slice l_.ptr l_.len l_.cap), (3, [], Value.pointer (some ⟨b_, 0, none⟩)), (5, [], Value.pointer f), (7, [], Value.pointer s), (25, [], Value.bool (!ok))] (by kernel_rfl) (by kernel_rfl) ?_
    refine reg_end [(0, Value.slice l_.ptr l_.len l_.cap), (3, Value.pointer (some ⟨b_, 0, none⟩)), (5, Value.pointer f), (7, Value.pointer s), (25, Value.bool (!ok))] (by kernel_rfl) (by kernel_rfl) ?_
    change WpE _ _ c_towpathlaw16_FeedCloses_10 _ _ _
    refine wpE_cond (o := (Operand.tmp 25)) (b := (!ok)) (x := c_towpathlaw16_FeedCloses_11) (y := c_towpathlaw16_FeedCloses_15) (by kernel_rfl) (by kernel_rfl) (fun hb => ?_) (fun hb => ?_)
    · replace h := h.1 hb
      refine wpE_seq (x := c_towpathlaw16_FeedCloses_12) (y := c_towpathlaw16_FeedCloses_14) (by kernel_rfl) ?_
      refine wpE_region (id := 3) (ops := r_towpathlaw16_FeedCloses_12) (by kernel_rfl) ?_
      refine reg_run [.plain] 1 [(4, [], Value.bool false)] (by kernel_rfl) (by kernel_rfl) ?_
      refine reg_end [(4, Value.bool false)] (by kernel_rfl) (by kernel_rfl) ?_
      change WpE _ _ c_towpathlaw16_FeedCloses_14 _ _ _
      refine wpE_ret (by kernel_rfl) ?_
      repeat (first | refine seqQ_ret ?_ | refine blockQ_ret ?_ | refine loopQ_ret ?_ | refine cutQ_ret ?_)
      exact retS (rs := [(Go.ResultVar.tmp 4)]) (v := Value.bool false) (by kernel_rfl) (⟨by kernel_rfl, trivial⟩) ⟨false, rfl, h⟩
    · replace h := h.2 hb
      refine wpE_skip (by kernel_rfl) ?_
      change WpE _ _ c_towpathlaw16_FeedCloses_16 _ _ _
      refine wpE_seq (x := c_towpathlaw16_FeedCloses_17) (y := c_towpathlaw16_FeedCloses_26) (by kernel_rfl) ?_
      refine wpE_seq (x := c_towpathlaw16_FeedCloses_18) (y := c_towpathlaw16_FeedCloses_20) (by kernel_rfl) ?_
      refine wpE_region (id := 4) (ops := r_towpathlaw16_FeedCloses_18) (by kernel_rfl) ?_
      refine reg_run [.plain] 1 [(0, [], Value.slice l_.ptr l_.len l_.cap), (3, [], Value.pointer (some ⟨b_, 0, none⟩)), (5, [], Value.pointer f), (7, [], Value.pointer s), (26, [], Value.pointer f)] (by kernel_rfl) (by kernel_rfl) ?_
      refine reg_val (op := (Go.Op.binOp Go.BinOp.eql 26 (Go.Operand.tmp 26) (Go.Operand.const (Go.Value.pointer none)) 26)) (ty := 4) (dst := some 27) (Value.bool f.isNone) (by kernel_rfl) (fun ww => run_ptr_eql_R (p := f) (by kernel_rfl) (by kernel_rfl) (by kernel_rfl) ww) ?_
      refine reg_end [(0, Value.slice l_.ptr l_.len l_.cap), (3, Value.pointer (some ⟨b_, 0, none⟩)), (5, Value.pointer f), (7, Value.pointer s), (27, Value.bool f.isNone)] (by kernel_rfl) (by kernel_rfl) ?_
      change WpE _ _ c_towpathlaw16_FeedCloses_20 _ _ _
      refine wpE_cond (o := (Operand.tmp 27)) (b := f.isNone) (x := c_towpathlaw16_FeedCloses_21) (y := c_towpathlaw16_FeedCloses_25) (by kernel_rfl) (by kernel_rfl) (fun hb => ?_) (fun hb => ?_)
      · replace h := h.1 hb
        refine wpE_seq (x := c_towpathlaw16_FeedCloses_22) (y := c_towpathlaw16_FeedCloses_24) (by kernel_rfl) ?_
        refine wpE_region (id := 5) (ops := r_towpathlaw16_FeedCloses_22) (by kernel_rfl) ?_
        refine reg_run [] 0 [] (by kernel_rfl) (by kernel_rfl) ?_
        refine reg_enter (op := (Go.Op.call (Go.Call.mk (Go.Callee.value (Go.Operand.func 12)) #[] #[]))) (ty := 4) (dst := some 28) 12 #[] (by kernel_rfl) (fun ww => by kernel_rfl) (Calls.mono h ?_)
        rintro _ w3 ⟨v28, rfl, h⟩
        refine ⟨_, rfl, ?_⟩
        refine reg_run [.plain] 2 [(4, [], Value.bool v28)] (by kernel_rfl) (by kernel_rfl) ?_
        refine reg_end [(4, Value.bool v28)] (by kernel_rfl) (by kernel_rfl) ?_
        change WpE _ _ c_towpathlaw16_FeedCloses_24 _ _ _
        refine wpE_ret (by kernel_rfl) ?_
        repeat (first | refine seqQ_ret ?_ | refine blockQ_ret ?_ | refine loopQ_ret ?_ | refine cutQ_ret ?_)
        exact retS (rs := [(Go.ResultVar.tmp 4)]) (v := Value.bool v28) (by kernel_rfl) (⟨by kernel_rfl, trivial⟩) ⟨v28, rfl, h⟩
      · replace h := h.2 hb
        refine wpE_skip (by kernel_rfl) ?_
        change WpE _ _ c_towpathlaw16_FeedCloses_26 _ _ _
        refine wpE_seq (x := c_towpathlaw16_FeedCloses_27) (y := c_towpathlaw16_FeedCloses_29) (by kernel_rfl) ?_
        refine wpE_region (id := 6) (ops := r_towpathlaw16_FeedCloses_27) (by kernel_rfl) ?_
        refine reg_run [.plain, .plain, .plain] 3 [(0, [], Value.slice l_.ptr l_.len l_.cap), (3, [], Value.pointer (some ⟨b_, 0, none⟩)), (5, [], Value.pointer f), (7, [], Value.pointer s), (29, [], Value.pointer f), (31, [], Value.int .i64 ((l_.len : Nat) : Int))] (by kernel_rfl) (by kernel_rfl) ?_
        refine reg_enter (op := (Go.Op.call (Go.Call.mk (Go.Callee.value (Go.Operand.func 13)) #[(Go.Operand.tmp 29), (Go.Operand.tmp 31)] #[26, 3]))) (ty := 32) (dst := some 32) 13 #[Value.pointer f, Value.int .i64 ((l_.len : Nat) : Int)] (by kernel_rfl) (fun ww => by kernel_rfl) (Calls.mono h ?_)
        rintro _ w4 ⟨v32, rfl, h⟩
        refine ⟨_, rfl, ?_⟩
        refine reg_end [(0, Value.slice l_.ptr l_.len l_.cap), (3, Value.pointer (some ⟨b_, 0, none⟩)), (5, Value.pointer f), (7, Value.pointer s)] (by kernel_rfl) (by kernel_rfl) ?_
        change WpE _ _ c_towpathlaw16_FeedCloses_29 _ _ _
        refine wpE_seq (x := c_towpathlaw16_FeedCloses_30) (y := c_towpathlaw16_FeedCloses_32) (by kernel_rfl) ?_
        refine wpE_region (id := 7) (ops := r_towpathlaw16_FeedCloses_30) (by kernel_rfl) ?_
        refine reg_run [.plain] 1 [(0, [], Value.slice l_.ptr l_.len l_.cap), (3, [], Value.pointer (some ⟨b_, 0, none⟩)), (5, [], Value.pointer f), (7, [], Value.pointer s), (34, [], Value.pointer f)] (by kernel_rfl) (by kernel_rfl) ?_
        refine reg_enter (op := (Go.Op.call (Go.Call.mk (Go.Callee.value (Go.Operand.func 14)) #[(Go.Operand.tmp 34)] #[26]))) (ty := 34) (dst := some 35) 14 #[Value.pointer f] (by kernel_rfl) (fun ww => by kernel_rfl) (Calls.mono h ?_)
        rintro _ w5 ⟨v35, e, rfl, h⟩
        refine ⟨_, rfl, ?_⟩
        refine reg_run [.plain, .plain, .plain, .plain, .plain] 7 [(0, [], Value.slice l_.ptr l_.len l_.cap), (3, [], Value.pointer (some ⟨b_, 0, none⟩)), (5, [], Value.pointer f), (7, [], Value.pointer s), (10, [], Value.int .i64 e)] (by kernel_rfl) (by kernel_rfl) ?_
        refine reg_end [(0, Value.slice l_.ptr l_.len l_.cap), (3, Value.pointer (some ⟨b_, 0, none⟩)), (5, Value.pointer f), (7, Value.pointer s), (10, Value.int .i64 e)] (by kernel_rfl) (by kernel_rfl) ?_
        change WpE _ _ c_towpathlaw16_FeedCloses_32 _ _ _
        refine wpE_seq (x := c_towpathlaw16_FeedCloses_33) (y := c_towpathlaw16_FeedCloses_35) (by kernel_rfl) ?_
        refine wpE_region (id := 8) (ops := r_towpathlaw16_FeedCloses_33) (by kernel_rfl) ?_
        refine reg_run [.plain] 1 [(0, [], Value.slice l_.ptr l_.len l_.cap), (3, [], Value.pointer (some ⟨b_, 0, none⟩)), (5, [], Value.pointer f), (7, [], Value.pointer s), (10, [], Value.int .i64 e), (38, [], Value.pointer f)] (by kernel_rfl) (by kernel_rfl) ?_
        refine reg_enter (op := (Go.Op.call (Go.Call.mk (Go.Callee.value (Go.Operand.func 15)) #[(Go.Operand.tmp 38)] #[26]))) (ty := 0) (dst := some 39) 15 #[Value.pointer f] (by kernel_rfl) (fun ww => by kernel_rfl) (Calls.mono h ?_)
        rintro _ w6 ⟨rfl, h⟩
        refine ⟨_, rfl, ?_⟩
        refine reg_end [(0, Value.slice l_.ptr l_.len l_.cap), (3, Value.pointer (some ⟨b_, 0, none⟩)), (5, Value.pointer f), (7, Value.pointer s), (10, Value.int .i64 e)] (by kernel_rfl) (by kernel_rfl) ?_
        change WpE _ _ c_towpathlaw16_FeedCloses_35 _ _ _
        refine wpE_seq (x := c_towpathlaw16_FeedCloses_36) (y := c_towpathlaw16_FeedCloses_38) (by kernel_rfl) ?_
        refine wpE_region (id := 9) (ops := r_towpathlaw16_FeedCloses_36) (by kernel_rfl) ?_
        refine reg_run [.plain] 1 [(0, [], Value.slice l_.ptr l_.len l_.cap), (3, [], Value.pointer (some ⟨b_, 0, none⟩)), (5, [], Value.pointer f), (7, [], Value.pointer s), (10, [], Value.int .i64 e), (40, [], Value.pointer s)] (by kernel_rfl) (by kernel_rfl) ?_
        refine reg_enter (op := (Go.Op.call (Go.Call.mk (Go.Callee.value (Go.Operand.func 16)) #[(Go.Operand.tmp 40)] #[28]))) (ty := 23) (dst := some 41) 16 #[Value.pointer s] (by kernel_rfl) (fun ww => by kernel_rfl) (Calls.mono h ?_)
        rintro _ w7 ⟨v41, rfl, h⟩
        refine ⟨_, rfl, ?_⟩
        refine reg_run [.plain, .plain] 4 [(0, [], Value.slice l_.ptr l_.len l_.cap), (3, [], Value.pointer (some ⟨b_, 0, none⟩)), (5, [], Value.pointer f), (7, [], Value.pointer s), (10, [], Value.int .i64 e), (11, [], Value.int .i64 ((v41.len : Nat) : Int))] (by kernel_rfl) (by kernel_rfl) ?_
        refine reg_end [(0, Value.slice l_.ptr l_.len l_.cap), (3, Value.pointer (some ⟨b_, 0, none⟩)), (5, Value.pointer f), (7, Value.pointer s), (10, Value.int .i64 e), (11, Value.int .i64 ((v41.len : Nat) : Int))] (by kernel_rfl) (by kernel_rfl) ?_
        change WpE _ _ c_towpathlaw16_FeedCloses_38 _ _ _
        refine wpE_seq (x := c_towpathlaw16_FeedCloses_39) (y := c_towpathlaw16_FeedCloses_41) (by kernel_rfl) ?_
        refine wpE_region (id := 10) (ops := r_towpathlaw16_FeedCloses_39) (by kernel_rfl) ?_
        refine reg_run [.plain] 1 [(0, [], Value.slice l_.ptr l_.len l_.cap), (3, [], Value.pointer (some ⟨b_, 0, none⟩)), (5, [], Value.pointer f), (7, [], Value.pointer s), (10, [], Value.int .i64 e), (11, [], Value.int .i64 ((v41.len : Nat) : Int)), (44, [], Value.pointer f)] (by kernel_rfl) (by kernel_rfl) ?_
        refine reg_enter (op := (Go.Op.call (Go.Call.mk (Go.Callee.value (Go.Operand.func 14)) #[(Go.Operand.tmp 44)] #[26]))) (ty := 34) (dst := some 45) 14 #[Value.pointer f] (by kernel_rfl) (fun ww => by kernel_rfl) (Calls.mono h ?_)
        rintro _ w8 ⟨v45, g, rfl, h⟩
        refine ⟨_, rfl, ?_⟩
        refine reg_run [.plain, .plain, .plain, .plain, .plain] 7 [(0, [], Value.slice l_.ptr l_.len l_.cap), (3, [], Value.pointer (some ⟨b_, 0, none⟩)), (5, [], Value.pointer f), (7, [], Value.pointer s), (10, [], Value.int .i64 e), (11, [], Value.int .i64 ((v41.len : Nat) : Int)), (13, [], Value.int .i64 g)] (by kernel_rfl) (by kernel_rfl) ?_
        refine reg_end [(0, Value.slice l_.ptr l_.len l_.cap), (3, Value.pointer (some ⟨b_, 0, none⟩)), (5, Value.pointer f), (7, Value.pointer s), (10, Value.int .i64 e), (11, Value.int .i64 ((v41.len : Nat) : Int)), (13, Value.int .i64 g)] (by kernel_rfl) (by kernel_rfl) ?_
        change WpE _ _ c_towpathlaw16_FeedCloses_41 _ _ _
        refine wpE_seq_cut (x := c_towpathlaw16_FeedCloses_42) (y := c_towpathlaw16_FeedCloses_69) (by kernel_rfl) (fun l w => l = [(0, Value.slice l_.ptr l_.len l_.cap), (5, Value.pointer f), (7, Value.pointer s), (11, Value.int .i64 ((v41.len : Nat) : Int))] ∧ F_towpathlaw16_FeedCloses_k0 l_ R f s v41 w) ?_ ?_
        · refine wpE_seq (x := c_towpathlaw16_FeedCloses_43) (y := c_towpathlaw16_FeedCloses_45) (by kernel_rfl) ?_
          refine wpE_region (id := 11) (ops := r_towpathlaw16_FeedCloses_43) (by kernel_rfl) ?_
          refine reg_run [.plain, .plain] 2 [(0, [], Value.slice l_.ptr l_.len l_.cap), (3, [], Value.pointer (some ⟨b_, 0, none⟩)), (5, [], Value.pointer f), (7, [], Value.pointer s), (11, [], Value.int .i64 ((v41.len : Nat) : Int)), (13, [], Value.int .i64 g), (49, [], Value.bool (e == 0))] (by kernel_rfl) (by kernel_rfl) ?_
          refine reg_end [(0, Value.slice l_.ptr l_.len l_.cap), (3, Value.pointer (some ⟨b_, 0, none⟩)), (5, Value.pointer f), (7, Value.pointer s), (11, Value.int .i64 ((v41.len : Nat) : Int)), (13, Value.int .i64 g), (49, Value.bool (e == 0))] (by kernel_rfl) (by kernel_rfl) ?_
          change WpE _ _ c_towpathlaw16_FeedCloses_45 _ _ _
          refine wpE_cond (o := (Operand.tmp 49)) (b := (e == 0)) (x := c_towpathlaw16_FeedCloses_46) (y := c_towpathlaw16_FeedCloses_68) (by kernel_rfl) (by kernel_rfl) (fun hb => ?_) (fun hb => ?_)
          · replace h := h.1 hb
            refine wpE_seq (x := c_towpathlaw16_FeedCloses_47) (y := c_towpathlaw16_FeedCloses_56) (by kernel_rfl) ?_
            refine wpE_seq_cut (x := c_towpathlaw16_FeedCloses_48) (y := c_towpathlaw16_FeedCloses_50) (by kernel_rfl) (fun l w => ∃ (t66 : Bool), l = [(0, Value.slice l_.ptr l_.len l_.cap), (3, Value.pointer (some ⟨b_, 0, none⟩)), (5, Value.pointer f), (7, Value.pointer s), (11, Value.int .i64 ((v41.len : Nat) : Int)), (66, Value.bool t66)] ∧ F_towpathlaw16_FeedCloses_k1 l_ R b_ f s v41 t66 w) ?_ ?_
            · refine wpE_mixregion (id := 12) (ops := r_towpathlaw16_FeedCloses_48) o_towpathlaw16_FeedCloses_48 (by kernel_rfl) (by kernel_rfl) (by kernel_rfl) (by kernel_rfl) (fun w20 hw => ?_)
              replace h := h w20 hw
              clear hw
              refine mreg_run [.plain, .plain, .plain, .plain, .plain] 5 [(0, [], Value.slice l_.ptr l_.len l_.cap), (3, [], Value.pointer (some ⟨b_, 0, none⟩)), (5, [], Value.pointer f), (7, [], Value.pointer s), (11, [], Value.int .i64 ((v41.len : Nat) : Int)), (52, [], Value.bool (g != 10)), (53, [(52, false)], Value.pointer f), (55, [(52, false)], Value.pointer (some ⟨b_, 0, none⟩))] (by kernel_rfl) (by kernel_rfl) ?_
              refine mreg_split 52 (g != 10) (by kernel_rfl) (fun hb => ?_) (fun hb => ?_)
              · replace h := h.1 hb
                refine mreg_run [] 5 [(0, [], Value.slice l_.ptr l_.len l_.cap), (3, [], Value.pointer (some ⟨b_, 0, none⟩)), (5, [], Value.pointer f), (7, [], Value.pointer s), (11, [], Value.int .i64 ((v41.len : Nat) : Int)), (52, [], Value.bool true), (53, [], undef), (55, [], undef)] (by kernel_rfl) (by kernel_rfl) ?_
                refine mreg_run [.skip, .skip, .skip, .skip, .plain, .plain, .skip, .skip, .skip, .skip, .skip, .plain] 17 [(0, [], Value.slice l_.ptr l_.len l_.cap), (3, [], Value.pointer (some ⟨b_, 0, none⟩)), (5, [], Value.pointer f), (7, [], Value.pointer s), (11, [], Value.int .i64 ((v41.len : Nat) : Int)), (66, [], Value.bool true)] (by kernel_rfl) (by kernel_rfl) ?_
                refine mreg_end [(0, Value.slice l_.ptr l_.len l_.cap), (3, Value.pointer (some ⟨b_, 0, none⟩)), (5, Value.pointer f), (7, Value.pointer s), (11, Value.int .i64 ((v41.len : Nat) : Int)), (66, Value.bool true)] (by kernel_rfl) (by kernel_rfl) (by kernel_rfl) ?_
                exact ⟨[(0, Value.slice l_.ptr l_.len l_.cap), (3, Value.pointer (some ⟨b_, 0, none⟩)), (5, Value.pointer f), (7, Value.pointer s), (11, Value.int .i64 ((v41.len : Nat) : Int)), (66, Value.bool true)], Sub.mk (by kernel_rfl), true, rfl, h⟩
              · replace h := h.2 hb
                refine mreg_run [] 5 [(0, [], Value.slice l_.ptr l_.len l_.cap), (3, [], Value.pointer (some ⟨b_, 0, none⟩)), (5, [], Value.pointer f), (7, [], Value.pointer s), (11, [], Value.int .i64 ((v41.len : Nat) : Int)), (52, [], Value.bool false), (53, [], Value.pointer f), (55, [], Value.pointer (some ⟨b_, 0, none⟩))] (by kernel_rfl) (by kernel_rfl) ?_
                refine mreg_run [] 5 [(0, [], Value.slice l_.ptr l_.len l_.cap), (3, [], Value.pointer (some ⟨b_, 0, none⟩)), (5, [], Value.pointer f), (7, [], Value.pointer s), (11, [], Value.int .i64 ((v41.len : Nat) : Int)), (52, [], Value.bool false), (53, [], Value.pointer f), (55, [], Value.pointer (some ⟨b_, 0, none⟩))] (by kernel_rfl) (by kernel_rfl) ?_
                obtain ⟨v56, hc, h⟩ := h
                refine mreg_load1 (i := 6) (by kernel_rfl) (t := 3) (a := (Go.Operand.tmp 55)) (b := b_) (o := 0) (ty := 3) (dst := some 56) (by kernel_rfl) (by kernel_rfl) (by kernel_rfl) hc ?_
                refine mreg_run [.sure] 7 [(0, [], Value.slice l_.ptr l_.len l_.cap), (3, [], Value.pointer (some ⟨b_, 0, none⟩)), (5, [], Value.pointer f), (7, [], Value.pointer s), (11, [], Value.int .i64 ((v41.len : Nat) : Int)), (52, [], Value.bool false), (53, [], Value.pointer f), (57, [], Value.int .i64 (IntKind.i64.wrap (v56 + 1)))] (by kernel_rfl) (by kernel_rfl) ?_
                refine mreg_enter (op := (Go.Op.call (Go.Call.mk (Go.Callee.value (Go.Operand.func 17)) #[(Go.Operand.tmp 53)] #[26]))) (ty := 3) (dst := some 54) 4 [2, 3, 1, 0] [(6, fun w' => w'.cell? ⟨b_, 0, none⟩ = some (Value.int .i64 v56))] 17 #[Value.pointer f] (by kernel_rfl) (by kernel_rfl) (by kernel_rfl) (by kernel_rfl) (by kernel_rfl) (fun ww => by kernel_rfl) (Calls.mono h ?_)
                rintro _ w21 ⟨v54, rfl, h⟩
                obtain ⟨hk0, h⟩ := h
                refine ⟨_, rfl, ⟨hk0, trivial⟩, ?_⟩
                refine mreg_run [.sure, .plain, .plain, .plain, .plain, .plain] 14 [(0, [], Value.slice l_.ptr l_.len l_.cap), (3, [], Value.pointer (some ⟨b_, 0, none⟩)), (5, [], Value.pointer f), (7, [], Value.pointer s), (11, [], Value.int .i64 ((v41.len : Nat) : Int)), (60, [], Value.bool (v54 != (IntKind.i64.wrap (v56 + 1)))), (61, [(60, false)], Value.pointer f), (63, [(60, false)], Value.int .i64 ((l_.len : Nat) : Int))] (by kernel_rfl) (by kernel_rfl) ?_
                refine mreg_split 60 (v54 != (IntKind.i64.wrap (v56 + 1))) (by kernel_rfl) (fun hb => ?_) (fun hb => ?_)
                · replace h := h.1 hb
                  refine mreg_run [] 14 [(0, [], Value.slice l_.ptr l_.len l_.cap), (3, [], Value.pointer (some ⟨b_, 0, none⟩)), (5, [], Value.pointer f), (7, [], Value.pointer s), (11, [], Value.int .i64 ((v41.len : Nat) : Int)), (60, [], Value.bool true), (61, [], undef), (63, [], undef)] (by kernel_rfl) (by kernel_rfl) ?_
                  refine mreg_run [.skip, .skip, .plain] 17 [(0, [], Value.slice l_.ptr l_.len l_.cap), (3, [], Value.pointer (some ⟨b_, 0, none⟩)), (5, [], Value.pointer f), (7, [], Value.pointer s), (11, [], Value.int .i64 ((v41.len : Nat) : Int)), (66, [], Value.bool true)] (by kernel_rfl) (by kernel_rfl) ?_
                  refine mreg_end [(0, Value.slice l_.ptr l_.len l_.cap), (3, Value.pointer (some ⟨b_, 0, none⟩)), (5, Value.pointer f), (7, Value.pointer s), (11, Value.int .i64 ((v41.len : Nat) : Int)), (66, Value.bool true)] (by kernel_rfl) (by kernel_rfl) (by kernel_rfl) ?_
                  exact ⟨[(0, Value.slice l_.ptr l_.len l_.cap), (3, Value.pointer (some ⟨b_, 0, none⟩)), (5, Value.pointer f), (7, Value.pointer s), (11, Value.int .i64 ((v41.len : Nat) : Int)), (66, Value.bool true)], Sub.mk (by kernel_rfl), true, rfl, h⟩
                · replace h := h.2 hb
                  refine mreg_run [] 14 [(0, [], Value.slice l_.ptr l_.len l_.cap), (3, [], Value.pointer (some ⟨b_, 0, none⟩)), (5, [], Value.pointer f), (7, [], Value.pointer s), (11, [], Value.int .i64 ((v41.len : Nat) : Int)), (60, [], Value.bool false), (61, [], Value.pointer f), (63, [], Value.int .i64 ((l_.len : Nat) : Int))] (by kernel_rfl) (by kernel_rfl) ?_
                  refine mreg_run [] 14 [(0, [], Value.slice l_.ptr l_.len l_.cap), (3, [], Value.pointer (some ⟨b_, 0, none⟩)), (5, [], Value.pointer f), (7, [], Value.pointer s), (11, [], Value.int .i64 ((v41.len : Nat) : Int)), (60, [], Value.bool false), (61, [], Value.pointer f), (63, [], Value.int .i64 ((l_.len : Nat) : Int))] (by kernel_rfl) (by kernel_rfl) ?_
                  refine mreg_enter (op := (Go.Op.call (Go.Call.mk (Go.Callee.value (Go.Operand.func 18)) #[(Go.Operand.tmp 61), (Go.Operand.tmp 63)] #[26, 3]))) (ty := 38) (dst := some 64) 14 [10, 11, 13, 4, 9, 12, 2, 3, 8, 1, 7, 0, 6, 5] [] 18 #[Value.pointer f, Value.int .i64 ((l_.len : Nat) : Int)] (by kernel_rfl) (by kernel_rfl) (by kernel_rfl) (by kernel_rfl) (by kernel_rfl) (fun ww => by kernel_rfl) (Calls.mono h ?_)
                  rintro _ w22 ⟨v64, rfl, h⟩
                  refine ⟨_, rfl, trivial, ?_⟩
                  refine mreg_run [.sure, .plain] 17 [(0, [], Value.slice l_.ptr l_.len l_.cap), (3, [], Value.pointer (some ⟨b_, 0, none⟩)), (5, [], Value.pointer f), (7, [], Value.pointer s), (11, [], Value.int .i64 ((v41.len : Nat) : Int)), (66, [], Value.bool (v64 != 3))] (by kernel_rfl) (by kernel_rfl) ?_
                  refine mreg_end [(0, Value.slice l_.ptr l_.len l_.cap), (3, Value.pointer (some ⟨b_, 0, none⟩)), (5, Value.pointer f), (7, Value.pointer s), (11, Value.int .i64 ((v41.len : Nat) : Int)), (66, Value.bool (v64 != 3))] (by kernel_rfl) (by kernel_rfl) (by kernel_rfl) ?_
                  exact ⟨[(0, Value.slice l_.ptr l_.len l_.cap), (3, Value.pointer (some ⟨b_, 0, none⟩)), (5, Value.pointer f), (7, Value.pointer s), (11, Value.int .i64 ((v41.len : Nat) : Int)), (66, Value.bool (v64 != 3))], Sub.mk (by kernel_rfl), (v64 != 3), rfl, h⟩
            · rintro _ w15 ⟨t66, rfl, h⟩
              unfold F_towpathlaw16_FeedCloses_k1 at h
              refine wpE_cond (o := (Operand.tmp 66)) (b := t66) (x := c_towpathlaw16_FeedCloses_51) (y := c_towpathlaw16_FeedCloses_55) (by kernel_rfl) (by kernel_rfl) (fun hb => ?_) (fun hb => ?_)
              · replace h := h.1 hb
                refine wpE_seq (x := c_towpathlaw16_FeedCloses_52) (y := c_towpathlaw16_FeedCloses_54) (by kernel_rfl) ?_
                refine wpE_region (id := 13) (ops := r_towpathlaw16_FeedCloses_52) (by kernel_rfl) ?_
                refine reg_run [.plain] 1 [(4, [], Value.bool false)] (by kernel_rfl) (by kernel_rfl) ?_
                refine reg_end [(4, Value.bool false)] (by kernel_rfl) (by kernel_rfl) ?_
                change WpE _ _ c_towpathlaw16_FeedCloses_54 _ _ _
                refine wpE_ret (by kernel_rfl) ?_
                repeat (first | refine seqQ_ret ?_ | refine blockQ_ret ?_ | refine loopQ_ret ?_ | refine cutQ_ret ?_)
                exact retS (rs := [(Go.ResultVar.tmp 4)]) (v := Value.bool false) (by kernel_rfl) (⟨by kernel_rfl, trivial⟩) ⟨false, rfl, h⟩
              · replace h := h.2 hb
                refine wpE_skip (by kernel_rfl) ?_
                change WpE _ _ c_towpathlaw16_FeedCloses_56 _ _ _
                refine wpE_seq (x := c_towpathlaw16_FeedCloses_57) (y := c_towpathlaw16_FeedCloses_59) (by kernel_rfl) ?_
                refine wpE_region (id := 14) (ops := r_towpathlaw16_FeedCloses_57) (by kernel_rfl) ?_
                refine reg_run [.plain, .plain, .plain] 3 [(0, [], Value.slice l_.ptr l_.len l_.cap), (3, [], Value.pointer (some ⟨b_, 0, none⟩)), (5, [], Value.pointer f), (7, [], Value.pointer s), (11, [], Value.int .i64 ((v41.len : Nat) : Int)), (68, [], Value.pointer f), (70, [], Value.int .i64 ((l_.len : Nat) : Int))] (by kernel_rfl) (by kernel_rfl) ?_
                refine reg_enter (op := (Go.Op.call (Go.Call.mk (Go.Callee.value (Go.Operand.func 19)) #[(Go.Operand.tmp 68), (Go.Operand.tmp 70)] #[26, 3]))) (ty := 43) (dst := some 71) 19 #[Value.pointer f, Value.int .i64 ((l_.len : Nat) : Int)] (by kernel_rfl) (fun ww => by kernel_rfl) (Calls.mono h ?_)
                rintro _ w16 ⟨v71, bad, rfl, h⟩
                refine ⟨_, rfl, ?_⟩
                refine reg_run [.plain, .plain, .plain] 7 [(0, [], Value.slice l_.ptr l_.len l_.cap), (3, [], Value.pointer (some ⟨b_, 0, none⟩)), (5, [], Value.pointer f), (7, [], Value.pointer s), (11, [], Value.int .i64 ((v41.len : Nat) : Int)), (72, [], Value.agg #[Value.int .i64 v71.Number, Value.slice v71.Writes.ptr v71.Writes.len v71.Writes.cap]), (73, [], Value.int .i64 bad)] (by kernel_rfl) (by kernel_rfl) ?_
                refine reg_new (op := (Go.Op.alloc 42)) (ty := 0) (dst := some 14) (fun bb => Value.pointer (some ⟨bb, 0, none⟩)) (Obj.cells ([Value.int .i64 0, Value.slice none 0 0]).toArray ty_api_Txn (0, 0)) (by kernel_rfl) (by kernel_rfl) (fun b_1 w17 hb hw => ?_)
                replace h := h b_1 w17 hb hw
                clear hb hw
                refine reg_run [] 8 [(0, [], Value.slice l_.ptr l_.len l_.cap), (3, [], Value.pointer (some ⟨b_, 0, none⟩)), (5, [], Value.pointer f), (7, [], Value.pointer s), (11, [], Value.int .i64 ((v41.len : Nat) : Int)), (14, [], Value.pointer (some ⟨b_1, 0, none⟩)), (72, [], Value.agg #[Value.int .i64 v71.Number, Value.slice v71.Writes.ptr v71.Writes.len v71.Writes.cap]), (73, [], Value.int .i64 bad)] (by kernel_rfl) (by kernel_rfl) ?_
                obtain ⟨hc, h⟩ := h
                refine reg_store (t := 42) (a := (Go.Operand.tmp 14)) (x := (Go.Operand.tmp 72)) (b := b_1) (o := 0) (ty := 0) (dst := none) [Value.int .i64 v71.Number, Value.slice v71.Writes.ptr v71.Writes.len v71.Writes.cap] (by kernel_rfl) (by kernel_rfl) (by kernel_rfl) (k := 2) (by kernel_rfl) (by kernel_rfl) (by kernel_rfl) hc (fun w18 hw => ?_)
                replace h := h w18 hw
                clear hw
                refine reg_run [.plain] 10 [(0, [], Value.slice l_.ptr l_.len l_.cap), (3, [], Value.pointer (some ⟨b_, 0, none⟩)), (5, [], Value.pointer f), (7, [], Value.pointer s), (11, [], Value.int .i64 ((v41.len : Nat) : Int)), (14, [], Value.pointer (some ⟨b_1, 0, none⟩)), (15, [], Value.int .i64 bad)] (by kernel_rfl) (by kernel_rfl) ?_
                refine reg_end [(0, Value.slice l_.ptr l_.len l_.cap), (3, Value.pointer (some ⟨b_, 0, none⟩)), (5, Value.pointer f), (7, Value.pointer s), (11, Value.int .i64 ((v41.len : Nat) : Int)), (14, Value.pointer (some ⟨b_1, 0, none⟩)), (15, Value.int .i64 bad)] (by kernel_rfl) (by kernel_rfl) ?_
                change WpE _ _ c_towpathlaw16_FeedCloses_59 _ _ _
                refine wpE_seq_cut (x := c_towpathlaw16_FeedCloses_60) (y := c_towpathlaw16_FeedCloses_62) (by kernel_rfl) (fun l w => ∃ (t83 : Bool), l = [(0, Value.slice l_.ptr l_.len l_.cap), (5, Value.pointer f), (7, Value.pointer s), (11, Value.int .i64 ((v41.len : Nat) : Int)), (83, Value.bool t83)] ∧ F_towpathlaw16_FeedCloses_k2 l_ R f s v41 t83 w) ?_ ?_
                · refine wpE_region (id := 15) (ops := r_towpathlaw16_FeedCloses_60) (by kernel_rfl) ?_
                  refine reg_run [.plain, .plain, .plain, .plain] 4 [(0, [], Value.slice l_.ptr l_.len l_.cap), (3, [], Value.pointer (some ⟨b_, 0, none⟩)), (5, [], Value.pointer f), (7, [], Value.pointer s), (11, [], Value.int .i64 ((v41.len : Nat) : Int)), (76, [], Value.bool (bad != 0)), (77, [(76, false)], Value.pointer (some ⟨b_1, 0, none⟩))] (by kernel_rfl) (by kernel_rfl) ?_
                  refine reg_split 76 (bad != 0) (by kernel_rfl) (fun hb => ?_) (fun hb => ?_)
                  · replace h := h.1 hb
                    refine reg_run [] 4 [(0, [], Value.slice l_.ptr l_.len l_.cap), (3, [], Value.pointer (some ⟨b_, 0, none⟩)), (5, [], Value.pointer f), (7, [], Value.pointer s), (11, [], Value.int .i64 ((v41.len : Nat) : Int)), (76, [], Value.bool true), (77, [], undef)] (by kernel_rfl) (by kernel_rfl) ?_
                    refine reg_run [.skip, .skip, .skip, .skip, .skip, .plain] 10 [(0, [], Value.slice l_.ptr l_.len l_.cap), (5, [], Value.pointer f), (7, [], Value.pointer s), (11, [], Value.int .i64 ((v41.len : Nat) : Int)), (83, [], Value.bool true)] (by kernel_rfl) (by kernel_rfl) ?_
                    refine reg_end [(0, Value.slice l_.ptr l_.len l_.cap), (5, Value.pointer f), (7, Value.pointer s), (11, Value.int .i64 ((v41.len : Nat) : Int)), (83, Value.bool true)] (by kernel_rfl) (by kernel_rfl) ?_
                    exact ⟨[(0, Value.slice l_.ptr l_.len l_.cap), (5, Value.pointer f), (7, Value.pointer s), (11, Value.int .i64 ((v41.len : Nat) : Int)), (83, Value.bool true)], Sub.mk (by kernel_rfl), true, rfl, h⟩
                  · replace h := h.2 hb
                    refine reg_run [] 4 [(0, [], Value.slice l_.ptr l_.len l_.cap), (3, [], Value.pointer (some ⟨b_, 0, none⟩)), (5, [], Value.pointer f), (7, [], Value.pointer s), (11, [], Value.int .i64 ((v41.len : Nat) : Int)), (76, [], Value.bool false), (77, [], Value.pointer (some ⟨b_1, 0, none⟩))] (by kernel_rfl) (by kernel_rfl) ?_
                    refine reg_run [] 4 [(0, [], Value.slice l_.ptr l_.len l_.cap), (3, [], Value.pointer (some ⟨b_, 0, none⟩)), (5, [], Value.pointer f), (7, [], Value.pointer s), (11, [], Value.int .i64 ((v41.len : Nat) : Int)), (76, [], Value.bool false), (77, [], Value.pointer (some ⟨b_1, 0, none⟩))] (by kernel_rfl) (by kernel_rfl) ?_
                    obtain ⟨v78, hc, h⟩ := h
                    refine reg_load1 (t := 3) (a := (Go.Operand.tmp 77)) (b := b_1) (o := 0) (ty := 3) (dst := some 78) (by kernel_rfl) (by kernel_rfl) (by kernel_rfl) hc ?_
                    refine reg_run [.sure] 6 [(0, [], Value.slice l_.ptr l_.len l_.cap), (5, [], Value.pointer f), (7, [], Value.pointer s), (11, [], Value.int .i64 ((v41.len : Nat) : Int)), (76, [], Value.bool false), (78, [], Value.int .i64 v78), (79, [], Value.pointer (some ⟨b_, 0, none⟩))] (by kernel_rfl) (by kernel_rfl) ?_
                    obtain ⟨v80, hc, h⟩ := h
                    refine reg_load1 (t := 3) (a := (Go.Operand.tmp 79)) (b := b_) (o := 0) (ty := 3) (dst := some 80) (by kernel_rfl) (by kernel_rfl) (by kernel_rfl) hc ?_
                    refine reg_run [.sure, .sure, .plain] 10 [(0, [], Value.slice l_.ptr l_.len l_.cap), (5, [], Value.pointer f), (7, [], Value.pointer s), (11, [], Value.int .i64 ((v41.len : Nat) : Int)), (83, [], Value.bool (v78 != (IntKind.i64.wrap (v80 + 1))))] (by kernel_rfl) (by kernel_rfl) ?_
                    refine reg_end [(0, Value.slice l_.ptr l_.len l_.cap), (5, Value.pointer f), (7, Value.pointer s), (11, Value.int .i64 ((v41.len : Nat) : Int)), (83, Value.bool (v78 != (IntKind.i64.wrap (v80 + 1))))] (by kernel_rfl) (by kernel_rfl) ?_
                    exact ⟨[(0, Value.slice l_.ptr l_.len l_.cap), (5, Value.pointer f), (7, Value.pointer s), (11, Value.int .i64 ((v41.len : Nat) : Int)), (83, Value.bool (v78 != (IntKind.i64.wrap (v80 + 1))))], Sub.mk (by kernel_rfl), (v78 != (IntKind.i64.wrap (v80 + 1))), rfl, h⟩
                · rintro _ w19 ⟨t83, rfl, h⟩
                  unfold F_towpathlaw16_FeedCloses_k2 at h
                  refine wpE_cond (o := (Operand.tmp 83)) (b := t83) (x := c_towpathlaw16_FeedCloses_63) (y := c_towpathlaw16_FeedCloses_67) (by kernel_rfl) (by kernel_rfl) (fun hb => ?_) (fun hb => ?_)
                  · replace h := h.1 hb
                    refine wpE_seq (x := c_towpathlaw16_FeedCloses_64) (y := c_towpathlaw16_FeedCloses_66) (by kernel_rfl) ?_
                    refine wpE_region (id := 16) (ops := r_towpathlaw16_FeedCloses_64) (by kernel_rfl) ?_
                    refine reg_run [.plain] 1 [(4, [], Value.bool false)] (by kernel_rfl) (by kernel_rfl) ?_
                    refine reg_end [(4, Value.bool false)] (by kernel_rfl) (by kernel_rfl) ?_
                    change WpE _ _ c_towpathlaw16_FeedCloses_66 _ _ _
                    refine wpE_ret (by kernel_rfl) ?_
                    repeat (first | refine seqQ_ret ?_ | refine blockQ_ret ?_ | refine loopQ_ret ?_ | refine cutQ_ret ?_)
                    exact retS (rs := [(Go.ResultVar.tmp 4)]) (v := Value.bool false) (by kernel_rfl) (⟨by kernel_rfl, trivial⟩) ⟨false, rfl, h⟩
                  · replace h := h.2 hb
                    refine wpE_skip (by kernel_rfl) ?_
                    exact ⟨[(0, Value.slice l_.ptr l_.len l_.cap), (5, Value.pointer f), (7, Value.pointer s), (11, Value.int .i64 ((v41.len : Nat) : Int))], Sub.mk (by kernel_rfl), rfl, h⟩
          · replace h := h.2 hb
            refine wpE_skip (by kernel_rfl) ?_
            exact ⟨[(0, Value.slice l_.ptr l_.len l_.cap), (5, Value.pointer f), (7, Value.pointer s), (11, Value.int .i64 ((v41.len : Nat) : Int))], Sub.mk (by kernel_rfl), rfl, h⟩
        · rintro _ w9 ⟨rfl, h⟩
          unfold F_towpathlaw16_FeedCloses_k0 at h
          refine wpE_seq (x := c_towpathlaw16_FeedCloses_70) (y := c_towpathlaw16_FeedCloses_72) (by kernel_rfl) ?_
          refine wpE_region (id := 17) (ops := r_towpathlaw16_FeedCloses_70) (by kernel_rfl) ?_
          refine reg_run [.plain] 1 [(0, [], Value.slice l_.ptr l_.len l_.cap), (5, [], Value.pointer f), (7, [], Value.pointer s), (11, [], Value.int .i64 ((v41.len : Nat) : Int)), (85, [], Value.pointer f)] (by kernel_rfl) (by kernel_rfl) ?_
          refine reg_enter (op := (Go.Op.call (Go.Call.mk (Go.Callee.value (Go.Operand.func 14)) #[(Go.Operand.tmp 85)] #[26]))) (ty := 34) (dst := some 86) 14 #[Value.pointer f] (by kernel_rfl) (fun ww => by kernel_rfl) (Calls.mono h ?_)
          rintro _ w10 ⟨v86, g1, rfl, h⟩
          refine ⟨_, rfl, ?_⟩
          refine reg_run [.plain, .plain, .plain, .plain] 6 [(0, [], Value.slice l_.ptr l_.len l_.cap), (5, [], Value.pointer f), (7, [], Value.pointer s), (11, [], Value.int .i64 ((v41.len : Nat) : Int)), (13, [], Value.int .i64 g1)] (by kernel_rfl) (by kernel_rfl) ?_
          refine reg_end [(0, Value.slice l_.ptr l_.len l_.cap), (5, Value.pointer f), (7, Value.pointer s), (11, Value.int .i64 ((v41.len : Nat) : Int)), (13, Value.int .i64 g1)] (by kernel_rfl) (by kernel_rfl) ?_
          change WpE _ _ c_towpathlaw16_FeedCloses_72 _ _ _
          refine wpE_seq (x := c_towpathlaw16_FeedCloses_73) (y := c_towpathlaw16_FeedCloses_75) (by kernel_rfl) ?_
          refine wpE_region (id := 18) (ops := r_towpathlaw16_FeedCloses_73) (by kernel_rfl) ?_
          refine reg_run [.plain, .plain, .plain, .plain, .plain, .plain] 6 [(5, [], Value.pointer f), (7, [], Value.pointer s), (11, [], Value.int .i64 ((v41.len : Nat) : Int)), (91, [], Value.bool (g1 == 12)), (92, [(91, true)], Value.pointer f), (94, [(91, true)], Value.int .i64 ((l_.len : Nat) : Int))] (by kernel_rfl) (by kernel_rfl) ?_
          refine reg_split 91 (g1 == 12) (by kernel_rfl) (fun hb => ?_) (fun hb => ?_)
          · replace h := h.1 hb
            refine reg_run [] 6 [(5, [], Value.pointer f), (7, [], Value.pointer s), (11, [], Value.int .i64 ((v41.len : Nat) : Int)), (91, [], Value.bool true), (92, [], Value.pointer f), (94, [], Value.int .i64 ((l_.len : Nat) : Int))] (by kernel_rfl) (by kernel_rfl) ?_
            refine reg_run [] 6 [(5, [], Value.pointer f), (7, [], Value.pointer s), (11, [], Value.int .i64 ((v41.len : Nat) : Int)), (91, [], Value.bool true), (92, [], Value.pointer f), (94, [], Value.int .i64 ((l_.len : Nat) : Int))] (by kernel_rfl) (by kernel_rfl) ?_
            refine reg_enter (op := (Go.Op.call (Go.Call.mk (Go.Callee.value (Go.Operand.func 18)) #[(Go.Operand.tmp 92), (Go.Operand.tmp 94)] #[26, 3]))) (ty := 38) (dst := some 95) 18 #[Value.pointer f, Value.int .i64 ((l_.len : Nat) : Int)] (by kernel_rfl) (fun ww => by kernel_rfl) (Calls.mono h ?_)
            rintro _ w11 ⟨v95, rfl, h⟩
            refine ⟨_, rfl, ?_⟩
            refine reg_run [.sure, .plain, .plain, .plain] 11 [(5, [], Value.pointer f), (11, [], Value.int .i64 ((v41.len : Nat) : Int)), (98, [], Value.bool (v95 == 0)), (99, [(98, true)], Value.pointer s)] (by kernel_rfl) (by kernel_rfl) ?_
            refine reg_split 98 (v95 == 0) (by kernel_rfl) (fun hb => ?_) (fun hb => ?_)
            · replace h := h.1 hb
              refine reg_run [] 11 [(5, [], Value.pointer f), (11, [], Value.int .i64 ((v41.len : Nat) : Int)), (98, [], Value.bool true), (99, [], Value.pointer s)] (by kernel_rfl) (by kernel_rfl) ?_
              refine reg_run [] 11 [(5, [], Value.pointer f), (11, [], Value.int .i64 ((v41.len : Nat) : Int)), (98, [], Value.bool true), (99, [], Value.pointer s)] (by kernel_rfl) (by kernel_rfl) ?_
              refine reg_enter (op := (Go.Op.call (Go.Call.mk (Go.Callee.value (Go.Operand.func 16)) #[(Go.Operand.tmp 99)] #[28]))) (ty := 23) (dst := some 100) 16 #[Value.pointer s] (by kernel_rfl) (fun ww => by kernel_rfl) (Calls.mono h ?_)
              rintro _ w12 ⟨v100, rfl, h⟩
              refine ⟨_, rfl, ?_⟩
              refine reg_run [.sure, .sure, .sure, .plain, .plain, .plain] 18 [(105, [], Value.bool (((v100.len : Nat) : Int) == ((v41.len : Nat) : Int))), (106, [(105, true)], Value.pointer f)] (by kernel_rfl) (by kernel_rfl) ?_
              refine reg_split 105 (((v100.len : Nat) : Int) == ((v41.len : Nat) : Int)) (by kernel_rfl) (fun hb => ?_) (fun hb => ?_)
              · replace h := h.1 hb
                refine reg_run [] 18 [(105, [], Value.bool true), (106, [], Value.pointer f)] (by kernel_rfl) (by kernel_rfl) ?_
                refine reg_run [] 18 [(105, [], Value.bool true), (106, [], Value.pointer f)] (by kernel_rfl) (by kernel_rfl) ?_
                refine reg_enter (op := (Go.Op.call (Go.Call.mk (Go.Callee.value (Go.Operand.func 17)) #[(Go.Operand.tmp 106)] #[26]))) (ty := 3) (dst := some 107) 17 #[Value.pointer f] (by kernel_rfl) (fun ww => by kernel_rfl) (Calls.mono h ?_)
                rintro _ w13 ⟨v107, rfl, h⟩
                refine ⟨_, rfl, ?_⟩
                refine reg_run [.sure, .plain, .plain] 22 [(110, [], Value.bool (v107 == 0))] (by kernel_rfl) (by kernel_rfl) ?_
                refine reg_split 110 (v107 == 0) (by kernel_rfl) (fun hb => ?_) (fun hb => ?_)
                · replace h := h.1 hb
                  refine reg_run [] 22 [(110, [], Value.bool true)] (by kernel_rfl) (by kernel_rfl) ?_
                  refine reg_run [] 22 [(110, [], Value.bool true)] (by kernel_rfl) (by kernel_rfl) ?_
                  refine reg_enter (op := (Go.Op.call (Go.Call.mk (Go.Callee.value (Go.Operand.func 12)) #[] #[]))) (ty := 4) (dst := some 111) 12 #[] (by kernel_rfl) (fun ww => by kernel_rfl) (Calls.mono h ?_)
                  rintro _ w14 ⟨v111, rfl, h⟩
                  refine ⟨_, rfl, ?_⟩
                  refine reg_run [.plain, .plain] 25 [(4, [], Value.bool v111)] (by kernel_rfl) (by kernel_rfl) ?_
                  refine reg_end [(4, Value.bool v111)] (by kernel_rfl) (by kernel_rfl) ?_
                  change WpE _ _ c_towpathlaw16_FeedCloses_75 _ _ _
                  refine wpE_ret (by kernel_rfl) ?_
                  repeat (first | refine seqQ_ret ?_ | refine blockQ_ret ?_ | refine loopQ_ret ?_ | refine cutQ_ret ?_)
                  exact retS (rs := [(Go.ResultVar.tmp 4)]) (v := Value.bool v111) (by kernel_rfl) (⟨by kernel_rfl, trivial⟩) ⟨v111, rfl, h⟩
                · replace h := h.2 hb
                  refine reg_run [] 22 [(110, [], Value.bool false)] (by kernel_rfl) (by kernel_rfl) ?_
                  refine reg_run [.skip, .plain, .plain] 25 [(4, [], Value.bool false)] (by kernel_rfl) (by kernel_rfl) ?_
                  refine reg_end [(4, Value.bool false)] (by kernel_rfl) (by kernel_rfl) ?_
                  change WpE _ _ c_towpathlaw16_FeedCloses_75 _ _ _
                  refine wpE_ret (by kernel_rfl) ?_
                  repeat (first | refine seqQ_ret ?_ | refine blockQ_ret ?_ | refine loopQ_ret ?_ | refine cutQ_ret ?_)
                  exact retS (rs := [(Go.ResultVar.tmp 4)]) (v := Value.bool false) (by kernel_rfl) (⟨by kernel_rfl, trivial⟩) ⟨false, rfl, h⟩
              · replace h := h.2 hb
                refine reg_run [] 18 [(105, [], Value.bool false), (106, [], undef)] (by kernel_rfl) (by kernel_rfl) ?_
                refine reg_run [.skip, .skip, .plain, .plain, .skip, .plain, .plain] 25 [(4, [], Value.bool false)] (by kernel_rfl) (by kernel_rfl) ?_
                refine reg_end [(4, Value.bool false)] (by kernel_rfl) (by kernel_rfl) ?_
                change WpE _ _ c_towpathlaw16_FeedCloses_75 _ _ _
                refine wpE_ret (by kernel_rfl) ?_
                repeat (first | refine seqQ_ret ?_ | refine blockQ_ret ?_ | refine loopQ_ret ?_ | refine cutQ_ret ?_)
                exact retS (rs := [(Go.ResultVar.tmp 4)]) (v := Value.bool false) (by kernel_rfl) (⟨by kernel_rfl, trivial⟩) ⟨false, rfl, h⟩
            · replace h := h.2 hb
              refine reg_run [] 11 [(5, [], Value.pointer f), (11, [], Value.int .i64 ((v41.len : Nat) : Int)), (98, [], Value.bool false), (99, [], undef)] (by kernel_rfl) (by kernel_rfl) ?_
              refine reg_run [.skip, .skip, .skip, .skip, .plain, .plain, .skip, .skip, .skip, .plain, .plain, .skip, .plain, .plain] 25 [(4, [], Value.bool false)] (by kernel_rfl) (by kernel_rfl) ?_
              refine reg_end [(4, Value.bool false)] (by kernel_rfl) (by kernel_rfl) ?_
              change WpE _ _ c_towpathlaw16_FeedCloses_75 _ _ _
              refine wpE_ret (by kernel_rfl) ?_
              repeat (first | refine seqQ_ret ?_ | refine blockQ_ret ?_ | refine loopQ_ret ?_ | refine cutQ_ret ?_)
              exact retS (rs := [(Go.ResultVar.tmp 4)]) (v := Value.bool false) (by kernel_rfl) (⟨by kernel_rfl, trivial⟩) ⟨false, rfl, h⟩
          · replace h := h.2 hb
            refine reg_run [] 6 [(5, [], Value.pointer f), (7, [], Value.pointer s), (11, [], Value.int .i64 ((v41.len : Nat) : Int)), (91, [], Value.bool false), (92, [], undef), (94, [], undef)] (by kernel_rfl) (by kernel_rfl) ?_
            refine reg_run [.skip, .skip, .plain, .plain, .skip, .skip, .skip, .skip, .skip, .plain, .plain, .skip, .skip, .skip, .plain, .plain, .skip, .plain, .plain] 25 [(4, [], Value.bool false)] (by kernel_rfl) (by kernel_rfl) ?_
            refine reg_end [(4, Value.bool false)] (by kernel_rfl) (by kernel_rfl) ?_
            change WpE _ _ c_towpathlaw16_FeedCloses_75 _ _ _
            refine wpE_ret (by kernel_rfl) ?_
            repeat (first | refine seqQ_ret ?_ | refine blockQ_ret ?_ | refine loopQ_ret ?_ | refine cutQ_ret ?_)
            exact retS (rs := [(Go.ResultVar.tmp 4)]) (v := Value.bool false) (by kernel_rfl) (⟨by kernel_rfl, trivial⟩) ⟨false, rfl, h⟩
  · rintro e w' ⟨v, rfl, r0, rfl, h⟩; exact ⟨r0, rfl, h⟩
end Go.Proofs.Ytpedclhflmhakaa
