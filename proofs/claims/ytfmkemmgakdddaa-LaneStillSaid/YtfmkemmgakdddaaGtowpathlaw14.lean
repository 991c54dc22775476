/- WRITTEN BY PROGRAM (dec.py): for each Go function the clean formula F, the call's contract C, and the proof S that F gives C. -/
import Derived.Test.YtfmkemmgakdddaaRows
import Derived.Test.YtfmkemmgakdddaaGF
namespace Go.Proofs.Ytfmkemmgakdddaa
open Go
set_option linter.unusedVariables false

/-! ### towpath/towpathlaw14.beyond (function 16) -/
noncomputable def c_towpathlaw14_beyond_0 : Code := (Try.f16.body).getD Code.skip
noncomputable def c_towpathlaw14_beyond_1 : Code := Code.l c_towpathlaw14_beyond_0
noncomputable def r_towpathlaw14_beyond_1 : Array Oper := Code.ops c_towpathlaw14_beyond_1
noncomputable def c_towpathlaw14_beyond_3 : Code := Code.r c_towpathlaw14_beyond_0
noncomputable def c_towpathlaw14_beyond_4 : Code := Code.l c_towpathlaw14_beyond_3
noncomputable def r_towpathlaw14_beyond_4 : Array Oper := Code.ops c_towpathlaw14_beyond_4
noncomputable def c_towpathlaw14_beyond_6 : Code := Code.r c_towpathlaw14_beyond_3
noncomputable def c_towpathlaw14_beyond_7 : Code := Code.l c_towpathlaw14_beyond_6
noncomputable def c_towpathlaw14_beyond_8 : Code := Code.l c_towpathlaw14_beyond_7
noncomputable def r_towpathlaw14_beyond_8 : Array Oper := Code.ops c_towpathlaw14_beyond_8
noncomputable def c_towpathlaw14_beyond_10 : Code := Code.r c_towpathlaw14_beyond_7
noncomputable def c_towpathlaw14_beyond_11 : Code := Code.l c_towpathlaw14_beyond_10
noncomputable def c_towpathlaw14_beyond_12 : Code := Code.l c_towpathlaw14_beyond_11
noncomputable def c_towpathlaw14_beyond_13 : Code := Code.l c_towpathlaw14_beyond_12
noncomputable def c_towpathlaw14_beyond_14 : Code := Code.l c_towpathlaw14_beyond_13
noncomputable def r_towpathlaw14_beyond_14 : Array Oper := Code.ops c_towpathlaw14_beyond_14
noncomputable def c_towpathlaw14_beyond_16 : Code := Code.r c_towpathlaw14_beyond_13
noncomputable def c_towpathlaw14_beyond_17 : Code := Code.l c_towpathlaw14_beyond_16
noncomputable def c_towpathlaw14_beyond_18 : Code := Code.r c_towpathlaw14_beyond_16
noncomputable def c_towpathlaw14_beyond_19 : Code := Code.r c_towpathlaw14_beyond_12
noncomputable def c_towpathlaw14_beyond_20 : Code := Code.l c_towpathlaw14_beyond_19
noncomputable def c_towpathlaw14_beyond_21 : Code := Code.l c_towpathlaw14_beyond_20
noncomputable def c_towpathlaw14_beyond_22 : Code := Code.l c_towpathlaw14_beyond_21
noncomputable def r_towpathlaw14_beyond_22 : Array Oper := Code.ops c_towpathlaw14_beyond_22
noncomputable def c_towpathlaw14_beyond_24 : Code := Code.r c_towpathlaw14_beyond_21
noncomputable def c_towpathlaw14_beyond_25 : Code := Code.l c_towpathlaw14_beyond_24
noncomputable def r_towpathlaw14_beyond_25 : Array Oper := Code.ops c_towpathlaw14_beyond_25
noncomputable def c_towpathlaw14_beyond_27 : Code := Code.r c_towpathlaw14_beyond_24
noncomputable def c_towpathlaw14_beyond_28 : Code := Code.l c_towpathlaw14_beyond_27
noncomputable def c_towpathlaw14_beyond_29 : Code := Code.l c_towpathlaw14_beyond_28
noncomputable def r_towpathlaw14_beyond_29 : Array Oper := Code.ops c_towpathlaw14_beyond_29
noncomputable def c_towpathlaw14_beyond_31 : Code := Code.r c_towpathlaw14_beyond_28
noncomputable def c_towpathlaw14_beyond_32 : Code := Code.r c_towpathlaw14_beyond_27
noncomputable def c_towpathlaw14_beyond_33 : Code := Code.r c_towpathlaw14_beyond_19
noncomputable def r_towpathlaw14_beyond_33 : Array Oper := Code.ops c_towpathlaw14_beyond_33
noncomputable def c_towpathlaw14_beyond_35 : Code := Code.r c_towpathlaw14_beyond_6
noncomputable def c_towpathlaw14_beyond_36 : Code := Code.l c_towpathlaw14_beyond_35
noncomputable def r_towpathlaw14_beyond_36 : Array Oper := Code.ops c_towpathlaw14_beyond_36
noncomputable def c_towpathlaw14_beyond_38 : Code := Code.r c_towpathlaw14_beyond_35

set_option maxRecDepth 100000 in
set_option maxHeartbeats 4000000 in
theorem S_towpathlaw14_beyond {l_ : Slc} {w : World} {R : Bool → World → Prop} (h : F_towpathlaw14_beyond l_ R w) : C_towpathlaw14_beyond l_ w R := by
  unfold F_towpathlaw14_beyond at h
  unfold C_towpathlaw14_beyond
  refine Calls.mono (calls_of_wpE (args := [Value.slice l_.ptr l_.len l_.cap]) (R := fun v w' => ∃ (r0 : Bool), v = Value.bool r0 ∧ R r0 w') Try.func16 (c := c_towpathlaw14_beyond_0) (by kernel_rfl) 22 (by kernel_rfl) (by kernel_rfl) [(0, Value.slice l_.ptr l_.len l_.cap)] (by kernel_rfl) ?_) ?_
  · refine wpE_seq (x := c_towpathlaw14_beyond_1) (y := c_towpathlaw14_beyond_3) (by kernel_rfl) ?_
    refine wpE_region (id := 0) (ops := r_towpathlaw14_beyond_1) (by kernel_rfl) ?_
    refine reg_run [.plain] 1 [(0, [], Value.slice l_.ptr l_.len l_.cap)] (by kernel_rfl) (by kernel_rfl) ?_
    refine reg_end [(0, Value.slice l_.ptr l_.len l_.cap)] (by kernel_rfl) (by kernel_rfl) ?_
    change WpE _ _ c_towpathlaw14_beyond_3 _ _ _
    refine wpE_seq (x := c_towpathlaw14_beyond_4) (y := c_towpathlaw14_beyond_6) (by kernel_rfl) ?_
    refine wpE_region (id := 1) (ops := r_towpathlaw14_beyond_4) (by kernel_rfl) ?_
    refine reg_run [.plain] 1 [(0, [], Value.slice l_.ptr l_.len l_.cap), (3, [], Value.int .i64 0)] (by kernel_rfl) (by kernel_rfl) ?_
    refine reg_end [(0, Value.slice l_.ptr l_.len l_.cap), (3, Value.int .i64 0)] (by kernel_rfl) (by kernel_rfl) ?_
    change WpE _ _ c_towpathlaw14_beyond_6 _ _ _
    refine wpE_seq (x := c_towpathlaw14_beyond_7) (y := c_towpathlaw14_beyond_35) (by kernel_rfl) ?_
    refine wpE_seq (x := c_towpathlaw14_beyond_8) (y := c_towpathlaw14_beyond_10) (by kernel_rfl) ?_
    refine wpE_region (id := 2) (ops := r_towpathlaw14_beyond_8) (by kernel_rfl) ?_
    refine reg_run [.plain] 1 [(0, [], Value.slice l_.ptr l_.len l_.cap), (3, [], Value.int .i64 0), (4, [], Value.int .i64 0)] (by kernel_rfl) (by kernel_rfl) ?_
    refine reg_end [(0, Value.slice l_.ptr l_.len l_.cap), (3, Value.int .i64 0), (4, Value.int .i64 0)] (by kernel_rfl) (by kernel_rfl) ?_
    change WpE _ _ c_towpathlaw14_beyond_10 _ _ _
    refine wpE_block (id := 0) (x := c_towpathlaw14_beyond_11) (by kernel_rfl) ?_
    obtain ⟨I, μ, h0, hr⟩ := h
    refine wpE_loop (x := c_towpathlaw14_beyond_12) (by kernel_rfl) (fun m l w => ∃ (n_ : Int) (i : Int), l = [(0, Value.slice l_.ptr l_.len l_.cap), (3, Value.int .i64 n_), (4, Value.int .i64 i)] ∧ I n_ i w ∧ μ n_ i w = m) (l' := [(0, Value.slice l_.ptr l_.len l_.cap), (3, Value.int .i64 0), (4, Value.int .i64 0)]) (Sub.mk (by kernel_rfl)) ⟨0, 0, rfl, h0, rfl⟩ ?_
    rintro _ _ w1 ⟨n_, i, rfl, hI, rfl⟩
    obtain ⟨again_, again__h, h⟩ : ∃ again_ : Int → Int → World → Prop, (∀ n_' i' w', again_ n_' i' w' → I n_' i' w' ∧ μ n_' i' w' < μ n_ i w1) ∧ F_towpathlaw14_beyond_L0 l_ R again_ n_ i w1 := ⟨_, fun _ _ _ h => h, hr n_ i w1 hI⟩
    clear h0 hI
    unfold F_towpathlaw14_beyond_L0 at h
    refine wpE_seq (x := c_towpathlaw14_beyond_13) (y := c_towpathlaw14_beyond_19) (by kernel_rfl) ?_
    refine wpE_seq (x := c_towpathlaw14_beyond_14) (y := c_towpathlaw14_beyond_16) (by kernel_rfl) ?_
    refine wpE_region (id := 3) (ops := r_towpathlaw14_beyond_14) (by kernel_rfl) ?_
    refine reg_run [.plain, .plain, .plain, .plain] 4 [(0, [], Value.slice l_.ptr l_.len l_.cap), (3, [], Value.int .i64 n_), (4, [], Value.int .i64 i), (8, [], Value.bool (decide (i < ((l_.len : Nat) : Int))))] (by kernel_rfl) (by kernel_rfl) ?_
    refine reg_end [(0, Value.slice l_.ptr l_.len l_.cap), (3, Value.int .i64 n_), (4, Value.int .i64 i), (8, Value.bool (decide (i < ((l_.len : Nat) : Int))))] (by kernel_rfl) (by kernel_rfl) ?_
    change WpE _ _ c_towpathlaw14_beyond_16 _ _ _
    refine wpE_cond (o := (Operand.tmp 8)) (b := (decide (i < ((l_.len : Nat) : Int)))) (x := c_towpathlaw14_beyond_17) (y := c_towpathlaw14_beyond_18) (by kernel_rfl) (by kernel_rfl) (fun hb => ?_) (fun hb => ?_)
    · replace h := h.1 hb
      refine wpE_skip (by kernel_rfl) ?_
      change WpE _ _ c_towpathlaw14_beyond_19 _ _ _
      refine wpE_seq (x := c_towpathlaw14_beyond_20) (y := c_towpathlaw14_beyond_33) (by kernel_rfl) ?_
      refine wpE_block (id := 1) (x := c_towpathlaw14_beyond_21) (by kernel_rfl) ?_
      refine wpE_seq (x := c_towpathlaw14_beyond_22) (y := c_towpathlaw14_beyond_24) (by kernel_rfl) ?_
      refine wpE_region (id := 5) (ops := r_towpathlaw14_beyond_22) (by kernel_rfl) ?_
      refine reg_run [.plain, .plain, .plain, .plain] 4 [(0, [], Value.slice l_.ptr l_.len l_.cap), (3, [], Value.int .i64 n_), (4, [], Value.int .i64 i), (12, [], Value.int .i64 (IntKind.i64.wrap (n_ + 1))), (13, [], Value.slice l_.ptr l_.len l_.cap), (14, [], Value.int .i64 i)] (by kernel_rfl) (by kernel_rfl) ?_
      obtain ⟨hp_7, h⟩ := h
      refine reg_conv [(0, [], Value.slice l_.ptr l_.len l_.cap), (3, [], Value.int .i64 n_), (4, [], Value.int .i64 i), (12, [], Value.int .i64 (IntKind.i64.wrap (n_ + 1))), (13, [], Value.slice (some ⟨(pblk l_.ptr), (poff l_.ptr), none⟩) l_.len l_.cap), (14, [], Value.int .i64 i)] (congrArg (fun pp => ([(0, [], Value.slice l_.ptr l_.len l_.cap), (3, [], Value.int .i64 n_), (4, [], Value.int .i64 i), (12, [], Value.int .i64 (IntKind.i64.wrap (n_ + 1))), (13, [], Value.slice pp l_.len l_.cap), (14, [], Value.int .i64 i)] : GEnv)) hp_7) ?_
      obtain ⟨h0, h1, h⟩ := h
      refine reg_indexS (t := 36) (e := 50) (x := (Go.Operand.tmp 13)) (ix := (Go.Operand.tmp 14)) (b := (pblk l_.ptr)) (o := (poff l_.ptr)) (l := l_.len) (c := l_.cap) (k := .i64) (j := i) (ty := 0) (dst := some 15) (sz := 3) (by kernel_rfl) (by kernel_rfl) (by kernel_rfl) (by kernel_rfl) (by kernel_rfl) h0 h1 ?_
      refine reg_run [.plain] 6 [(0, [], Value.slice l_.ptr l_.len l_.cap), (3, [], Value.int .i64 n_), (4, [], Value.int .i64 i), (12, [], Value.int .i64 (IntKind.i64.wrap (n_ + 1))), (16, [], Value.pointer (some ⟨(pblk l_.ptr), ((poff l_.ptr) + i.toNat * 3) + 1, none⟩))] (by kernel_rfl) (by kernel_rfl) ?_
      obtain ⟨v17, hc, h⟩ := h
      refine reg_loadN (t := 27) (a := (Go.Operand.tmp 16)) (b := (pblk l_.ptr)) (o := (((poff l_.ptr) + i.toNat * 3) + 1)) (ty := 27) (dst := some 17) [Value.int .i64 v17.Number, Value.slice v17.Writes.ptr v17.Writes.len v17.Writes.cap] (by kernel_rfl) (by kernel_rfl) (by kernel_rfl) (k := 2) (by kernel_rfl) (by kernel_rfl) hc ?_
      refine reg_run [] 7 [(0, [], Value.slice l_.ptr l_.len l_.cap), (3, [], Value.int .i64 n_), (4, [], Value.int .i64 i), (12, [], Value.int .i64 (IntKind.i64.wrap (n_ + 1))), (17, [], Value.agg #[Value.int .i64 v17.Number, Value.slice v17.Writes.ptr v17.Writes.len v17.Writes.cap])] (by kernel_rfl) (by kernel_rfl) ?_
      refine reg_enter (op := (Go.Op.call (Go.Call.mk (Go.Callee.value (Go.Operand.func 32)) #[(Go.Operand.tmp 17)] #[27]))) (ty := 3) (dst := some 18) 32 #[Value.agg #[Value.int .i64 v17.Number, Value.slice v17.Writes.ptr v17.Writes.len v17.Writes.cap]] (by kernel_rfl) (fun ww => by kernel_rfl) (Calls.mono h ?_)
      rintro _ w2 ⟨v18, rfl, h⟩
      refine ⟨_, rfl, ?_⟩
      refine reg_run [.plain, .plain] 10 [(0, [], Value.slice l_.ptr l_.len l_.cap), (3, [], Value.int .i64 (IntKind.i64.wrap ((IntKind.i64.wrap (n_ + 1)) + v18))), (4, [], Value.int .i64 i)] (by kernel_rfl) (by kernel_rfl) ?_
      refine reg_end [(0, Value.slice l_.ptr l_.len l_.cap), (3, Value.int .i64 (IntKind.i64.wrap ((IntKind.i64.wrap (n_ + 1)) + v18))), (4, Value.int .i64 i)] (by kernel_rfl) (by kernel_rfl) ?_
      change WpE _ _ c_towpathlaw14_beyond_24 _ _ _
      refine wpE_seq (x := c_towpathlaw14_beyond_25) (y := c_towpathlaw14_beyond_27) (by kernel_rfl) ?_
      refine wpE_region (id := 6) (ops := r_towpathlaw14_beyond_25) (by kernel_rfl) ?_
      refine reg_run [.plain, .plain] 2 [(0, [], Value.slice l_.ptr l_.len l_.cap), (3, [], Value.int .i64 (IntKind.i64.wrap ((IntKind.i64.wrap (n_ + 1)) + v18))), (4, [], Value.int .i64 i), (21, [], Value.bool (decide ((IntKind.i64.wrap ((IntKind.i64.wrap (n_ + 1)) + v18)) > 1048576)))] (by kernel_rfl) (by kernel_rfl) ?_
      refine reg_end [(0, Value.slice l_.ptr l_.len l_.cap), (3, Value.int .i64 (IntKind.i64.wrap ((IntKind.i64.wrap (n_ + 1)) + v18))), (4, Value.int .i64 i), (21, Value.bool (decide ((IntKind.i64.wrap ((IntKind.i64.wrap (n_ + 1)) + v18)) > 1048576)))] (by kernel_rfl) (by kernel_rfl) ?_
      change WpE _ _ c_towpathlaw14_beyond_27 _ _ _
      refine wpE_cond (o := (Operand.tmp 21)) (b := (decide ((IntKind.i64.wrap ((IntKind.i64.wrap (n_ + 1)) + v18)) > 1048576))) (x := c_towpathlaw14_beyond_28) (y := c_towpathlaw14_beyond_32) (by kernel_rfl) (by kernel_rfl) (fun hb => ?_) (fun hb => ?_)
      · replace h := h.1 hb
        refine wpE_seq (x := c_towpathlaw14_beyond_29) (y := c_towpathlaw14_beyond_31) (by kernel_rfl) ?_
        refine wpE_region (id := 7) (ops := r_towpathlaw14_beyond_29) (by kernel_rfl) ?_
        refine reg_run [.plain] 1 [(2, [], Value.bool true)] (by kernel_rfl) (by kernel_rfl) ?_
        refine reg_end [(2, Value.bool true)] (by kernel_rfl) (by kernel_rfl) ?_
        change WpE _ _ c_towpathlaw14_beyond_31 _ _ _
        refine wpE_ret (by kernel_rfl) ?_
        repeat (first | refine seqQ_ret ?_ | refine blockQ_ret ?_ | refine loopQ_ret ?_ | refine cutQ_ret ?_)
        exact retS (rs := [(Go.ResultVar.tmp 2)]) (v := Value.bool true) (by kernel_rfl) (⟨by kernel_rfl, trivial⟩) ⟨true, rfl, h⟩
      · replace h := h.2 hb
        refine wpE_skip (by kernel_rfl) ?_
        change WpE _ _ c_towpathlaw14_beyond_33 _ _ _
        refine wpE_region (id := 4) (ops := r_towpathlaw14_beyond_33) (by kernel_rfl) ?_
        refine reg_run [.plain, .plain, .plain] 3 [(0, [], Value.slice l_.ptr l_.len l_.cap), (3, [], Value.int .i64 (IntKind.i64.wrap ((IntKind.i64.wrap (n_ + 1)) + v18))), (4, [], Value.int .i64 (IntKind.i64.wrap (i + 1)))] (by kernel_rfl) (by kernel_rfl) ?_
        refine reg_end [(0, Value.slice l_.ptr l_.len l_.cap), (3, Value.int .i64 (IntKind.i64.wrap ((IntKind.i64.wrap (n_ + 1)) + v18))), (4, Value.int .i64 (IntKind.i64.wrap (i + 1)))] (by kernel_rfl) (by kernel_rfl) ?_
        have hb_ := again__h _ _ _ h
        exact ⟨_, hb_.2, [(0, Value.slice l_.ptr l_.len l_.cap), (3, Value.int .i64 (IntKind.i64.wrap ((IntKind.i64.wrap (n_ + 1)) + v18))), (4, Value.int .i64 (IntKind.i64.wrap (i + 1)))], Sub.mk (by kernel_rfl), (IntKind.i64.wrap ((IntKind.i64.wrap (n_ + 1)) + v18)), (IntKind.i64.wrap (i + 1)), rfl, hb_.1, rfl⟩
    · replace h := h.2 hb
      refine wpE_exit (id := 0) (by kernel_rfl) ?_
      change WpE _ _ c_towpathlaw14_beyond_35 _ _ _
      refine wpE_seq (x := c_towpathlaw14_beyond_36) (y := c_towpathlaw14_beyond_38) (by kernel_rfl) ?_
      refine wpE_region (id := 8) (ops := r_towpathlaw14_beyond_36) (by kernel_rfl) ?_
      refine reg_run [.plain] 1 [(2, [], Value.bool false)] (by kernel_rfl) (by kernel_rfl) ?_
      refine reg_end [(2, Value.bool false)] (by kernel_rfl) (by kernel_rfl) ?_
      change WpE _ _ c_towpathlaw14_beyond_38 _ _ _
      refine wpE_ret (by kernel_rfl) ?_
      repeat (first | refine seqQ_ret ?_ | refine blockQ_ret ?_ | refine loopQ_ret ?_ | refine cutQ_ret ?_)
      exact retS (rs := [(Go.ResultVar.tmp 2)]) (v := Value.bool false) (by kernel_rfl) (⟨by kernel_rfl, trivial⟩) ⟨false, rfl, h⟩
  · rintro e w' ⟨v, rfl, r0, rfl, h⟩; exact ⟨r0, rfl, h⟩

/-! ### towpath/towpathlaw14.asked (function 19) -/
noncomputable def c_towpathlaw14_asked_0 : Code := (Try.f19.body).getD Code.skip
noncomputable def c_towpathlaw14_asked_1 : Code := Code.l c_towpathlaw14_asked_0
noncomputable def r_towpathlaw14_asked_1 : Array Oper := Code.ops c_towpathlaw14_asked_1
noncomputable def c_towpathlaw14_asked_3 : Code := Code.r c_towpathlaw14_asked_0
noncomputable def c_towpathlaw14_asked_4 : Code := Code.l c_towpathlaw14_asked_3
noncomputable def r_towpathlaw14_asked_4 : Array Oper := Code.ops c_towpathlaw14_asked_4
noncomputable def c_towpathlaw14_asked_6 : Code := Code.r c_towpathlaw14_asked_3
noncomputable def c_towpathlaw14_asked_7 : Code := Code.l c_towpathlaw14_asked_6
noncomputable def c_towpathlaw14_asked_8 : Code := Code.l c_towpathlaw14_asked_7
noncomputable def r_towpathlaw14_asked_8 : Array Oper := Code.ops c_towpathlaw14_asked_8
noncomputable def c_towpathlaw14_asked_10 : Code := Code.r c_towpathlaw14_asked_7
noncomputable def c_towpathlaw14_asked_11 : Code := Code.l c_towpathlaw14_asked_10
noncomputable def c_towpathlaw14_asked_12 : Code := Code.l c_towpathlaw14_asked_11
noncomputable def r_towpathlaw14_asked_12 : Array Oper := Code.ops c_towpathlaw14_asked_12
noncomputable def c_towpathlaw14_asked_14 : Code := Code.r c_towpathlaw14_asked_11
noncomputable def c_towpathlaw14_asked_15 : Code := Code.l c_towpathlaw14_asked_14
noncomputable def c_towpathlaw14_asked_16 : Code := Code.l c_towpathlaw14_asked_15
noncomputable def r_towpathlaw14_asked_16 : Array Oper := Code.ops c_towpathlaw14_asked_16
noncomputable def c_towpathlaw14_asked_18 : Code := Code.r c_towpathlaw14_asked_15
noncomputable def c_towpathlaw14_asked_19 : Code := Code.l c_towpathlaw14_asked_18
noncomputable def r_towpathlaw14_asked_19 : Array Oper := Code.ops c_towpathlaw14_asked_19
noncomputable def c_towpathlaw14_asked_21 : Code := Code.r c_towpathlaw14_asked_18
noncomputable def c_towpathlaw14_asked_22 : Code := Code.l c_towpathlaw14_asked_21
noncomputable def r_towpathlaw14_asked_22 : Array Oper := Code.ops c_towpathlaw14_asked_22
noncomputable def c_towpathlaw14_asked_24 : Code := Code.r c_towpathlaw14_asked_21
noncomputable def c_towpathlaw14_asked_25 : Code := Code.l c_towpathlaw14_asked_24
noncomputable def c_towpathlaw14_asked_26 : Code := Code.l c_towpathlaw14_asked_25
noncomputable def c_towpathlaw14_asked_27 : Code := Code.l c_towpathlaw14_asked_26
noncomputable def c_towpathlaw14_asked_28 : Code := Code.l c_towpathlaw14_asked_27
noncomputable def r_towpathlaw14_asked_28 : Array Oper := Code.ops c_towpathlaw14_asked_28
noncomputable def c_towpathlaw14_asked_30 : Code := Code.r c_towpathlaw14_asked_27
noncomputable def c_towpathlaw14_asked_31 : Code := Code.l c_towpathlaw14_asked_30
noncomputable def c_towpathlaw14_asked_32 : Code := Code.r c_towpathlaw14_asked_30
noncomputable def c_towpathlaw14_asked_33 : Code := Code.r c_towpathlaw14_asked_26
noncomputable def c_towpathlaw14_asked_34 : Code := Code.l c_towpathlaw14_asked_33
noncomputable def c_towpathlaw14_asked_35 : Code := Code.l c_towpathlaw14_asked_34
noncomputable def r_towpathlaw14_asked_35 : Array Oper := Code.ops c_towpathlaw14_asked_35
noncomputable def c_towpathlaw14_asked_37 : Code := Code.r c_towpathlaw14_asked_33
noncomputable def r_towpathlaw14_asked_37 : Array Oper := Code.ops c_towpathlaw14_asked_37
noncomputable def c_towpathlaw14_asked_39 : Code := Code.r c_towpathlaw14_asked_14
noncomputable def c_towpathlaw14_asked_40 : Code := Code.l c_towpathlaw14_asked_39
noncomputable def r_towpathlaw14_asked_40 : Array Oper := Code.ops c_towpathlaw14_asked_40
noncomputable def c_towpathlaw14_asked_42 : Code := Code.r c_towpathlaw14_asked_39
noncomputable def c_towpathlaw14_asked_43 : Code := Code.l c_towpathlaw14_asked_42
noncomputable def r_towpathlaw14_asked_43 : Array Oper := Code.ops c_towpathlaw14_asked_43
noncomputable def c_towpathlaw14_asked_45 : Code := Code.r c_towpathlaw14_asked_42
noncomputable def c_towpathlaw14_asked_46 : Code := Code.l c_towpathlaw14_asked_45
noncomputable def r_towpathlaw14_asked_46 : Array Oper := Code.ops c_towpathlaw14_asked_46
noncomputable def c_towpathlaw14_asked_48 : Code := Code.r c_towpathlaw14_asked_45
noncomputable def c_towpathlaw14_asked_49 : Code := Code.l c_towpathlaw14_asked_48
noncomputable def r_towpathlaw14_asked_49 : Array Oper := Code.ops c_towpathlaw14_asked_49
noncomputable def c_towpathlaw14_asked_51 : Code := Code.r c_towpathlaw14_asked_48
noncomputable def c_towpathlaw14_asked_52 : Code := Code.l c_towpathlaw14_asked_51
noncomputable def r_towpathlaw14_asked_52 : Array Oper := Code.ops c_towpathlaw14_asked_52
noncomputable def c_towpathlaw14_asked_54 : Code := Code.r c_towpathlaw14_asked_51
noncomputable def c_towpathlaw14_asked_55 : Code := Code.l c_towpathlaw14_asked_54
noncomputable def c_towpathlaw14_asked_56 : Code := Code.l c_towpathlaw14_asked_55
noncomputable def r_towpathlaw14_asked_56 : Array Oper := Code.ops c_towpathlaw14_asked_56
noncomputable def c_towpathlaw14_asked_58 : Code := Code.r c_towpathlaw14_asked_55
noncomputable def c_towpathlaw14_asked_59 : Code := Code.l c_towpathlaw14_asked_58
noncomputable def r_towpathlaw14_asked_59 : Array Oper := Code.ops c_towpathlaw14_asked_59
noncomputable def c_towpathlaw14_asked_61 : Code := Code.r c_towpathlaw14_asked_58
noncomputable def r_towpathlaw14_asked_61 : Array Oper := Code.ops c_towpathlaw14_asked_61
noncomputable def c_towpathlaw14_asked_63 : Code := Code.r c_towpathlaw14_asked_54
noncomputable def c_towpathlaw14_asked_64 : Code := Code.r c_towpathlaw14_asked_6
noncomputable def c_towpathlaw14_asked_65 : Code := Code.l c_towpathlaw14_asked_64
noncomputable def r_towpathlaw14_asked_65 : Array Oper := Code.ops c_towpathlaw14_asked_65
noncomputable def c_towpathlaw14_asked_67 : Code := Code.r c_towpathlaw14_asked_64
noncomputable def c_towpathlaw14_asked_68 : Code := Code.l c_towpathlaw14_asked_67
noncomputable def r_towpathlaw14_asked_68 : Array Oper := Code.ops c_towpathlaw14_asked_68
noncomputable def c_towpathlaw14_asked_70 : Code := Code.r c_towpathlaw14_asked_67
noncomputable def c_towpathlaw14_asked_71 : Code := Code.l c_towpathlaw14_asked_70
noncomputable def r_towpathlaw14_asked_71 : Array Oper := Code.ops c_towpathlaw14_asked_71
noncomputable def c_towpathlaw14_asked_73 : Code := Code.r c_towpathlaw14_asked_70
def o_towpathlaw14_asked_19 : List Nat := [0, 1, 3, 4, 5, 2, 6, 7, 8, 9, 10, 11, 12, 13, 14]

set_option maxRecDepth 100000 in
set_option maxHeartbeats 4000000 in
theorem S_towpathlaw14_asked {l_ : Option Addr} {r : Option Addr} {o_ : T_towpathlaw14_Op} {w : World} {R : Bool → World → Prop} (h : F_towpathlaw14_asked l_ r o_ R w) : C_towpathlaw14_asked l_ r o_ w R := by
  unfold F_towpathlaw14_asked at h
  unfold C_towpathlaw14_asked
  refine Calls.mono (calls_of_wpE (args := [Value.pointer l_, Value.pointer r, Value.agg #[Value.int .u8 o_.Kind, Value.int .i64 o_.Txn.Number, Value.slice o_.Txn.Writes.ptr o_.Txn.Writes.len o_.Txn.Writes.cap]]) (R := fun v w' => ∃ (r0 : Bool), v = Value.bool r0 ∧ R r0 w') Try.func19 (c := c_towpathlaw14_asked_0) (by kernel_rfl) 129 (by kernel_rfl) (by kernel_rfl) [(0, Value.pointer l_), (1, Value.pointer r), (2, Value.agg #[Value.int .u8 o_.Kind, Value.int .i64 o_.Txn.Number, Value.slice o_.Txn.Writes.ptr o_.Txn.Writes.len o_.Txn.Writes.cap])] (by kernel_rfl) ?_) ?_
  · refine wpE_seq (x := c_towpathlaw14_asked_1) (y := c_towpathlaw14_asked_3) (by kernel_rfl) ?_
    refine wpE_region (id := 0) (ops := r_towpathlaw14_asked_1) (by kernel_rfl) ?_
    refine reg_run [] 0 [(0, [], Value.pointer l_), (1, [], Value.pointer r), (2, [], Value.agg #[Value.int .u8 o_.Kind, Value.int .i64 o_.Txn.Number, Value.slice o_.Txn.Writes.ptr o_.Txn.Writes.len o_.Txn.Writes.cap])] (by kernel_rfl) (by kernel_rfl) ?_
    refine reg_new (op := (Go.Op.box 50 (Go.Operand.tmp 2))) (ty := 0) (dst := some 5) (fun bb => Value.pointer (some ⟨bb, 0, none⟩)) (Obj.cells ([Value.int .u8 o_.Kind, Value.int .i64 o_.Txn.Number, Value.slice o_.Txn.Writes.ptr o_.Txn.Writes.len o_.Txn.Writes.cap]).toArray ty_towpathlaw14_Op (0, 0)) (by kernel_rfl) (by kernel_rfl) (fun b_ w1 hb hw => ?_)
    replace h := h b_ w1 hb hw
    clear hb hw
    refine reg_run [.plain] 2 [(0, [], Value.pointer l_), (1, [], Value.pointer r), (5, [], Value.pointer (some ⟨b_, 0, none⟩))] (by kernel_rfl) (by kernel_rfl) ?_
    refine reg_end [(0, Value.pointer l_), (1, Value.pointer r), (5, Value.pointer (some ⟨b_, 0, none⟩))] (by kernel_rfl) (by kernel_rfl) ?_
    change WpE _ _ c_towpathlaw14_asked_3 _ _ _
    refine wpE_seq (x := c_towpathlaw14_asked_4) (y := c_towpathlaw14_asked_6) (by kernel_rfl) ?_
    refine wpE_region (id := 1) (ops := r_towpathlaw14_asked_4) (by kernel_rfl) ?_
    refine reg_run [.plain] 1 [(0, [], Value.pointer l_), (1, [], Value.pointer r), (5, [], Value.pointer (some ⟨b_, 0, none⟩)), (7, [], Value.bool true)] (by kernel_rfl) (by kernel_rfl) ?_
    refine reg_end [(0, Value.pointer l_), (1, Value.pointer r), (5, Value.pointer (some ⟨b_, 0, none⟩)), (7, Value.bool true)] (by kernel_rfl) (by kernel_rfl) ?_
    change WpE _ _ c_towpathlaw14_asked_6 _ _ _
    refine wpE_seq_cut (x := c_towpathlaw14_asked_7) (y := c_towpathlaw14_asked_64) (by kernel_rfl) (fun l w => ∃ (ok : Bool), l = [(0, Value.pointer l_), (1, Value.pointer r), (7, Value.bool ok)] ∧ F_towpathlaw14_asked_k0 l_ r R ok w) ?_ ?_
    · refine wpE_seq (x := c_towpathlaw14_asked_8) (y := c_towpathlaw14_asked_10) (by kernel_rfl) ?_
      refine wpE_region (id := 2) (ops := r_towpathlaw14_asked_8) (by kernel_rfl) ?_
      refine reg_run [.plain] 1 [(0, [], Value.pointer l_), (1, [], Value.pointer r), (5, [], Value.pointer (some ⟨b_, 0, none⟩)), (7, [], Value.bool true), (20, [], Value.pointer (some ⟨b_, 0, none⟩))] (by kernel_rfl) (by kernel_rfl) ?_
      obtain ⟨v21, hc, h⟩ := h
      refine reg_load1 (t := 5) (a := (Go.Operand.tmp 20)) (b := b_) (o := 0) (ty := 5) (dst := some 21) (by kernel_rfl) (by kernel_rfl) (by kernel_rfl) hc ?_
      refine reg_end [(0, Value.pointer l_), (1, Value.pointer r), (5, Value.pointer (some ⟨b_, 0, none⟩)), (7, Value.bool true), (21, Value.int .u8 v21)] (by kernel_rfl) (by kernel_rfl) ?_
      change WpE _ _ c_towpathlaw14_asked_10 _ _ _
      refine wpE_block (id := 0) (x := c_towpathlaw14_asked_11) (by kernel_rfl) ?_
      refine wpE_seq (x := c_towpathlaw14_asked_12) (y := c_towpathlaw14_asked_14) (by kernel_rfl) ?_
      refine wpE_region (id := 3) (ops := r_towpathlaw14_asked_12) (by kernel_rfl) ?_
      refine reg_run [.plain, .plain] 2 [(0, [], Value.pointer l_), (1, [], Value.pointer r), (5, [], Value.pointer (some ⟨b_, 0, none⟩)), (7, [], Value.bool true), (21, [], Value.int .u8 v21), (22, [], Value.bool (v21 == 1))] (by kernel_rfl) (by kernel_rfl) ?_
      refine reg_end [(0, Value.pointer l_), (1, Value.pointer r), (5, Value.pointer (some ⟨b_, 0, none⟩)), (7, Value.bool true), (21, Value.int .u8 v21), (22, Value.bool (v21 == 1))] (by kernel_rfl) (by kernel_rfl) ?_
      change WpE _ _ c_towpathlaw14_asked_14 _ _ _
      refine wpE_cond (o := (Operand.tmp 22)) (b := (v21 == 1)) (x := c_towpathlaw14_asked_15) (y := c_towpathlaw14_asked_39) (by kernel_rfl) (by kernel_rfl) (fun hb => ?_) (fun hb => ?_)
      · replace h := h.1 hb
        refine wpE_seq (x := c_towpathlaw14_asked_16) (y := c_towpathlaw14_asked_18) (by kernel_rfl) ?_
        refine wpE_region (id := 4) (ops := r_towpathlaw14_asked_16) (by kernel_rfl) ?_
        refine reg_run [.plain] 1 [(0, [], Value.pointer l_), (1, [], Value.pointer r), (5, [], Value.pointer (some ⟨b_, 0, none⟩)), (24, [], Value.pointer (some ⟨b_, 1, none⟩))] (by kernel_rfl) (by kernel_rfl) ?_
        obtain ⟨v25, hc, h⟩ := h
        refine reg_loadN (t := 27) (a := (Go.Operand.tmp 24)) (b := b_) (o := 1) (ty := 27) (dst := some 25) [Value.int .i64 v25.Number, Value.slice v25.Writes.ptr v25.Writes.len v25.Writes.cap] (by kernel_rfl) (by kernel_rfl) (by kernel_rfl) (k := 2) (by kernel_rfl) (by kernel_rfl) hc ?_
        refine reg_run [] 2 [(0, [], Value.pointer l_), (1, [], Value.pointer r), (5, [], Value.pointer (some ⟨b_, 0, none⟩)), (25, [], Value.agg #[Value.int .i64 v25.Number, Value.slice v25.Writes.ptr v25.Writes.len v25.Writes.cap])] (by kernel_rfl) (by kernel_rfl) ?_
        refine reg_enter (op := (Go.Op.call (Go.Call.mk (Go.Callee.value (Go.Operand.func 50)) #[(Go.Operand.tmp 25)] #[27]))) (ty := 27) (dst := some 26) 50 #[Value.agg #[Value.int .i64 v25.Number, Value.slice v25.Writes.ptr v25.Writes.len v25.Writes.cap]] (by kernel_rfl) (fun ww => by kernel_rfl) (Calls.mono h ?_)
        rintro _ w14 ⟨v26, rfl, h⟩
        refine ⟨_, rfl, ?_⟩
        refine reg_run [] 3 [(0, [], Value.pointer l_), (1, [], Value.pointer r), (5, [], Value.pointer (some ⟨b_, 0, none⟩)), (26, [], Value.agg #[Value.int .i64 v26.Number, Value.slice v26.Writes.ptr v26.Writes.len v26.Writes.cap])] (by kernel_rfl) (by kernel_rfl) ?_
        refine reg_new (op := (Go.Op.alloc 27)) (ty := 0) (dst := some 8) (fun bb => Value.pointer (some ⟨bb, 0, none⟩)) (Obj.cells ([Value.int .i64 0, Value.slice none 0 0]).toArray ty_api_Txn (0, 0)) (by kernel_rfl) (by kernel_rfl) (fun b_3 w15 hb hw => ?_)
        replace h := h b_3 w15 hb hw
        clear hb hw
        refine reg_run [] 4 [(0, [], Value.pointer l_), (1, [], Value.pointer r), (5, [], Value.pointer (some ⟨b_, 0, none⟩)), (8, [], Value.pointer (some ⟨b_3, 0, none⟩)), (26, [], Value.agg #[Value.int .i64 v26.Number, Value.slice v26.Writes.ptr v26.Writes.len v26.Writes.cap])] (by kernel_rfl) (by kernel_rfl) ?_
        obtain ⟨hc, h⟩ := h
        refine reg_store (t := 27) (a := (Go.Operand.tmp 8)) (x := (Go.Operand.tmp 26)) (b := b_3) (o := 0) (ty := 0) (dst := none) [Value.int .i64 v26.Number, Value.slice v26.Writes.ptr v26.Writes.len v26.Writes.cap] (by kernel_rfl) (by kernel_rfl) (by kernel_rfl) (k := 2) (by kernel_rfl) (by kernel_rfl) (by kernel_rfl) hc (fun w16 hw => ?_)
        replace h := h w16 hw
        clear hw
        refine reg_end [(0, Value.pointer l_), (1, Value.pointer r), (5, Value.pointer (some ⟨b_, 0, none⟩)), (8, Value.pointer (some ⟨b_3, 0, none⟩))] (by kernel_rfl) (by kernel_rfl) ?_
        change WpE _ _ c_towpathlaw14_asked_18 _ _ _
        refine wpE_seq_cut (x := c_towpathlaw14_asked_19) (y := c_towpathlaw14_asked_21) (by kernel_rfl) (fun l w => ∃ (ok1 : Bool), l = [(0, Value.pointer l_), (1, Value.pointer r), (7, Value.bool ok1), (8, Value.pointer (some ⟨b_3, 0, none⟩))] ∧ F_towpathlaw14_asked_k1 l_ r R b_3 ok1 w) ?_ ?_
        · refine wpE_mixregion (id := 5) (ops := r_towpathlaw14_asked_19) o_towpathlaw14_asked_19 (by kernel_rfl) (by kernel_rfl) (by kernel_rfl) (by kernel_rfl) (fun w20 hw => ?_)
          replace h := h w20 hw
          clear hw
          refine mreg_run [.plain] 1 [(0, [], Value.pointer l_), (1, [], Value.pointer r), (5, [], Value.pointer (some ⟨b_, 0, none⟩)), (8, [], Value.pointer (some ⟨b_3, 0, none⟩)), (27, [], Value.pointer l_)] (by kernel_rfl) (by kernel_rfl) ?_
          obtain ⟨v28, hc, h⟩ := h
          refine mreg_loadN (i := 1) (by kernel_rfl) (t := 27) (a := (Go.Operand.tmp 8)) (b := b_3) (o := 0) (ty := 27) (dst := some 28) [Value.int .i64 v28.Number, Value.slice v28.Writes.ptr v28.Writes.len v28.Writes.cap] (by kernel_rfl) (by kernel_rfl) (by kernel_rfl) (k := 2) (by kernel_rfl) (by kernel_rfl) hc ?_
          refine mreg_run [.plain, .plain] 4 [(0, [], Value.pointer l_), (1, [], Value.pointer r), (5, [], Value.pointer (some ⟨b_, 0, none⟩)), (8, [], Value.pointer (some ⟨b_3, 0, none⟩)), (27, [], Value.pointer l_), (28, [], Value.agg #[Value.int .i64 v28.Number, Value.slice v28.Writes.ptr v28.Writes.len v28.Writes.cap]), (30, [], Value.pointer r), (31, [], Value.pointer (some ⟨b_, 1, none⟩))] (by kernel_rfl) (by kernel_rfl) ?_
          obtain ⟨v32, hc, h⟩ := h
          refine mreg_loadN (i := 5) (by kernel_rfl) (t := 27) (a := (Go.Operand.tmp 31)) (b := b_) (o := 1) (ty := 27) (dst := some 32) [Value.int .i64 v32.Number, Value.slice v32.Writes.ptr v32.Writes.len v32.Writes.cap] (by kernel_rfl) (by kernel_rfl) (by kernel_rfl) (k := 2) (by kernel_rfl) (by kernel_rfl) hc ?_
          refine mreg_run [] 5 [(0, [], Value.pointer l_), (1, [], Value.pointer r), (5, [], Value.pointer (some ⟨b_, 0, none⟩)), (8, [], Value.pointer (some ⟨b_3, 0, none⟩)), (27, [], Value.pointer l_), (28, [], Value.agg #[Value.int .i64 v28.Number, Value.slice v28.Writes.ptr v28.Writes.len v28.Writes.cap]), (30, [], Value.pointer r), (32, [], Value.agg #[Value.int .i64 v32.Number, Value.slice v32.Writes.ptr v32.Writes.len v32.Writes.cap])] (by kernel_rfl) (by kernel_rfl) ?_
          refine mreg_enter (op := (Go.Op.call (Go.Call.mk (Go.Callee.value (Go.Operand.func 23)) #[(Go.Operand.tmp 27), (Go.Operand.tmp 28)] #[38, 27]))) (ty := 28) (dst := some 29) 2 [0, 1] [(5, fun w' => CellsAt w' b_ 1 [Value.int .i64 v32.Number, Value.slice v32.Writes.ptr v32.Writes.len v32.Writes.cap])] 23 #[Value.pointer l_, Value.agg #[Value.int .i64 v28.Number, Value.slice v28.Writes.ptr v28.Writes.len v28.Writes.cap]] (by kernel_rfl) (by kernel_rfl) (by kernel_rfl) (by kernel_rfl) (by kernel_rfl) (fun ww => by kernel_rfl) (Calls.mono h ?_)
          rintro _ w21 ⟨v29, rfl, h⟩
          obtain ⟨hk0, h⟩ := h
          refine ⟨_, rfl, ⟨hk0, trivial⟩, ?_⟩
          refine mreg_run [] 6 [(0, [], Value.pointer l_), (1, [], Value.pointer r), (5, [], Value.pointer (some ⟨b_, 0, none⟩)), (8, [], Value.pointer (some ⟨b_3, 0, none⟩)), (29, [], Value.int .i64 v29), (30, [], Value.pointer r), (32, [], Value.agg #[Value.int .i64 v32.Number, Value.slice v32.Writes.ptr v32.Writes.len v32.Writes.cap])] (by kernel_rfl) (by kernel_rfl) ?_
          refine mreg_enter (op := (Go.Op.call (Go.Call.mk (Go.Callee.value (Go.Operand.func 51)) #[(Go.Operand.tmp 30), (Go.Operand.tmp 32)] #[41, 27]))) (ty := 28) (dst := some 33) 6 [2, 3, 5, 0, 1, 4] [] 51 #[Value.pointer r, Value.agg #[Value.int .i64 v32.Number, Value.slice v32.Writes.ptr v32.Writes.len v32.Writes.cap]] (by kernel_rfl) (by kernel_rfl) (by kernel_rfl) (by kernel_rfl) (by kernel_rfl) (fun ww => by kernel_rfl) (Calls.mono h ?_)
          rintro _ w22 ⟨v33, rfl, h⟩
          refine ⟨_, rfl, trivial, ?_⟩
          refine mreg_run [.plain, .plain] 9 [(0, [], Value.pointer l_), (1, [], Value.pointer r), (5, [], Value.pointer (some ⟨b_, 0, none⟩)), (8, [], Value.pointer (some ⟨b_3, 0, none⟩)), (35, [], Value.bool (v29 == v33))] (by kernel_rfl) (by kernel_rfl) ?_
          refine mreg_split 35 (v29 == v33) (by kernel_rfl) (fun hb => ?_) (fun hb => ?_)
          · replace h := h.1 hb
            refine mreg_run [] 9 [(0, [], Value.pointer l_), (1, [], Value.pointer r), (5, [], Value.pointer (some ⟨b_, 0, none⟩)), (8, [], Value.pointer (some ⟨b_3, 0, none⟩)), (35, [], Value.bool true)] (by kernel_rfl) (by kernel_rfl) ?_
            refine mreg_run [] 9 [(0, [], Value.pointer l_), (1, [], Value.pointer r), (5, [], Value.pointer (some ⟨b_, 0, none⟩)), (8, [], Value.pointer (some ⟨b_3, 0, none⟩)), (35, [], Value.bool true)] (by kernel_rfl) (by kernel_rfl) ?_
            obtain ⟨v36, hc, h⟩ := h
            refine mreg_loadN (i := 9) (by kernel_rfl) (t := 27) (a := (Go.Operand.tmp 8)) (b := b_3) (o := 0) (ty := 27) (dst := some 36) [Value.int .i64 v36.Number, Value.slice v36.Writes.ptr v36.Writes.len v36.Writes.cap] (by kernel_rfl) (by kernel_rfl) (by kernel_rfl) (k := 2) (by kernel_rfl) (by kernel_rfl) hc ?_
            refine mreg_run [.sure] 11 [(0, [], Value.pointer l_), (1, [], Value.pointer r), (8, [], Value.pointer (some ⟨b_3, 0, none⟩)), (35, [], Value.bool true), (36, [], Value.agg #[Value.int .i64 v36.Number, Value.slice v36.Writes.ptr v36.Writes.len v36.Writes.cap]), (37, [], Value.pointer (some ⟨b_, 1, none⟩))] (by kernel_rfl) (by kernel_rfl) ?_
            obtain ⟨v38, hc, h⟩ := h
            refine mreg_loadN (i := 11) (by kernel_rfl) (t := 27) (a := (Go.Operand.tmp 37)) (b := b_) (o := 1) (ty := 27) (dst := some 38) [Value.int .i64 v38.Number, Value.slice v38.Writes.ptr v38.Writes.len v38.Writes.cap] (by kernel_rfl) (by kernel_rfl) (by kernel_rfl) (k := 2) (by kernel_rfl) (by kernel_rfl) hc ?_
            refine mreg_run [] 12 [(0, [], Value.pointer l_), (1, [], Value.pointer r), (8, [], Value.pointer (some ⟨b_3, 0, none⟩)), (35, [], Value.bool true), (36, [], Value.agg #[Value.int .i64 v36.Number, Value.slice v36.Writes.ptr v36.Writes.len v36.Writes.cap]), (38, [], Value.agg #[Value.int .i64 v38.Number, Value.slice v38.Writes.ptr v38.Writes.len v38.Writes.cap])] (by kernel_rfl) (by kernel_rfl) ?_
            refine mreg_enter (op := (Go.Op.call (Go.Call.mk (Go.Callee.value (Go.Operand.func 52)) #[(Go.Operand.tmp 36), (Go.Operand.tmp 38)] #[27, 27]))) (ty := 4) (dst := some 39) 12 [8, 9, 11, 6, 7, 10, 2, 3, 5, 0, 1, 4] [] 52 #[Value.agg #[Value.int .i64 v36.Number, Value.slice v36.Writes.ptr v36.Writes.len v36.Writes.cap], Value.agg #[Value.int .i64 v38.Number, Value.slice v38.Writes.ptr v38.Writes.len v38.Writes.cap]] (by kernel_rfl) (by kernel_rfl) (by kernel_rfl) (by kernel_rfl) (by kernel_rfl) (fun ww => by kernel_rfl) (Calls.mono h ?_)
            rintro _ w23 ⟨v39, rfl, h⟩
            refine ⟨_, rfl, trivial, ?_⟩
            refine mreg_run [.plain, .plain] 15 [(0, [], Value.pointer l_), (1, [], Value.pointer r), (7, [], Value.bool v39), (8, [], Value.pointer (some ⟨b_3, 0, none⟩))] (by kernel_rfl) (by kernel_rfl) ?_
            refine mreg_end [(0, Value.pointer l_), (1, Value.pointer r), (7, Value.bool v39), (8, Value.pointer (some ⟨b_3, 0, none⟩))] (by kernel_rfl) (by kernel_rfl) (by kernel_rfl) ?_
            exact ⟨[(0, Value.pointer l_), (1, Value.pointer r), (7, Value.bool v39), (8, Value.pointer (some ⟨b_3, 0, none⟩))], Sub.mk (by kernel_rfl), v39, rfl, h⟩
          · replace h := h.2 hb
            refine mreg_run [] 9 [(0, [], Value.pointer l_), (1, [], Value.pointer r), (5, [], Value.pointer (some ⟨b_, 0, none⟩)), (8, [], Value.pointer (some ⟨b_3, 0, none⟩)), (35, [], Value.bool false)] (by kernel_rfl) (by kernel_rfl) ?_
            refine mreg_run [.skip, .skip, .skip, .skip, .plain, .plain] 15 [(0, [], Value.pointer l_), (1, [], Value.pointer r), (7, [], Value.bool false), (8, [], Value.pointer (some ⟨b_3, 0, none⟩))] (by kernel_rfl) (by kernel_rfl) ?_
            refine mreg_end [(0, Value.pointer l_), (1, Value.pointer r), (7, Value.bool false), (8, Value.pointer (some ⟨b_3, 0, none⟩))] (by kernel_rfl) (by kernel_rfl) (by kernel_rfl) ?_
            exact ⟨[(0, Value.pointer l_), (1, Value.pointer r), (7, Value.bool false), (8, Value.pointer (some ⟨b_3, 0, none⟩))], Sub.mk (by kernel_rfl), false, rfl, h⟩
        · rintro _ w17 ⟨ok1, rfl, h⟩
          unfold F_towpathlaw14_asked_k1 at h
          refine wpE_seq (x := c_towpathlaw14_asked_22) (y := c_towpathlaw14_asked_24) (by kernel_rfl) ?_
          refine wpE_region (id := 6) (ops := r_towpathlaw14_asked_22) (by kernel_rfl) ?_
          refine reg_run [.plain] 1 [(0, [], Value.pointer l_), (1, [], Value.pointer r), (7, [], Value.bool ok1), (8, [], Value.pointer (some ⟨b_3, 0, none⟩)), (9, [], Value.int .i64 0)] (by kernel_rfl) (by kernel_rfl) ?_
          refine reg_end [(0, Value.pointer l_), (1, Value.pointer r), (7, Value.bool ok1), (8, Value.pointer (some ⟨b_3, 0, none⟩)), (9, Value.int .i64 0)] (by kernel_rfl) (by kernel_rfl) ?_
          change WpE _ _ c_towpathlaw14_asked_24 _ _ _
          refine wpE_block (id := 1) (x := c_towpathlaw14_asked_25) (by kernel_rfl) ?_
          obtain ⟨I, μ, h0, hr⟩ := h
          refine wpE_loop (x := c_towpathlaw14_asked_26) (by kernel_rfl) (fun m l w => ∃ (i : Int), l = [(0, Value.pointer l_), (1, Value.pointer r), (7, Value.bool ok1), (8, Value.pointer (some ⟨b_3, 0, none⟩)), (9, Value.int .i64 i)] ∧ I i w ∧ μ i w = m) (l' := [(0, Value.pointer l_), (1, Value.pointer r), (7, Value.bool ok1), (8, Value.pointer (some ⟨b_3, 0, none⟩)), (9, Value.int .i64 0)]) (Sub.mk (by kernel_rfl)) ⟨0, rfl, h0, rfl⟩ ?_
          rintro _ _ w18 ⟨i, rfl, hI, rfl⟩
          obtain ⟨again_, again__h, h⟩ : ∃ again_ : Int → World → Prop, (∀ i' w', again_ i' w' → I i' w' ∧ μ i' w' < μ i w18) ∧ F_towpathlaw14_asked_L2 l_ r R b_3 ok1 again_ i w18 := ⟨_, fun _ _ h => h, hr i w18 hI⟩
          clear h0 hI
          unfold F_towpathlaw14_asked_L2 at h
          refine wpE_seq (x := c_towpathlaw14_asked_27) (y := c_towpathlaw14_asked_33) (by kernel_rfl) ?_
          refine wpE_seq (x := c_towpathlaw14_asked_28) (y := c_towpathlaw14_asked_30) (by kernel_rfl) ?_
          refine wpE_region (id := 7) (ops := r_towpathlaw14_asked_28) (by kernel_rfl) ?_
          refine reg_run [.plain, .plain] 2 [(0, [], Value.pointer l_), (1, [], Value.pointer r), (7, [], Value.bool ok1), (8, [], Value.pointer (some ⟨b_3, 0, none⟩)), (9, [], Value.int .i64 i), (41, [], Value.int .i64 i), (42, [], Value.pointer (some ⟨b_3, 1, none⟩))] (by kernel_rfl) (by kernel_rfl) ?_
          obtain ⟨v43, hc, h⟩ := h
          refine reg_load1 (t := 25) (a := (Go.Operand.tmp 42)) (b := b_3) (o := 1) (ty := 25) (dst := some 43) (by kernel_rfl) (by kernel_rfl) (by kernel_rfl) hc ?_
          refine reg_run [.plain, .plain] 5 [(0, [], Value.pointer l_), (1, [], Value.pointer r), (7, [], Value.bool ok1), (8, [], Value.pointer (some ⟨b_3, 0, none⟩)), (9, [], Value.int .i64 i), (45, [], Value.bool (decide (i < ((v43.len : Nat) : Int))))] (by kernel_rfl) (by kernel_rfl) ?_
          refine reg_end [(0, Value.pointer l_), (1, Value.pointer r), (7, Value.bool ok1), (8, Value.pointer (some ⟨b_3, 0, none⟩)), (9, Value.int .i64 i), (45, Value.bool (decide (i < ((v43.len : Nat) : Int))))] (by kernel_rfl) (by kernel_rfl) ?_
          change WpE _ _ c_towpathlaw14_asked_30 _ _ _
          refine wpE_cond (o := (Operand.tmp 45)) (b := (decide (i < ((v43.len : Nat) : Int)))) (x := c_towpathlaw14_asked_31) (y := c_towpathlaw14_asked_32) (by kernel_rfl) (by kernel_rfl) (fun hb => ?_) (fun hb => ?_)
          · replace h := h.1 hb
            refine wpE_skip (by kernel_rfl) ?_
            change WpE _ _ c_towpathlaw14_asked_33 _ _ _
            refine wpE_seq (x := c_towpathlaw14_asked_34) (y := c_towpathlaw14_asked_37) (by kernel_rfl) ?_
            refine wpE_block (id := 2) (x := c_towpathlaw14_asked_35) (by kernel_rfl) ?_
            refine wpE_region (id := 9) (ops := r_towpathlaw14_asked_35) (by kernel_rfl) ?_
            refine reg_run [.plain] 1 [(0, [], Value.pointer l_), (1, [], Value.pointer r), (7, [], Value.bool ok1), (8, [], Value.pointer (some ⟨b_3, 0, none⟩)), (9, [], Value.int .i64 i), (48, [], Value.pointer (some ⟨b_3, 1, none⟩))] (by kernel_rfl) (by kernel_rfl) ?_
            obtain ⟨v49, hc, h⟩ := h
            refine reg_load1 (t := 25) (a := (Go.Operand.tmp 48)) (b := b_3) (o := 1) (ty := 25) (dst := some 49) (by kernel_rfl) (by kernel_rfl) (by kernel_rfl) hc ?_
            refine reg_run [.plain, .plain] 4 [(0, [], Value.pointer l_), (1, [], Value.pointer r), (7, [], Value.bool ok1), (8, [], Value.pointer (some ⟨b_3, 0, none⟩)), (9, [], Value.int .i64 i), (49, [], Value.slice v49.ptr v49.len v49.cap), (50, [], Value.int .i64 i), (51, [], Value.agg #[Value.string (ByteArray.mk #[122, 122]), Value.string (ByteArray.mk #[115, 112, 111, 105, 108, 116]), Value.bool false])] (by kernel_rfl) (by kernel_rfl) ?_
            obtain ⟨hp_3, h⟩ := h
            refine reg_conv [(0, [], Value.pointer l_), (1, [], Value.pointer r), (7, [], Value.bool ok1), (8, [], Value.pointer (some ⟨b_3, 0, none⟩)), (9, [], Value.int .i64 i), (49, [], Value.slice (some ⟨(pblk v49.ptr), (poff v49.ptr), none⟩) v49.len v49.cap), (50, [], Value.int .i64 i), (51, [], Value.agg #[Value.string (ByteArray.mk #[122, 122]), Value.string (ByteArray.mk #[115, 112, 111, 105, 108, 116]), Value.bool false])] (congrArg (fun pp => ([(0, [], Value.pointer l_), (1, [], Value.pointer r), (7, [], Value.bool ok1), (8, [], Value.pointer (some ⟨b_3, 0, none⟩)), (9, [], Value.int .i64 i), (49, [], Value.slice pp v49.len v49.cap), (50, [], Value.int .i64 i), (51, [], Value.agg #[Value.string (ByteArray.mk #[122, 122]), Value.string (ByteArray.mk #[115, 112, 111, 105, 108, 116]), Value.bool false])] : GEnv)) hp_3) ?_
            obtain ⟨h0, h1, h⟩ := h
            refine reg_indexS (t := 25) (e := 61) (x := (Go.Operand.tmp 49)) (ix := (Go.Operand.tmp 50)) (b := (pblk v49.ptr)) (o := (poff v49.ptr)) (l := v49.len) (c := v49.cap) (k := .i64) (j := i) (ty := 0) (dst := some 52) (sz := 3) (by kernel_rfl) (by kernel_rfl) (by kernel_rfl) (by kernel_rfl) (by kernel_rfl) h0 h1 ?_
            refine reg_run [] 5 [(0, [], Value.pointer l_), (1, [], Value.pointer r), (7, [], Value.bool ok1), (8, [], Value.pointer (some ⟨b_3, 0, none⟩)), (9, [], Value.int .i64 i), (51, [], Value.agg #[Value.string (ByteArray.mk #[122, 122]), Value.string (ByteArray.mk #[115, 112, 111, 105, 108, 116]), Value.bool false]), (52, [], Value.pointer (some ⟨(pblk v49.ptr), (poff v49.ptr) + i.toNat * 3, none⟩))] (by kernel_rfl) (by kernel_rfl) ?_
            obtain ⟨hc, h⟩ := h
            refine reg_store (t := 61) (a := (Go.Operand.tmp 52)) (x := (Go.Operand.tmp 51)) (b := (pblk v49.ptr)) (o := ((poff v49.ptr) + i.toNat * 3)) (ty := 0) (dst := none) [Value.string (ByteArray.mk #[122, 122]), Value.string (ByteArray.mk #[115, 112, 111, 105, 108, 116]), Value.bool false] (by kernel_rfl) (by kernel_rfl) (by kernel_rfl) (k := 3) (by kernel_rfl) (by kernel_rfl) (by kernel_rfl) hc (fun w19 hw => ?_)
            replace h := h w19 hw
            clear hw
            refine reg_end [(0, Value.pointer l_), (1, Value.pointer r), (7, Value.bool ok1), (8, Value.pointer (some ⟨b_3, 0, none⟩)), (9, Value.int .i64 i)] (by kernel_rfl) (by kernel_rfl) ?_
            change WpE _ _ c_towpathlaw14_asked_37 _ _ _
            refine wpE_region (id := 8) (ops := r_towpathlaw14_asked_37) (by kernel_rfl) ?_
            refine reg_run [.plain, .plain, .plain] 3 [(0, [], Value.pointer l_), (1, [], Value.pointer r), (7, [], Value.bool ok1), (8, [], Value.pointer (some ⟨b_3, 0, none⟩)), (9, [], Value.int .i64 (IntKind.i64.wrap (i + 1)))] (by kernel_rfl) (by kernel_rfl) ?_
            refine reg_end [(0, Value.pointer l_), (1, Value.pointer r), (7, Value.bool ok1), (8, Value.pointer (some ⟨b_3, 0, none⟩)), (9, Value.int .i64 (IntKind.i64.wrap (i + 1)))] (by kernel_rfl) (by kernel_rfl) ?_
            have hb_ := again__h _ _ h
            exact ⟨_, hb_.2, [(0, Value.pointer l_), (1, Value.pointer r), (7, Value.bool ok1), (8, Value.pointer (some ⟨b_3, 0, none⟩)), (9, Value.int .i64 (IntKind.i64.wrap (i + 1)))], Sub.mk (by kernel_rfl), (IntKind.i64.wrap (i + 1)), rfl, hb_.1, rfl⟩
          · replace h := h.2 hb
            refine wpE_exit (id := 1) (by kernel_rfl) ?_
            exact ⟨[(0, Value.pointer l_), (1, Value.pointer r), (7, Value.bool ok1)], Sub.mk (by kernel_rfl), ok1, rfl, h⟩
      · replace h := h.2 hb
        refine wpE_seq (x := c_towpathlaw14_asked_40) (y := c_towpathlaw14_asked_42) (by kernel_rfl) ?_
        refine wpE_region (id := 10) (ops := r_towpathlaw14_asked_40) (by kernel_rfl) ?_
        refine reg_run [.plain, .plain] 2 [(0, [], Value.pointer l_), (1, [], Value.pointer r), (7, [], Value.bool true), (21, [], Value.int .u8 v21), (53, [], Value.bool (v21 == 2))] (by kernel_rfl) (by kernel_rfl) ?_
        refine reg_end [(0, Value.pointer l_), (1, Value.pointer r), (7, Value.bool true), (21, Value.int .u8 v21), (53, Value.bool (v21 == 2))] (by kernel_rfl) (by kernel_rfl) ?_
        change WpE _ _ c_towpathlaw14_asked_42 _ _ _
        refine wpE_cond (o := (Operand.tmp 53)) (b := (v21 == 2)) (x := c_towpathlaw14_asked_43) (y := c_towpathlaw14_asked_45) (by kernel_rfl) (by kernel_rfl) (fun hb => ?_) (fun hb => ?_)
        · replace h := h.1 hb
          refine wpE_region (id := 11) (ops := r_towpathlaw14_asked_43) (by kernel_rfl) ?_
          refine reg_run [.plain] 1 [(0, [], Value.pointer l_), (1, [], Value.pointer r), (7, [], Value.bool true), (55, [], Value.pointer l_)] (by kernel_rfl) (by kernel_rfl) ?_
          refine reg_enter (op := (Go.Op.call (Go.Call.mk (Go.Callee.value (Go.Operand.func 29)) #[(Go.Operand.tmp 55)] #[38]))) (ty := 28) (dst := some 56) 29 #[Value.pointer l_] (by kernel_rfl) (fun ww => by kernel_rfl) (Calls.mono h ?_)
          rintro _ w24 ⟨v56, rfl, h⟩
          refine ⟨_, rfl, ?_⟩
          refine reg_run [.plain] 3 [(0, [], Value.pointer l_), (1, [], Value.pointer r), (7, [], Value.bool true), (56, [], Value.int .i64 v56), (57, [], Value.pointer r)] (by kernel_rfl) (by kernel_rfl) ?_
          refine reg_enter (op := (Go.Op.call (Go.Call.mk (Go.Callee.value (Go.Operand.func 53)) #[(Go.Operand.tmp 57)] #[41]))) (ty := 28) (dst := some 58) 53 #[Value.pointer r] (by kernel_rfl) (fun ww => by kernel_rfl) (Calls.mono h ?_)
          rintro _ w25 ⟨v58, rfl, h⟩
          refine ⟨_, rfl, ?_⟩
          refine reg_run [.plain, .plain] 6 [(0, [], Value.pointer l_), (1, [], Value.pointer r), (7, [], Value.bool (v56 == v58))] (by kernel_rfl) (by kernel_rfl) ?_
          refine reg_end [(0, Value.pointer l_), (1, Value.pointer r), (7, Value.bool (v56 == v58))] (by kernel_rfl) (by kernel_rfl) ?_
          exact ⟨[(0, Value.pointer l_), (1, Value.pointer r), (7, Value.bool (v56 == v58))], Sub.mk (by kernel_rfl), (v56 == v58), rfl, h⟩
        · replace h := h.2 hb
          refine wpE_seq (x := c_towpathlaw14_asked_46) (y := c_towpathlaw14_asked_48) (by kernel_rfl) ?_
          refine wpE_region (id := 12) (ops := r_towpathlaw14_asked_46) (by kernel_rfl) ?_
          refine reg_run [.plain, .plain] 2 [(0, [], Value.pointer l_), (1, [], Value.pointer r), (7, [], Value.bool true), (21, [], Value.int .u8 v21), (60, [], Value.bool (v21 == 3))] (by kernel_rfl) (by kernel_rfl) ?_
          refine reg_end [(0, Value.pointer l_), (1, Value.pointer r), (7, Value.bool true), (21, Value.int .u8 v21), (60, Value.bool (v21 == 3))] (by kernel_rfl) (by kernel_rfl) ?_
          change WpE _ _ c_towpathlaw14_asked_48 _ _ _
          refine wpE_cond (o := (Operand.tmp 60)) (b := (v21 == 3)) (x := c_towpathlaw14_asked_49) (y := c_towpathlaw14_asked_51) (by kernel_rfl) (by kernel_rfl) (fun hb => ?_) (fun hb => ?_)
          · replace h := h.1 hb
            refine wpE_region (id := 13) (ops := r_towpathlaw14_asked_49) (by kernel_rfl) ?_
            refine reg_run [.plain] 1 [(0, [], Value.pointer l_), (1, [], Value.pointer r), (7, [], Value.bool true), (62, [], Value.pointer l_)] (by kernel_rfl) (by kernel_rfl) ?_
            refine reg_enter (op := (Go.Op.call (Go.Call.mk (Go.Callee.value (Go.Operand.func 30)) #[(Go.Operand.tmp 62)] #[38]))) (ty := 28) (dst := some 63) 30 #[Value.pointer l_] (by kernel_rfl) (fun ww => by kernel_rfl) (Calls.mono h ?_)
            rintro _ w26 ⟨v63, rfl, h⟩
            refine ⟨_, rfl, ?_⟩
            refine reg_run [.plain] 3 [(0, [], Value.pointer l_), (1, [], Value.pointer r), (7, [], Value.bool true), (63, [], Value.int .i64 v63), (64, [], Value.pointer r)] (by kernel_rfl) (by kernel_rfl) ?_
            refine reg_enter (op := (Go.Op.call (Go.Call.mk (Go.Callee.value (Go.Operand.func 54)) #[(Go.Operand.tmp 64)] #[41]))) (ty := 28) (dst := some 65) 54 #[Value.pointer r] (by kernel_rfl) (fun ww => by kernel_rfl) (Calls.mono h ?_)
            rintro _ w27 ⟨v65, rfl, h⟩
            refine ⟨_, rfl, ?_⟩
            refine reg_run [.plain, .plain] 6 [(0, [], Value.pointer l_), (1, [], Value.pointer r), (7, [], Value.bool (v63 == v65))] (by kernel_rfl) (by kernel_rfl) ?_
            refine reg_end [(0, Value.pointer l_), (1, Value.pointer r), (7, Value.bool (v63 == v65))] (by kernel_rfl) (by kernel_rfl) ?_
            exact ⟨[(0, Value.pointer l_), (1, Value.pointer r), (7, Value.bool (v63 == v65))], Sub.mk (by kernel_rfl), (v63 == v65), rfl, h⟩
          · replace h := h.2 hb
            refine wpE_seq (x := c_towpathlaw14_asked_52) (y := c_towpathlaw14_asked_54) (by kernel_rfl) ?_
            refine wpE_region (id := 14) (ops := r_towpathlaw14_asked_52) (by kernel_rfl) ?_
            refine reg_run [.plain, .plain] 2 [(0, [], Value.pointer l_), (1, [], Value.pointer r), (7, [], Value.bool true), (67, [], Value.bool (v21 == 4))] (by kernel_rfl) (by kernel_rfl) ?_
            refine reg_end [(0, Value.pointer l_), (1, Value.pointer r), (7, Value.bool true), (67, Value.bool (v21 == 4))] (by kernel_rfl) (by kernel_rfl) ?_
            change WpE _ _ c_towpathlaw14_asked_54 _ _ _
            refine wpE_cond (o := (Operand.tmp 67)) (b := (v21 == 4)) (x := c_towpathlaw14_asked_55) (y := c_towpathlaw14_asked_63) (by kernel_rfl) (by kernel_rfl) (fun hb => ?_) (fun hb => ?_)
            · replace h := h.1 hb
              refine wpE_seq (x := c_towpathlaw14_asked_56) (y := c_towpathlaw14_asked_58) (by kernel_rfl) ?_
              refine wpE_region (id := 15) (ops := r_towpathlaw14_asked_56) (by kernel_rfl) ?_
              refine reg_run [.plain] 1 [(0, [], Value.pointer l_), (1, [], Value.pointer r), (70, [], Value.pointer l_)] (by kernel_rfl) (by kernel_rfl) ?_
              refine reg_enter (op := (Go.Op.call (Go.Call.mk (Go.Callee.value (Go.Operand.func 31)) #[(Go.Operand.tmp 70)] #[38]))) (ty := 68) (dst := some 71) 31 #[Value.pointer l_] (by kernel_rfl) (fun ww => by kernel_rfl) (Calls.mono h ?_)
              rintro _ w28 ⟨n_, e, rfl, h⟩
              refine ⟨_, rfl, ?_⟩
              refine reg_run [.plain, .plain, .plain, .plain, .plain] 7 [(0, [], Value.pointer l_), (1, [], Value.pointer r), (10, [], Value.int .i64 n_), (11, [], Value.int .i64 e)] (by kernel_rfl) (by kernel_rfl) ?_
              refine reg_end [(0, Value.pointer l_), (1, Value.pointer r), (10, Value.int .i64 n_), (11, Value.int .i64 e)] (by kernel_rfl) (by kernel_rfl) ?_
              change WpE _ _ c_towpathlaw14_asked_58 _ _ _
              refine wpE_seq (x := c_towpathlaw14_asked_59) (y := c_towpathlaw14_asked_61) (by kernel_rfl) ?_
              refine wpE_region (id := 16) (ops := r_towpathlaw14_asked_59) (by kernel_rfl) ?_
              refine reg_run [.plain] 1 [(0, [], Value.pointer l_), (1, [], Value.pointer r), (10, [], Value.int .i64 n_), (11, [], Value.int .i64 e), (75, [], Value.pointer r)] (by kernel_rfl) (by kernel_rfl) ?_
              refine reg_enter (op := (Go.Op.call (Go.Call.mk (Go.Callee.value (Go.Operand.func 55)) #[(Go.Operand.tmp 75)] #[41]))) (ty := 68) (dst := some 76) 55 #[Value.pointer r] (by kernel_rfl) (fun ww => by kernel_rfl) (Calls.mono h ?_)
              rintro _ w29 ⟨m_, f, rfl, h⟩
              refine ⟨_, rfl, ?_⟩
              refine reg_run [.plain, .plain, .plain, .plain, .plain] 7 [(0, [], Value.pointer l_), (1, [], Value.pointer r), (10, [], Value.int .i64 n_), (11, [], Value.int .i64 e), (12, [], Value.int .i64 m_), (13, [], Value.int .i64 f)] (by kernel_rfl) (by kernel_rfl) ?_
              refine reg_end [(0, Value.pointer l_), (1, Value.pointer r), (10, Value.int .i64 n_), (11, Value.int .i64 e), (12, Value.int .i64 m_), (13, Value.int .i64 f)] (by kernel_rfl) (by kernel_rfl) ?_
              change WpE _ _ c_towpathlaw14_asked_61 _ _ _
              refine wpE_region (id := 17) (ops := r_towpathlaw14_asked_61) (by kernel_rfl) ?_
              refine reg_run [.plain, .plain, .plain, .plain, .plain, .plain, .plain, .pick, .plain] 9 [(0, [], Value.pointer l_), (1, [], Value.pointer r), (7, [], Value.bool ((n_ == m_) && (e == f)))] (by kernel_rfl) (by kernel_rfl) ?_
              refine reg_end [(0, Value.pointer l_), (1, Value.pointer r), (7, Value.bool ((n_ == m_) && (e == f)))] (by kernel_rfl) (by kernel_rfl) ?_
              exact ⟨[(0, Value.pointer l_), (1, Value.pointer r), (7, Value.bool ((n_ == m_) && (e == f)))], Sub.mk (by kernel_rfl), ((n_ == m_) && (e == f)), rfl, h⟩
            · replace h := h.2 hb
              refine wpE_skip (by kernel_rfl) ?_
              exact ⟨[(0, Value.pointer l_), (1, Value.pointer r), (7, Value.bool true)], Sub.mk (by kernel_rfl), true, rfl, h⟩
    · rintro _ w2 ⟨ok, rfl, h⟩
      unfold F_towpathlaw14_asked_k0 at h
      refine wpE_seq (x := c_towpathlaw14_asked_65) (y := c_towpathlaw14_asked_67) (by kernel_rfl) ?_
      refine wpE_region (id := 18) (ops := r_towpathlaw14_asked_65) (by kernel_rfl) ?_
      refine reg_run [.plain] 1 [(0, [], Value.pointer l_), (1, [], Value.pointer r), (7, [], Value.bool ok), (88, [], Value.pointer l_)] (by kernel_rfl) (by kernel_rfl) ?_
      refine reg_enter (op := (Go.Op.call (Go.Call.mk (Go.Callee.value (Go.Operand.func 26)) #[(Go.Operand.tmp 88)] #[38]))) (ty := 66) (dst := some 89) 26 #[Value.pointer l_] (by kernel_rfl) (fun ww => by kernel_rfl) (Calls.mono h ?_)
      rintro _ w3 ⟨s, v89_1, more, rfl, h⟩
      refine ⟨_, rfl, ?_⟩
      refine reg_run [.plain, .plain, .plain, .plain] 6 [(0, [], Value.pointer l_), (1, [], Value.pointer r), (7, [], Value.bool ok), (90, [], Value.int .i64 s), (91, [], Value.agg #[Value.int .u8 v89_1.Kind, Value.int .i64 v89_1.From, Value.int .i64 v89_1.Number, Value.string v89_1.Write.Key, Value.string v89_1.Write.Val, Value.bool v89_1.Write.Drop, Value.string v89_1.Key, Value.string v89_1.End, Value.slice v89_1.Beyond.ptr v89_1.Beyond.len v89_1.Beyond.cap]), (92, [], Value.bool more)] (by kernel_rfl) (by kernel_rfl) ?_
      refine reg_new (op := (Go.Op.alloc 65)) (ty := 0) (dst := some 15) (fun bb => Value.pointer (some ⟨bb, 0, none⟩)) (Obj.cells ([Value.int .u8 0, Value.int .i64 0, Value.int .i64 0, Value.string ByteArray.empty, Value.string ByteArray.empty, Value.bool false, Value.string ByteArray.empty, Value.string ByteArray.empty, Value.slice none 0 0]).toArray ty_api_Req (0, 0)) (by kernel_rfl) (by kernel_rfl) (fun b_1 w4 hb hw => ?_)
      replace h := h b_1 w4 hb hw
      clear hb hw
      refine reg_run [.plain] 8 [(0, [], Value.pointer l_), (1, [], Value.pointer r), (7, [], Value.bool ok), (14, [], Value.int .i64 s), (15, [], Value.pointer (some ⟨b_1, 0, none⟩)), (91, [], Value.agg #[Value.int .u8 v89_1.Kind, Value.int .i64 v89_1.From, Value.int .i64 v89_1.Number, Value.string v89_1.Write.Key, Value.string v89_1.Write.Val, Value.bool v89_1.Write.Drop, Value.string v89_1.Key, Value.string v89_1.End, Value.slice v89_1.Beyond.ptr v89_1.Beyond.len v89_1.Beyond.cap]), (92, [], Value.bool more)] (by kernel_rfl) (by kernel_rfl) ?_
      obtain ⟨hc, h⟩ := h
      refine reg_store (t := 65) (a := (Go.Operand.tmp 15)) (x := (Go.Operand.tmp 91)) (b := b_1) (o := 0) (ty := 0) (dst := none) [Value.int .u8 v89_1.Kind, Value.int .i64 v89_1.From, Value.int .i64 v89_1.Number, Value.string v89_1.Write.Key, Value.string v89_1.Write.Val, Value.bool v89_1.Write.Drop, Value.string v89_1.Key, Value.string v89_1.End, Value.slice v89_1.Beyond.ptr v89_1.Beyond.len v89_1.Beyond.cap] (by kernel_rfl) (by kernel_rfl) (by kernel_rfl) (k := 9) (by kernel_rfl) (by kernel_rfl) (by kernel_rfl) hc (fun w5 hw => ?_)
      replace h := h w5 hw
      clear hw
      refine reg_run [.plain] 10 [(0, [], Value.pointer l_), (1, [], Value.pointer r), (7, [], Value.bool ok), (14, [], Value.int .i64 s), (15, [], Value.pointer (some ⟨b_1, 0, none⟩)), (16, [], Value.bool more)] (by kernel_rfl) (by kernel_rfl) ?_
      refine reg_end [(0, Value.pointer l_), (1, Value.pointer r), (7, Value.bool ok), (14, Value.int .i64 s), (15, Value.pointer (some ⟨b_1, 0, none⟩)), (16, Value.bool more)] (by kernel_rfl) (by kernel_rfl) ?_
      change WpE _ _ c_towpathlaw14_asked_67 _ _ _
      refine wpE_seq (x := c_towpathlaw14_asked_68) (y := c_towpathlaw14_asked_70) (by kernel_rfl) ?_
      refine wpE_region (id := 19) (ops := r_towpathlaw14_asked_68) (by kernel_rfl) ?_
      refine reg_run [.plain] 1 [(0, [], Value.pointer l_), (1, [], Value.pointer r), (7, [], Value.bool ok), (14, [], Value.int .i64 s), (15, [], Value.pointer (some ⟨b_1, 0, none⟩)), (16, [], Value.bool more), (94, [], Value.pointer r)] (by kernel_rfl) (by kernel_rfl) ?_
      refine reg_enter (op := (Go.Op.call (Go.Call.mk (Go.Callee.value (Go.Operand.func 56)) #[(Go.Operand.tmp 94)] #[41]))) (ty := 66) (dst := some 95) 56 #[Value.pointer r] (by kernel_rfl) (fun ww => by kernel_rfl) (Calls.mono h ?_)
      rintro _ w6 ⟨shard, v95_1, is, rfl, h⟩
      refine ⟨_, rfl, ?_⟩
      refine reg_run [.plain, .plain, .plain, .plain] 6 [(0, [], Value.pointer l_), (1, [], Value.pointer r), (7, [], Value.bool ok), (14, [], Value.int .i64 s), (15, [], Value.pointer (some ⟨b_1, 0, none⟩)), (16, [], Value.bool more), (96, [], Value.int .i64 shard), (97, [], Value.agg #[Value.int .u8 v95_1.Kind, Value.int .i64 v95_1.From, Value.int .i64 v95_1.Number, Value.string v95_1.Write.Key, Value.string v95_1.Write.Val, Value.bool v95_1.Write.Drop, Value.string v95_1.Key, Value.string v95_1.End, Value.slice v95_1.Beyond.ptr v95_1.Beyond.len v95_1.Beyond.cap]), (98, [], Value.bool is)] (by kernel_rfl) (by kernel_rfl) ?_
      refine reg_new (op := (Go.Op.alloc 65)) (ty := 0) (dst := some 18) (fun bb => Value.pointer (some ⟨bb, 0, none⟩)) (Obj.cells ([Value.int .u8 0, Value.int .i64 0, Value.int .i64 0, Value.string ByteArray.empty, Value.string ByteArray.empty, Value.bool false, Value.string ByteArray.empty, Value.string ByteArray.empty, Value.slice none 0 0]).toArray ty_api_Req (0, 0)) (by kernel_rfl) (by kernel_rfl) (fun b_2 w7 hb hw => ?_)
      replace h := h b_2 w7 hb hw
      clear hb hw
      refine reg_run [.plain] 8 [(0, [], Value.pointer l_), (1, [], Value.pointer r), (7, [], Value.bool ok), (14, [], Value.int .i64 s), (15, [], Value.pointer (some ⟨b_1, 0, none⟩)), (16, [], Value.bool more), (17, [], Value.int .i64 shard), (18, [], Value.pointer (some ⟨b_2, 0, none⟩)), (97, [], Value.agg #[Value.int .u8 v95_1.Kind, Value.int .i64 v95_1.From, Value.int .i64 v95_1.Number, Value.string v95_1.Write.Key, Value.string v95_1.Write.Val, Value.bool v95_1.Write.Drop, Value.string v95_1.Key, Value.string v95_1.End, Value.slice v95_1.Beyond.ptr v95_1.Beyond.len v95_1.Beyond.cap]), (98, [], Value.bool is)] (by kernel_rfl) (by kernel_rfl) ?_
      obtain ⟨hc, h⟩ := h
      refine reg_store (t := 65) (a := (Go.Operand.tmp 18)) (x := (Go.Operand.tmp 97)) (b := b_2) (o := 0) (ty := 0) (dst := none) [Value.int .u8 v95_1.Kind, Value.int .i64 v95_1.From, Value.int .i64 v95_1.Number, Value.string v95_1.Write.Key, Value.string v95_1.Write.Val, Value.bool v95_1.Write.Drop, Value.string v95_1.Key, Value.string v95_1.End, Value.slice v95_1.Beyond.ptr v95_1.Beyond.len v95_1.Beyond.cap] (by kernel_rfl) (by kernel_rfl) (by kernel_rfl) (k := 9) (by kernel_rfl) (by kernel_rfl) (by kernel_rfl) hc (fun w8 hw => ?_)
      replace h := h w8 hw
      clear hw
      refine reg_run [.plain] 10 [(0, [], Value.pointer l_), (1, [], Value.pointer r), (7, [], Value.bool ok), (14, [], Value.int .i64 s), (15, [], Value.pointer (some ⟨b_1, 0, none⟩)), (16, [], Value.bool more), (17, [], Value.int .i64 shard), (18, [], Value.pointer (some ⟨b_2, 0, none⟩)), (19, [], Value.bool is)] (by kernel_rfl) (by kernel_rfl) ?_
      refine reg_end [(0, Value.pointer l_), (1, Value.pointer r), (7, Value.bool ok), (14, Value.int .i64 s), (15, Value.pointer (some ⟨b_1, 0, none⟩)), (16, Value.bool more), (17, Value.int .i64 shard), (18, Value.pointer (some ⟨b_2, 0, none⟩)), (19, Value.bool is)] (by kernel_rfl) (by kernel_rfl) ?_
      change WpE _ _ c_towpathlaw14_asked_70 _ _ _
      refine wpE_seq (x := c_towpathlaw14_asked_71) (y := c_towpathlaw14_asked_73) (by kernel_rfl) ?_
      refine wpE_region (id := 20) (ops := r_towpathlaw14_asked_71) (by kernel_rfl) ?_
      refine reg_run [.plain, .plain, .plain, .plain, .plain, .pick, .plain, .plain, .plain, .plain, .pick, .plain] 12 [(0, [], Value.pointer l_), (1, [], Value.pointer r), (15, [], Value.pointer (some ⟨b_1, 0, none⟩)), (18, [], Value.pointer (some ⟨b_2, 0, none⟩)), (110, [], Value.bool ((ok && (s == shard)) && (more == is)))] (by kernel_rfl) (by kernel_rfl) ?_
      refine reg_split 110 ((ok && (s == shard)) && (more == is)) (by kernel_rfl) (fun hb => ?_) (fun hb => ?_)
      · replace h := h.1 hb
        refine reg_run [] 12 [(0, [], Value.pointer l_), (1, [], Value.pointer r), (15, [], Value.pointer (some ⟨b_1, 0, none⟩)), (18, [], Value.pointer (some ⟨b_2, 0, none⟩)), (110, [], Value.bool true)] (by kernel_rfl) (by kernel_rfl) ?_
        refine reg_run [] 12 [(0, [], Value.pointer l_), (1, [], Value.pointer r), (15, [], Value.pointer (some ⟨b_1, 0, none⟩)), (18, [], Value.pointer (some ⟨b_2, 0, none⟩)), (110, [], Value.bool true)] (by kernel_rfl) (by kernel_rfl) ?_
        obtain ⟨v111, hc, h⟩ := h
        refine reg_loadN (t := 65) (a := (Go.Operand.tmp 15)) (b := b_1) (o := 0) (ty := 65) (dst := some 111) [Value.int .u8 v111.Kind, Value.int .i64 v111.From, Value.int .i64 v111.Number, Value.string v111.Write.Key, Value.string v111.Write.Val, Value.bool v111.Write.Drop, Value.string v111.Key, Value.string v111.End, Value.slice v111.Beyond.ptr v111.Beyond.len v111.Beyond.cap] (by kernel_rfl) (by kernel_rfl) (by kernel_rfl) (k := 9) (by kernel_rfl) (by kernel_rfl) hc ?_
        refine reg_run [] 13 [(0, [], Value.pointer l_), (1, [], Value.pointer r), (18, [], Value.pointer (some ⟨b_2, 0, none⟩)), (110, [], Value.bool true), (111, [], Value.agg #[Value.int .u8 v111.Kind, Value.int .i64 v111.From, Value.int .i64 v111.Number, Value.string v111.Write.Key, Value.string v111.Write.Val, Value.bool v111.Write.Drop, Value.string v111.Key, Value.string v111.End, Value.slice v111.Beyond.ptr v111.Beyond.len v111.Beyond.cap])] (by kernel_rfl) (by kernel_rfl) ?_
        obtain ⟨v112, hc, h⟩ := h
        refine reg_loadN (t := 65) (a := (Go.Operand.tmp 18)) (b := b_2) (o := 0) (ty := 65) (dst := some 112) [Value.int .u8 v112.Kind, Value.int .i64 v112.From, Value.int .i64 v112.Number, Value.string v112.Write.Key, Value.string v112.Write.Val, Value.bool v112.Write.Drop, Value.string v112.Key, Value.string v112.End, Value.slice v112.Beyond.ptr v112.Beyond.len v112.Beyond.cap] (by kernel_rfl) (by kernel_rfl) (by kernel_rfl) (k := 9) (by kernel_rfl) (by kernel_rfl) hc ?_
        refine reg_run [] 14 [(0, [], Value.pointer l_), (1, [], Value.pointer r), (110, [], Value.bool true), (111, [], Value.agg #[Value.int .u8 v111.Kind, Value.int .i64 v111.From, Value.int .i64 v111.Number, Value.string v111.Write.Key, Value.string v111.Write.Val, Value.bool v111.Write.Drop, Value.string v111.Key, Value.string v111.End, Value.slice v111.Beyond.ptr v111.Beyond.len v111.Beyond.cap]), (112, [], Value.agg #[Value.int .u8 v112.Kind, Value.int .i64 v112.From, Value.int .i64 v112.Number, Value.string v112.Write.Key, Value.string v112.Write.Val, Value.bool v112.Write.Drop, Value.string v112.Key, Value.string v112.End, Value.slice v112.Beyond.ptr v112.Beyond.len v112.Beyond.cap])] (by kernel_rfl) (by kernel_rfl) ?_
        refine reg_enter (op := (Go.Op.call (Go.Call.mk (Go.Callee.value (Go.Operand.func 33)) #[(Go.Operand.tmp 111), (Go.Operand.tmp 112)] #[65, 65]))) (ty := 4) (dst := some 113) 33 #[Value.agg #[Value.int .u8 v111.Kind, Value.int .i64 v111.From, Value.int .i64 v111.Number, Value.string v111.Write.Key, Value.string v111.Write.Val, Value.bool v111.Write.Drop, Value.string v111.Key, Value.string v111.End, Value.slice v111.Beyond.ptr v111.Beyond.len v111.Beyond.cap], Value.agg #[Value.int .u8 v112.Kind, Value.int .i64 v112.From, Value.int .i64 v112.Number, Value.string v112.Write.Key, Value.string v112.Write.Val, Value.bool v112.Write.Drop, Value.string v112.Key, Value.string v112.End, Value.slice v112.Beyond.ptr v112.Beyond.len v112.Beyond.cap]] (by kernel_rfl) (fun ww => by kernel_rfl) (Calls.mono h ?_)
        rintro _ w9 ⟨v113, rfl, h⟩
        refine ⟨_, rfl, ?_⟩
        refine reg_run [.plain, .plain, .plain] 18 [(0, [], Value.pointer l_), (1, [], Value.pointer r), (115, [], Value.bool v113), (116, [(115, true)], Value.pointer l_)] (by kernel_rfl) (by kernel_rfl) ?_
        refine reg_split 115 v113 (by kernel_rfl) (fun hb => ?_) (fun hb => ?_)
        · replace h := h.1 hb
          refine reg_run [] 18 [(0, [], Value.pointer l_), (1, [], Value.pointer r), (115, [], Value.bool true), (116, [], Value.pointer l_)] (by kernel_rfl) (by kernel_rfl) ?_
          refine reg_run [] 18 [(0, [], Value.pointer l_), (1, [], Value.pointer r), (115, [], Value.bool true), (116, [], Value.pointer l_)] (by kernel_rfl) (by kernel_rfl) ?_
          refine reg_enter (op := (Go.Op.call (Go.Call.mk (Go.Callee.value (Go.Operand.func 25)) #[(Go.Operand.tmp 116)] #[38]))) (ty := 3) (dst := some 117) 25 #[Value.pointer l_] (by kernel_rfl) (fun ww => by kernel_rfl) (Calls.mono h ?_)
          rintro _ w10 ⟨v117, rfl, h⟩
          refine ⟨_, rfl, ?_⟩
          refine reg_run [.sure] 20 [(0, [], Value.pointer l_), (1, [], Value.pointer r), (115, [], Value.bool true), (117, [], Value.int .i64 v117), (118, [], Value.pointer r)] (by kernel_rfl) (by kernel_rfl) ?_
          refine reg_enter (op := (Go.Op.call (Go.Call.mk (Go.Callee.value (Go.Operand.func 57)) #[(Go.Operand.tmp 118)] #[41]))) (ty := 3) (dst := some 119) 57 #[Value.pointer r] (by kernel_rfl) (fun ww => by kernel_rfl) (Calls.mono h ?_)
          rintro _ w11 ⟨v119, rfl, h⟩
          refine ⟨_, rfl, ?_⟩
          refine reg_run [.sure, .plain, .plain, .plain] 25 [(1, [], Value.pointer r), (122, [], Value.bool (v117 == v119)), (123, [(122, true)], Value.pointer l_)] (by kernel_rfl) (by kernel_rfl) ?_
          refine reg_split 122 (v117 == v119) (by kernel_rfl) (fun hb => ?_) (fun hb => ?_)
          · replace h := h.1 hb
            refine reg_run [] 25 [(1, [], Value.pointer r), (122, [], Value.bool true), (123, [], Value.pointer l_)] (by kernel_rfl) (by kernel_rfl) ?_
            refine reg_run [] 25 [(1, [], Value.pointer r), (122, [], Value.bool true), (123, [], Value.pointer l_)] (by kernel_rfl) (by kernel_rfl) ?_
            refine reg_enter (op := (Go.Op.call (Go.Call.mk (Go.Callee.value (Go.Operand.func 28)) #[(Go.Operand.tmp 123)] #[38]))) (ty := 4) (dst := some 124) 28 #[Value.pointer l_] (by kernel_rfl) (fun ww => by kernel_rfl) (Calls.mono h ?_)
            rintro _ w12 ⟨v124, rfl, h⟩
            refine ⟨_, rfl, ?_⟩
            refine reg_run [.sure] 27 [(122, [], Value.bool true), (124, [], Value.bool v124), (125, [], Value.pointer r)] (by kernel_rfl) (by kernel_rfl) ?_
            refine reg_enter (op := (Go.Op.call (Go.Call.mk (Go.Callee.value (Go.Operand.func 58)) #[(Go.Operand.tmp 125)] #[41]))) (ty := 4) (dst := some 126) 58 #[Value.pointer r] (by kernel_rfl) (fun ww => by kernel_rfl) (Calls.mono h ?_)
            rintro _ w13 ⟨v126, rfl, h⟩
            refine ⟨_, rfl, ?_⟩
            refine reg_run [.sure, .plain, .plain] 31 [(6, [], Value.bool (v124 == v126))] (by kernel_rfl) (by kernel_rfl) ?_
            refine reg_end [(6, Value.bool (v124 == v126))] (by kernel_rfl) (by kernel_rfl) ?_
            change WpE _ _ c_towpathlaw14_asked_73 _ _ _
            refine wpE_ret (by kernel_rfl) ?_
            repeat (first | refine seqQ_ret ?_ | refine blockQ_ret ?_ | refine loopQ_ret ?_ | refine cutQ_ret ?_)
            exact retS (rs := [(Go.ResultVar.tmp 6)]) (v := Value.bool (v124 == v126)) (by kernel_rfl) (⟨by kernel_rfl, trivial⟩) ⟨(v124 == v126), rfl, h⟩
          · replace h := h.2 hb
            refine reg_run [] 25 [(1, [], Value.pointer r), (122, [], Value.bool false), (123, [], undef)] (by kernel_rfl) (by kernel_rfl) ?_
            refine reg_run [.skip, .skip, .skip, .skip, .plain, .plain] 31 [(6, [], Value.bool false)] (by kernel_rfl) (by kernel_rfl) ?_
            refine reg_end [(6, Value.bool false)] (by kernel_rfl) (by kernel_rfl) ?_
            change WpE _ _ c_towpathlaw14_asked_73 _ _ _
            refine wpE_ret (by kernel_rfl) ?_
            repeat (first | refine seqQ_ret ?_ | refine blockQ_ret ?_ | refine loopQ_ret ?_ | refine cutQ_ret ?_)
            exact retS (rs := [(Go.ResultVar.tmp 6)]) (v := Value.bool false) (by kernel_rfl) (⟨by kernel_rfl, trivial⟩) ⟨false, rfl, h⟩
        · replace h := h.2 hb
          refine reg_run [] 18 [(0, [], Value.pointer l_), (1, [], Value.pointer r), (115, [], Value.bool false), (116, [], undef)] (by kernel_rfl) (by kernel_rfl) ?_
          refine reg_run [.skip, .skip, .skip, .skip, .plain, .plain, .skip, .skip, .skip, .skip, .skip, .plain, .plain] 31 [(6, [], Value.bool false)] (by kernel_rfl) (by kernel_rfl) ?_
          refine reg_end [(6, Value.bool false)] (by kernel_rfl) (by kernel_rfl) ?_
          change WpE _ _ c_towpathlaw14_asked_73 _ _ _
          refine wpE_ret (by kernel_rfl) ?_
          repeat (first | refine seqQ_ret ?_ | refine blockQ_ret ?_ | refine loopQ_ret ?_ | refine cutQ_ret ?_)
          exact retS (rs := [(Go.ResultVar.tmp 6)]) (v := Value.bool false) (by kernel_rfl) (⟨by kernel_rfl, trivial⟩) ⟨false, rfl, h⟩
      · replace h := h.2 hb
        refine reg_run [] 12 [(0, [], Value.pointer l_), (1, [], Value.pointer r), (15, [], Value.pointer (some ⟨b_1, 0, none⟩)), (18, [], Value.pointer (some ⟨b_2, 0, none⟩)), (110, [], Value.bool false)] (by kernel_rfl) (by kernel_rfl) ?_
        refine reg_run [.skip, .skip, .skip, .plain, .plain, .skip, .skip, .skip, .skip, .skip, .plain, .plain, .skip, .skip, .skip, .skip, .skip, .plain, .plain] 31 [(6, [], Value.bool false)] (by kernel_rfl) (by kernel_rfl) ?_
        refine reg_end [(6, Value.bool false)] (by kernel_rfl) (by kernel_rfl) ?_
        change WpE _ _ c_towpathlaw14_asked_73 _ _ _
        refine wpE_ret (by kernel_rfl) ?_
        repeat (first | refine seqQ_ret ?_ | refine blockQ_ret ?_ | refine loopQ_ret ?_ | refine cutQ_ret ?_)
        exact retS (rs := [(Go.ResultVar.tmp 6)]) (v := Value.bool false) (by kernel_rfl) (⟨by kernel_rfl, trivial⟩) ⟨false, rfl, h⟩
  · rintro e w' ⟨v, rfl, r0, rfl, h⟩; exact ⟨r0, rfl, h⟩

/-! ### towpath/towpathlaw14.alive (function 20) -/
noncomputable def c_towpathlaw14_alive_0 : Code := (Try.f20.body).getD Code.skip
noncomputable def c_towpathlaw14_alive_1 : Code := Code.l c_towpathlaw14_alive_0
noncomputable def r_towpathlaw14_alive_1 : Array Oper := Code.ops c_towpathlaw14_alive_1
noncomputable def c_towpathlaw14_alive_3 : Code := Code.r c_towpathlaw14_alive_0
noncomputable def c_towpathlaw14_alive_4 : Code := Code.l c_towpathlaw14_alive_3
noncomputable def r_towpathlaw14_alive_4 : Array Oper := Code.ops c_towpathlaw14_alive_4
noncomputable def c_towpathlaw14_alive_6 : Code := Code.r c_towpathlaw14_alive_3
noncomputable def c_towpathlaw14_alive_7 : Code := Code.l c_towpathlaw14_alive_6
noncomputable def r_towpathlaw14_alive_7 : Array Oper := Code.ops c_towpathlaw14_alive_7
noncomputable def c_towpathlaw14_alive_9 : Code := Code.r c_towpathlaw14_alive_6
noncomputable def c_towpathlaw14_alive_10 : Code := Code.l c_towpathlaw14_alive_9
noncomputable def r_towpathlaw14_alive_10 : Array Oper := Code.ops c_towpathlaw14_alive_10
noncomputable def c_towpathlaw14_alive_12 : Code := Code.r c_towpathlaw14_alive_9
noncomputable def c_towpathlaw14_alive_13 : Code := Code.l c_towpathlaw14_alive_12
noncomputable def c_towpathlaw14_alive_14 : Code := Code.l c_towpathlaw14_alive_13
noncomputable def r_towpathlaw14_alive_14 : Array Oper := Code.ops c_towpathlaw14_alive_14
noncomputable def c_towpathlaw14_alive_16 : Code := Code.r c_towpathlaw14_alive_13
noncomputable def c_towpathlaw14_alive_17 : Code := Code.l c_towpathlaw14_alive_16
noncomputable def c_towpathlaw14_alive_18 : Code := Code.l c_towpathlaw14_alive_17
noncomputable def r_towpathlaw14_alive_18 : Array Oper := Code.ops c_towpathlaw14_alive_18
noncomputable def c_towpathlaw14_alive_20 : Code := Code.r c_towpathlaw14_alive_17
noncomputable def c_towpathlaw14_alive_21 : Code := Code.r c_towpathlaw14_alive_16
noncomputable def c_towpathlaw14_alive_22 : Code := Code.r c_towpathlaw14_alive_12
noncomputable def c_towpathlaw14_alive_23 : Code := Code.l c_towpathlaw14_alive_22
noncomputable def r_towpathlaw14_alive_23 : Array Oper := Code.ops c_towpathlaw14_alive_23
noncomputable def c_towpathlaw14_alive_25 : Code := Code.r c_towpathlaw14_alive_22
noncomputable def c_towpathlaw14_alive_26 : Code := Code.l c_towpathlaw14_alive_25
noncomputable def r_towpathlaw14_alive_26 : Array Oper := Code.ops c_towpathlaw14_alive_26
noncomputable def c_towpathlaw14_alive_28 : Code := Code.r c_towpathlaw14_alive_25
noncomputable def c_towpathlaw14_alive_29 : Code := Code.l c_towpathlaw14_alive_28
noncomputable def r_towpathlaw14_alive_29 : Array Oper := Code.ops c_towpathlaw14_alive_29
noncomputable def c_towpathlaw14_alive_31 : Code := Code.r c_towpathlaw14_alive_28

set_option maxRecDepth 100000 in
set_option maxHeartbeats 4000000 in
theorem S_towpathlaw14_alive {w : World} {R : Bool → World → Prop} (h : F_towpathlaw14_alive R w) : C_towpathlaw14_alive w R := by
  unfold F_towpathlaw14_alive at h
  unfold C_towpathlaw14_alive
  refine Calls.mono (calls_of_wpE (args := []) (R := fun v w' => ∃ (r0 : Bool), v = Value.bool r0 ∧ R r0 w') Try.func20 (c := c_towpathlaw14_alive_0) (by kernel_rfl) 84 (by kernel_rfl) (by kernel_rfl) [] (by kernel_rfl) ?_) ?_
  · refine wpE_seq (x := c_towpathlaw14_alive_1) (y := c_towpathlaw14_alive_3) (by kernel_rfl) ?_
    refine wpE_region (id := 0) (ops := r_towpathlaw14_alive_1) (by kernel_rfl) ?_
    refine reg_run [.plain] 1 [] (by kernel_rfl) (by kernel_rfl) ?_
    refine reg_end [] (by kernel_rfl) (by kernel_rfl) ?_
    change WpE _ _ c_towpathlaw14_alive_3 _ _ _
    refine wpE_seq (x := c_towpathlaw14_alive_4) (y := c_towpathlaw14_alive_6) (by kernel_rfl) ?_
    refine wpE_region (id := 1) (ops := r_towpathlaw14_alive_4) (by kernel_rfl) ?_
    refine reg_run [.plain] 1 [(11, [], Value.agg #[Value.int .i64 1, Value.int .i64 1, Value.int .i64 1, Value.int .i64 1])] (by kernel_rfl) (by kernel_rfl) ?_
    refine reg_new (op := (Go.Op.alloc 35)) (ty := 0) (dst := some 1) (fun bb => Value.pointer (some ⟨bb, 0, none⟩)) (Obj.cells ([Value.int .i64 0, Value.int .i64 0, Value.int .i64 0, Value.int .i64 0]).toArray ty_api_Config (0, 0)) (by kernel_rfl) (by kernel_rfl) (fun b_ w1 hb hw => ?_)
    replace h := h b_ w1 hb hw
    clear hb hw
    refine reg_run [] 2 [(1, [], Value.pointer (some ⟨b_, 0, none⟩)), (11, [], Value.agg #[Value.int .i64 1, Value.int .i64 1, Value.int .i64 1, Value.int .i64 1])] (by kernel_rfl) (by kernel_rfl) ?_
    obtain ⟨hc, h⟩ := h
    refine reg_store (t := 35) (a := (Go.Operand.tmp 1)) (x := (Go.Operand.tmp 11)) (b := b_) (o := 0) (ty := 0) (dst := none) [Value.int .i64 1, Value.int .i64 1, Value.int .i64 1, Value.int .i64 1] (by kernel_rfl) (by kernel_rfl) (by kernel_rfl) (k := 4) (by kernel_rfl) (by kernel_rfl) (by kernel_rfl) hc (fun w2 hw => ?_)
    replace h := h w2 hw
    clear hw
    refine reg_end [(1, Value.pointer (some ⟨b_, 0, none⟩))] (by kernel_rfl) (by kernel_rfl) ?_
    change WpE _ _ c_towpathlaw14_alive_6 _ _ _
    refine wpE_seq (x := c_towpathlaw14_alive_7) (y := c_towpathlaw14_alive_9) (by kernel_rfl) ?_
    refine wpE_region (id := 2) (ops := r_towpathlaw14_alive_7) (by kernel_rfl) ?_
    refine reg_run [] 0 [(1, [], Value.pointer (some ⟨b_, 0, none⟩))] (by kernel_rfl) (by kernel_rfl) ?_
    obtain ⟨v13, hc, h⟩ := h
    refine reg_loadN (t := 35) (a := (Go.Operand.tmp 1)) (b := b_) (o := 0) (ty := 35) (dst := some 13) [Value.int .i64 v13.Lanes, Value.int .i64 v13.Shards, Value.int .i64 v13.Window, Value.int .i64 v13.Queue] (by kernel_rfl) (by kernel_rfl) (by kernel_rfl) (k := 4) (by kernel_rfl) (by kernel_rfl) hc ?_
    refine reg_run [] 1 [(1, [], Value.pointer (some ⟨b_, 0, none⟩)), (13, [], Value.agg #[Value.int .i64 v13.Lanes, Value.int .i64 v13.Shards, Value.int .i64 v13.Window, Value.int .i64 v13.Queue])] (by kernel_rfl) (by kernel_rfl) ?_
    refine reg_enter (op := (Go.Op.call (Go.Call.mk (Go.Callee.value (Go.Operand.func 17)) #[(Go.Operand.const (Go.Value.int Go.IntKind.i64 1)), (Go.Operand.tmp 13)] #[3, 35]))) (ty := 39) (dst := some 14) 17 #[Value.int .i64 1, Value.agg #[Value.int .i64 v13.Lanes, Value.int .i64 v13.Shards, Value.int .i64 v13.Window, Value.int .i64 v13.Queue]] (by kernel_rfl) (fun ww => by kernel_rfl) (Calls.mono h ?_)
    rintro _ w3 ⟨l_, e, rfl, h⟩
    refine ⟨_, rfl, ?_⟩
    refine reg_run [.plain, .plain, .plain, .plain, .plain] 7 [(1, [], Value.pointer (some ⟨b_, 0, none⟩)), (2, [], Value.pointer l_), (3, [], Value.int .i64 e)] (by kernel_rfl) (by kernel_rfl) ?_
    refine reg_end [(1, Value.pointer (some ⟨b_, 0, none⟩)), (2, Value.pointer l_), (3, Value.int .i64 e)] (by kernel_rfl) (by kernel_rfl) ?_
    change WpE _ _ c_towpathlaw14_alive_9 _ _ _
    refine wpE_seq (x := c_towpathlaw14_alive_10) (y := c_towpathlaw14_alive_12) (by kernel_rfl) ?_
    refine wpE_region (id := 3) (ops := r_towpathlaw14_alive_10) (by kernel_rfl) ?_
    refine reg_run [] 0 [(1, [], Value.pointer (some ⟨b_, 0, none⟩)), (2, [], Value.pointer l_), (3, [], Value.int .i64 e)] (by kernel_rfl) (by kernel_rfl) ?_
    obtain ⟨v18, hc, h⟩ := h
    refine reg_loadN (t := 35) (a := (Go.Operand.tmp 1)) (b := b_) (o := 0) (ty := 35) (dst := some 18) [Value.int .i64 v18.Lanes, Value.int .i64 v18.Shards, Value.int .i64 v18.Window, Value.int .i64 v18.Queue] (by kernel_rfl) (by kernel_rfl) (by kernel_rfl) (k := 4) (by kernel_rfl) (by kernel_rfl) hc ?_
    refine reg_run [] 1 [(2, [], Value.pointer l_), (3, [], Value.int .i64 e), (18, [], Value.agg #[Value.int .i64 v18.Lanes, Value.int .i64 v18.Shards, Value.int .i64 v18.Window, Value.int .i64 v18.Queue])] (by kernel_rfl) (by kernel_rfl) ?_
    refine reg_enter (op := (Go.Op.call (Go.Call.mk (Go.Callee.value (Go.Operand.func 17)) #[(Go.Operand.const (Go.Value.int Go.IntKind.i64 2)), (Go.Operand.tmp 18)] #[3, 35]))) (ty := 39) (dst := some 19) 17 #[Value.int .i64 2, Value.agg #[Value.int .i64 v18.Lanes, Value.int .i64 v18.Shards, Value.int .i64 v18.Window, Value.int .i64 v18.Queue]] (by kernel_rfl) (fun ww => by kernel_rfl) (Calls.mono h ?_)
    rintro _ w4 ⟨v19, f, rfl, h⟩
    refine ⟨_, rfl, ?_⟩
    refine reg_run [.plain, .plain, .plain, .plain, .plain] 7 [(2, [], Value.pointer l_), (3, [], Value.int .i64 e), (5, [], Value.int .i64 f)] (by kernel_rfl) (by kernel_rfl) ?_
    refine reg_end [(2, Value.pointer l_), (3, Value.int .i64 e), (5, Value.int .i64 f)] (by kernel_rfl) (by kernel_rfl) ?_
    change WpE _ _ c_towpathlaw14_alive_12 _ _ _
    refine wpE_seq (x := c_towpathlaw14_alive_13) (y := c_towpathlaw14_alive_22) (by kernel_rfl) ?_
    refine wpE_seq_cut (x := c_towpathlaw14_alive_14) (y := c_towpathlaw14_alive_16) (by kernel_rfl) (fun l w => ∃ (t42 : Bool), l = [(2, Value.pointer l_), (42, Value.bool t42)] ∧ F_towpathlaw14_alive_k0 R l_ t42 w) ?_ ?_
    · refine wpE_region (id := 4) (ops := r_towpathlaw14_alive_14) (by kernel_rfl) ?_
      refine reg_run [.plain, .plain, .plain, .plain, .plain, .pick, .plain, .plain] 8 [(2, [], Value.pointer l_), (28, [], Value.bool ((e != 0) || (f != 1))), (29, [(28, false)], Value.pointer l_)] (by kernel_rfl) (by kernel_rfl) ?_
      refine reg_split 28 ((e != 0) || (f != 1)) (by kernel_rfl) (fun hb => ?_) (fun hb => ?_)
      · replace h := h.1 hb
        refine reg_run [] 8 [(2, [], Value.pointer l_), (28, [], Value.bool true), (29, [], undef)] (by kernel_rfl) (by kernel_rfl) ?_
        refine reg_run [.skip, .skip, .plain, .plain, .skip, .skip, .skip, .skip, .skip, .skip, .skip, .skip, .plain] 21 [(2, [], Value.pointer l_), (42, [], Value.bool true)] (by kernel_rfl) (by kernel_rfl) ?_
        refine reg_end [(2, Value.pointer l_), (42, Value.bool true)] (by kernel_rfl) (by kernel_rfl) ?_
        exact ⟨[(2, Value.pointer l_), (42, Value.bool true)], Sub.mk (by kernel_rfl), true, rfl, h⟩
      · replace h := h.2 hb
        refine reg_run [] 8 [(2, [], Value.pointer l_), (28, [], Value.bool false), (29, [], Value.pointer l_)] (by kernel_rfl) (by kernel_rfl) ?_
        refine reg_run [] 8 [(2, [], Value.pointer l_), (28, [], Value.bool false), (29, [], Value.pointer l_)] (by kernel_rfl) (by kernel_rfl) ?_
        refine reg_enter (op := (Go.Op.call (Go.Call.mk (Go.Callee.value (Go.Operand.func 29)) #[(Go.Operand.tmp 29)] #[38]))) (ty := 28) (dst := some 30) 29 #[Value.pointer l_] (by kernel_rfl) (fun ww => by kernel_rfl) (Calls.mono h ?_)
        rintro _ w11 ⟨v30, rfl, h⟩
        refine ⟨_, rfl, ?_⟩
        refine reg_run [.sure, .plain, .plain, .plain, .plain, .plain, .plain] 16 [(2, [], Value.pointer l_), (33, [], Value.bool (v30 != 9)), (34, [(33, false)], Value.pointer l_), (35, [(33, false)], Value.agg #[Value.string (ByteArray.mk #[97]), Value.string (ByteArray.mk #[49]), Value.bool false]), (36, [(33, false)], Value.agg #[Value.string (ByteArray.mk #[98]), Value.string (ByteArray.mk #[50]), Value.bool false]), (37, [(33, false)], Value.agg #[Value.string (ByteArray.mk #[97]), Value.string ByteArray.empty, Value.bool true])] (by kernel_rfl) (by kernel_rfl) ?_
        refine reg_split 33 (v30 != 9) (by kernel_rfl) (fun hb => ?_) (fun hb => ?_)
        · replace h := h.1 hb
          refine reg_run [] 16 [(2, [], Value.pointer l_), (33, [], Value.bool true), (34, [], undef), (35, [], undef), (36, [], undef), (37, [], undef)] (by kernel_rfl) (by kernel_rfl) ?_
          refine reg_run [.skip, .skip, .skip, .skip, .plain] 21 [(2, [], Value.pointer l_), (42, [], Value.bool true)] (by kernel_rfl) (by kernel_rfl) ?_
          refine reg_end [(2, Value.pointer l_), (42, Value.bool true)] (by kernel_rfl) (by kernel_rfl) ?_
          exact ⟨[(2, Value.pointer l_), (42, Value.bool true)], Sub.mk (by kernel_rfl), true, rfl, h⟩
        · replace h := h.2 hb
          refine reg_run [] 16 [(2, [], Value.pointer l_), (33, [], Value.bool false), (34, [], Value.pointer l_), (35, [], Value.agg #[Value.string (ByteArray.mk #[97]), Value.string (ByteArray.mk #[49]), Value.bool false]), (36, [], Value.agg #[Value.string (ByteArray.mk #[98]), Value.string (ByteArray.mk #[50]), Value.bool false]), (37, [], Value.agg #[Value.string (ByteArray.mk #[97]), Value.string ByteArray.empty, Value.bool true])] (by kernel_rfl) (by kernel_rfl) ?_
          refine reg_run [] 16 [(2, [], Value.pointer l_), (33, [], Value.bool false), (34, [], Value.pointer l_), (35, [], Value.agg #[Value.string (ByteArray.mk #[97]), Value.string (ByteArray.mk #[49]), Value.bool false]), (36, [], Value.agg #[Value.string (ByteArray.mk #[98]), Value.string (ByteArray.mk #[50]), Value.bool false]), (37, [], Value.agg #[Value.string (ByteArray.mk #[97]), Value.string ByteArray.empty, Value.bool true])] (by kernel_rfl) (by kernel_rfl) ?_
          refine reg_new (op := (Go.Op.buildSlice 25 3 #[(0, (Go.Operand.tmp 35)), (1, (Go.Operand.tmp 36)), (2, (Go.Operand.tmp 37))])) (ty := 25) (dst := some 38) (fun bb => Value.slice (some ⟨bb, 0, none⟩) 3 3) (Obj.cells ([Value.string (ByteArray.mk #[97]), Value.string (ByteArray.mk #[49]), Value.bool false, Value.string (ByteArray.mk #[98]), Value.string (ByteArray.mk #[50]), Value.bool false, Value.string (ByteArray.mk #[97]), Value.string ByteArray.empty, Value.bool true]).toArray ty_api_Write (0, 0)) (by kernel_rfl) (by kernel_rfl) (fun b_2 w12 hb hw => ?_)
          replace h := h b_2 w12 hb hw
          clear hb hw
          refine reg_run [.sure] 18 [(2, [], Value.pointer l_), (33, [], Value.bool false), (34, [], Value.pointer l_), (39, [], Value.agg #[Value.int .i64 4, Value.slice (some ⟨b_2, 0, none⟩) 3 3])] (by kernel_rfl) (by kernel_rfl) ?_
          refine reg_enter (op := (Go.Op.call (Go.Call.mk (Go.Callee.value (Go.Operand.func 23)) #[(Go.Operand.tmp 34), (Go.Operand.tmp 39)] #[38, 27]))) (ty := 28) (dst := some 40) 23 #[Value.pointer l_, Value.agg #[Value.int .i64 4, Value.slice (some ⟨b_2, 0, none⟩) 3 3]] (by kernel_rfl) (fun ww => by kernel_rfl) (Calls.mono h ?_)
          rintro _ w13 ⟨v40, rfl, h⟩
          refine ⟨_, rfl, ?_⟩
          refine reg_run [.sure, .plain] 21 [(2, [], Value.pointer l_), (42, [], Value.bool (v40 != 0))] (by kernel_rfl) (by kernel_rfl) ?_
          refine reg_end [(2, Value.pointer l_), (42, Value.bool (v40 != 0))] (by kernel_rfl) (by kernel_rfl) ?_
          exact ⟨[(2, Value.pointer l_), (42, Value.bool (v40 != 0))], Sub.mk (by kernel_rfl), (v40 != 0), rfl, h⟩
    · rintro _ w5 ⟨t42, rfl, h⟩
      unfold F_towpathlaw14_alive_k0 at h
      refine wpE_cond (o := (Operand.tmp 42)) (b := t42) (x := c_towpathlaw14_alive_17) (y := c_towpathlaw14_alive_21) (by kernel_rfl) (by kernel_rfl) (fun hb => ?_) (fun hb => ?_)
      · replace h := h.1 hb
        refine wpE_seq (x := c_towpathlaw14_alive_18) (y := c_towpathlaw14_alive_20) (by kernel_rfl) ?_
        refine wpE_region (id := 5) (ops := r_towpathlaw14_alive_18) (by kernel_rfl) ?_
        refine reg_run [.plain] 1 [(0, [], Value.bool false)] (by kernel_rfl) (by kernel_rfl) ?_
        refine reg_end [(0, Value.bool false)] (by kernel_rfl) (by kernel_rfl) ?_
        change WpE _ _ c_towpathlaw14_alive_20 _ _ _
        refine wpE_ret (by kernel_rfl) ?_
        repeat (first | refine seqQ_ret ?_ | refine blockQ_ret ?_ | refine loopQ_ret ?_ | refine cutQ_ret ?_)
        exact retS (rs := [(Go.ResultVar.tmp 0)]) (v := Value.bool false) (by kernel_rfl) (⟨by kernel_rfl, trivial⟩) ⟨false, rfl, h⟩
      · replace h := h.2 hb
        refine wpE_skip (by kernel_rfl) ?_
        change WpE _ _ c_towpathlaw14_alive_22 _ _ _
        refine wpE_seq (x := c_towpathlaw14_alive_23) (y := c_towpathlaw14_alive_25) (by kernel_rfl) ?_
        refine wpE_region (id := 6) (ops := r_towpathlaw14_alive_23) (by kernel_rfl) ?_
        refine reg_run [.plain] 1 [(2, [], Value.pointer l_), (44, [], Value.pointer l_)] (by kernel_rfl) (by kernel_rfl) ?_
        refine reg_enter (op := (Go.Op.call (Go.Call.mk (Go.Callee.value (Go.Operand.func 26)) #[(Go.Operand.tmp 44)] #[38]))) (ty := 66) (dst := some 45) 26 #[Value.pointer l_] (by kernel_rfl) (fun ww => by kernel_rfl) (Calls.mono h ?_)
        rintro _ w6 ⟨s, v45_1, ok, rfl, h⟩
        refine ⟨_, rfl, ?_⟩
        refine reg_run [.plain, .plain, .plain, .plain] 6 [(2, [], Value.pointer l_), (46, [], Value.int .i64 s), (47, [], Value.agg #[Value.int .u8 v45_1.Kind, Value.int .i64 v45_1.From, Value.int .i64 v45_1.Number, Value.string v45_1.Write.Key, Value.string v45_1.Write.Val, Value.bool v45_1.Write.Drop, Value.string v45_1.Key, Value.string v45_1.End, Value.slice v45_1.Beyond.ptr v45_1.Beyond.len v45_1.Beyond.cap]), (48, [], Value.bool ok)] (by kernel_rfl) (by kernel_rfl) ?_
        refine reg_new (op := (Go.Op.alloc 65)) (ty := 0) (dst := some 7) (fun bb => Value.pointer (some ⟨bb, 0, none⟩)) (Obj.cells ([Value.int .u8 0, Value.int .i64 0, Value.int .i64 0, Value.string ByteArray.empty, Value.string ByteArray.empty, Value.bool false, Value.string ByteArray.empty, Value.string ByteArray.empty, Value.slice none 0 0]).toArray ty_api_Req (0, 0)) (by kernel_rfl) (by kernel_rfl) (fun b_1 w7 hb hw => ?_)
        replace h := h b_1 w7 hb hw
        clear hb hw
        refine reg_run [.plain] 8 [(2, [], Value.pointer l_), (6, [], Value.int .i64 s), (7, [], Value.pointer (some ⟨b_1, 0, none⟩)), (47, [], Value.agg #[Value.int .u8 v45_1.Kind, Value.int .i64 v45_1.From, Value.int .i64 v45_1.Number, Value.string v45_1.Write.Key, Value.string v45_1.Write.Val, Value.bool v45_1.Write.Drop, Value.string v45_1.Key, Value.string v45_1.End, Value.slice v45_1.Beyond.ptr v45_1.Beyond.len v45_1.Beyond.cap]), (48, [], Value.bool ok)] (by kernel_rfl) (by kernel_rfl) ?_
        obtain ⟨hc, h⟩ := h
        refine reg_store (t := 65) (a := (Go.Operand.tmp 7)) (x := (Go.Operand.tmp 47)) (b := b_1) (o := 0) (ty := 0) (dst := none) [Value.int .u8 v45_1.Kind, Value.int .i64 v45_1.From, Value.int .i64 v45_1.Number, Value.string v45_1.Write.Key, Value.string v45_1.Write.Val, Value.bool v45_1.Write.Drop, Value.string v45_1.Key, Value.string v45_1.End, Value.slice v45_1.Beyond.ptr v45_1.Beyond.len v45_1.Beyond.cap] (by kernel_rfl) (by kernel_rfl) (by kernel_rfl) (k := 9) (by kernel_rfl) (by kernel_rfl) (by kernel_rfl) hc (fun w8 hw => ?_)
        replace h := h w8 hw
        clear hw
        refine reg_run [.plain] 10 [(2, [], Value.pointer l_), (6, [], Value.int .i64 s), (7, [], Value.pointer (some ⟨b_1, 0, none⟩)), (8, [], Value.bool ok)] (by kernel_rfl) (by kernel_rfl) ?_
        refine reg_end [(2, Value.pointer l_), (6, Value.int .i64 s), (7, Value.pointer (some ⟨b_1, 0, none⟩)), (8, Value.bool ok)] (by kernel_rfl) (by kernel_rfl) ?_
        change WpE _ _ c_towpathlaw14_alive_25 _ _ _
        refine wpE_seq (x := c_towpathlaw14_alive_26) (y := c_towpathlaw14_alive_28) (by kernel_rfl) ?_
        refine wpE_region (id := 7) (ops := r_towpathlaw14_alive_26) (by kernel_rfl) ?_
        refine reg_run [.plain] 1 [(2, [], Value.pointer l_), (6, [], Value.int .i64 s), (7, [], Value.pointer (some ⟨b_1, 0, none⟩)), (8, [], Value.bool ok), (50, [], Value.pointer l_)] (by kernel_rfl) (by kernel_rfl) ?_
        refine reg_enter (op := (Go.Op.call (Go.Call.mk (Go.Callee.value (Go.Operand.func 31)) #[(Go.Operand.tmp 50)] #[38]))) (ty := 68) (dst := some 51) 31 #[Value.pointer l_] (by kernel_rfl) (fun ww => by kernel_rfl) (Calls.mono h ?_)
        rintro _ w9 ⟨v51, g, rfl, h⟩
        refine ⟨_, rfl, ?_⟩
        refine reg_run [.plain, .plain, .plain, .plain, .plain] 7 [(2, [], Value.pointer l_), (6, [], Value.int .i64 s), (7, [], Value.pointer (some ⟨b_1, 0, none⟩)), (8, [], Value.bool ok), (10, [], Value.int .i64 g)] (by kernel_rfl) (by kernel_rfl) ?_
        refine reg_end [(2, Value.pointer l_), (6, Value.int .i64 s), (7, Value.pointer (some ⟨b_1, 0, none⟩)), (8, Value.bool ok), (10, Value.int .i64 g)] (by kernel_rfl) (by kernel_rfl) ?_
        change WpE _ _ c_towpathlaw14_alive_28 _ _ _
        refine wpE_seq (x := c_towpathlaw14_alive_29) (y := c_towpathlaw14_alive_31) (by kernel_rfl) ?_
        refine wpE_region (id := 8) (ops := r_towpathlaw14_alive_29) (by kernel_rfl) ?_
        refine reg_run [.plain, .plain, .plain, .plain, .pick, .plain, .plain] 7 [(2, [], Value.pointer l_), (7, [], Value.pointer (some ⟨b_1, 0, none⟩)), (10, [], Value.int .i64 g), (59, [], Value.bool (ok && (s == 0))), (60, [(59, true)], Value.pointer (some ⟨b_1, 3, none⟩))] (by kernel_rfl) (by kernel_rfl) ?_
        refine reg_split 59 (ok && (s == 0)) (by kernel_rfl) (fun hb => ?_) (fun hb => ?_)
        · replace h := h.1 hb
          refine reg_run [] 7 [(2, [], Value.pointer l_), (7, [], Value.pointer (some ⟨b_1, 0, none⟩)), (10, [], Value.int .i64 g), (59, [], Value.bool true), (60, [], Value.pointer (some ⟨b_1, 3, none⟩))] (by kernel_rfl) (by kernel_rfl) ?_
          refine reg_run [] 7 [(2, [], Value.pointer l_), (7, [], Value.pointer (some ⟨b_1, 0, none⟩)), (10, [], Value.int .i64 g), (59, [], Value.bool true), (60, [], Value.pointer (some ⟨b_1, 3, none⟩))] (by kernel_rfl) (by kernel_rfl) ?_
          obtain ⟨v61, hc, h⟩ := h
          refine reg_loadN (t := 61) (a := (Go.Operand.tmp 60)) (b := b_1) (o := 3) (ty := 61) (dst := some 61) [Value.string v61.Key, Value.string v61.Val, Value.bool v61.Drop] (by kernel_rfl) (by kernel_rfl) (by kernel_rfl) (k := 3) (by kernel_rfl) (by kernel_rfl) hc ?_
          refine reg_run [.sure] 9 [(2, [], Value.pointer l_), (7, [], Value.pointer (some ⟨b_1, 0, none⟩)), (10, [], Value.int .i64 g), (59, [], Value.bool true), (61, [], Value.agg #[Value.string v61.Key, Value.string v61.Val, Value.bool v61.Drop]), (62, [], Value.agg #[Value.string (ByteArray.mk #[98]), Value.string (ByteArray.mk #[50]), Value.bool false])] (by kernel_rfl) (by kernel_rfl) ?_
          refine reg_val (op := (Go.Op.binOp Go.BinOp.eql 61 (Go.Operand.tmp 61) (Go.Operand.tmp 62) 61)) (ty := 4) (dst := some 63) (Value.bool (((v61.Key == (ByteArray.mk #[98])) && (v61.Val == (ByteArray.mk #[50]))) && (v61.Drop == false))) (by kernel_rfl) (fun ww => run_struct_eql (xs := [Value.string v61.Key, Value.string v61.Val, Value.bool v61.Drop]) (ys := [Value.string (ByteArray.mk #[98]), Value.string (ByteArray.mk #[50]), Value.bool false]) (by kernel_rfl) (by kernel_rfl) (by kernel_rfl) (by kernel_rfl) (by kernel_rfl) ww) ?_
          refine reg_run [.plain, .plain, .plain] 13 [(2, [], Value.pointer l_), (7, [], Value.pointer (some ⟨b_1, 0, none⟩)), (10, [], Value.int .i64 g), (65, [], Value.bool (((v61.Key == (ByteArray.mk #[98])) && (v61.Val == (ByteArray.mk #[50]))) && (v61.Drop == false))), (66, [(65, true)], Value.pointer (some ⟨b_1, 1, none⟩))] (by kernel_rfl) (by kernel_rfl) ?_
          refine reg_split 65 (((v61.Key == (ByteArray.mk #[98])) && (v61.Val == (ByteArray.mk #[50]))) && (v61.Drop == false)) (by kernel_rfl) (fun hb => ?_) (fun hb => ?_)
          · replace h := h.1 hb
            refine reg_run [] 13 [(2, [], Value.pointer l_), (7, [], Value.pointer (some ⟨b_1, 0, none⟩)), (10, [], Value.int .i64 g), (65, [], Value.bool true), (66, [], Value.pointer (some ⟨b_1, 1, none⟩))] (by kernel_rfl) (by kernel_rfl) ?_
            refine reg_run [] 13 [(2, [], Value.pointer l_), (7, [], Value.pointer (some ⟨b_1, 0, none⟩)), (10, [], Value.int .i64 g), (65, [], Value.bool true), (66, [], Value.pointer (some ⟨b_1, 1, none⟩))] (by kernel_rfl) (by kernel_rfl) ?_
            obtain ⟨v67, hc, h⟩ := h
            refine reg_load1 (t := 3) (a := (Go.Operand.tmp 66)) (b := b_1) (o := 1) (ty := 3) (dst := some 67) (by kernel_rfl) (by kernel_rfl) (by kernel_rfl) hc ?_
            refine reg_run [.sure, .plain, .plain, .plain] 18 [(2, [], Value.pointer l_), (10, [], Value.int .i64 g), (70, [], Value.bool (v67 == 1)), (71, [(70, true)], Value.pointer (some ⟨b_1, 2, none⟩))] (by kernel_rfl) (by kernel_rfl) ?_
            refine reg_split 70 (v67 == 1) (by kernel_rfl) (fun hb => ?_) (fun hb => ?_)
            · replace h := h.1 hb
              refine reg_run [] 18 [(2, [], Value.pointer l_), (10, [], Value.int .i64 g), (70, [], Value.bool true), (71, [], Value.pointer (some ⟨b_1, 2, none⟩))] (by kernel_rfl) (by kernel_rfl) ?_
              refine reg_run [] 18 [(2, [], Value.pointer l_), (10, [], Value.int .i64 g), (70, [], Value.bool true), (71, [], Value.pointer (some ⟨b_1, 2, none⟩))] (by kernel_rfl) (by kernel_rfl) ?_
              obtain ⟨v72, hc, h⟩ := h
              refine reg_load1 (t := 3) (a := (Go.Operand.tmp 71)) (b := b_1) (o := 2) (ty := 3) (dst := some 72) (by kernel_rfl) (by kernel_rfl) (by kernel_rfl) hc ?_
              refine reg_run [.sure, .plain, .plain, .plain] 23 [(10, [], Value.int .i64 g), (75, [], Value.bool (v72 == 4)), (76, [(75, true)], Value.pointer l_)] (by kernel_rfl) (by kernel_rfl) ?_
              refine reg_split 75 (v72 == 4) (by kernel_rfl) (fun hb => ?_) (fun hb => ?_)
              · replace h := h.1 hb
                refine reg_run [] 23 [(10, [], Value.int .i64 g), (75, [], Value.bool true), (76, [], Value.pointer l_)] (by kernel_rfl) (by kernel_rfl) ?_
                refine reg_run [] 23 [(10, [], Value.int .i64 g), (75, [], Value.bool true), (76, [], Value.pointer l_)] (by kernel_rfl) (by kernel_rfl) ?_
                refine reg_enter (op := (Go.Op.call (Go.Call.mk (Go.Callee.value (Go.Operand.func 25)) #[(Go.Operand.tmp 76)] #[38]))) (ty := 3) (dst := some 77) 25 #[Value.pointer l_] (by kernel_rfl) (fun ww => by kernel_rfl) (Calls.mono h ?_)
                rintro _ w10 ⟨v77, rfl, h⟩
                refine ⟨_, rfl, ?_⟩
                refine reg_run [.sure, .plain, .plain, .plain, .plain, .pick, .plain] 31 [(0, [], Value.bool ((v77 == 4) && (g == 10)))] (by kernel_rfl) (by kernel_rfl) ?_
                refine reg_end [(0, Value.bool ((v77 == 4) && (g == 10)))] (by kernel_rfl) (by kernel_rfl) ?_
                change WpE _ _ c_towpathlaw14_alive_31 _ _ _
                refine wpE_ret (by kernel_rfl) ?_
                repeat (first | refine seqQ_ret ?_ | refine blockQ_ret ?_ | refine loopQ_ret ?_ | refine cutQ_ret ?_)
                exact retS (rs := [(Go.ResultVar.tmp 0)]) (v := Value.bool ((v77 == 4) && (g == 10))) (by kernel_rfl) (⟨by kernel_rfl, trivial⟩) ⟨((v77 == 4) && (g == 10)), rfl, h⟩
              · replace h := h.2 hb
                refine reg_run [] 23 [(10, [], Value.int .i64 g), (75, [], Value.bool false), (76, [], undef)] (by kernel_rfl) (by kernel_rfl) ?_
                refine reg_run [.skip, .skip, .plain, .plain, .skip, .skip, .plain, .plain] 31 [(0, [], Value.bool false)] (by kernel_rfl) (by kernel_rfl) ?_
                refine reg_end [(0, Value.bool false)] (by kernel_rfl) (by kernel_rfl) ?_
                change WpE _ _ c_towpathlaw14_alive_31 _ _ _
                refine wpE_ret (by kernel_rfl) ?_
                repeat (first | refine seqQ_ret ?_ | refine blockQ_ret ?_ | refine loopQ_ret ?_ | refine cutQ_ret ?_)
                exact retS (rs := [(Go.ResultVar.tmp 0)]) (v := Value.bool false) (by kernel_rfl) (⟨by kernel_rfl, trivial⟩) ⟨false, rfl, h⟩
            · replace h := h.2 hb
              refine reg_run [] 18 [(2, [], Value.pointer l_), (10, [], Value.int .i64 g), (70, [], Value.bool false), (71, [], undef)] (by kernel_rfl) (by kernel_rfl) ?_
              refine reg_run [.skip, .skip, .plain, .plain, .skip, .skip, .skip, .plain, .plain, .skip, .skip, .plain, .plain] 31 [(0, [], Value.bool false)] (by kernel_rfl) (by kernel_rfl) ?_
              refine reg_end [(0, Value.bool false)] (by kernel_rfl) (by kernel_rfl) ?_
              change WpE _ _ c_towpathlaw14_alive_31 _ _ _
              refine wpE_ret (by kernel_rfl) ?_
              repeat (first | refine seqQ_ret ?_ | refine blockQ_ret ?_ | refine loopQ_ret ?_ | refine cutQ_ret ?_)
              exact retS (rs := [(Go.ResultVar.tmp 0)]) (v := Value.bool false) (by kernel_rfl) (⟨by kernel_rfl, trivial⟩) ⟨false, rfl, h⟩
          · replace h := h.2 hb
            refine reg_run [] 13 [(2, [], Value.pointer l_), (7, [], Value.pointer (some ⟨b_1, 0, none⟩)), (10, [], Value.int .i64 g), (65, [], Value.bool false), (66, [], undef)] (by kernel_rfl) (by kernel_rfl) ?_
            refine reg_run [.skip, .skip, .plain, .plain, .skip, .skip, .skip, .plain, .plain, .skip, .skip, .skip, .plain, .plain, .skip, .skip, .plain, .plain] 31 [(0, [], Value.bool false)] (by kernel_rfl) (by kernel_rfl) ?_
            refine reg_end [(0, Value.bool false)] (by kernel_rfl) (by kernel_rfl) ?_
            change WpE _ _ c_towpathlaw14_alive_31 _ _ _
            refine wpE_ret (by kernel_rfl) ?_
            repeat (first | refine seqQ_ret ?_ | refine blockQ_ret ?_ | refine loopQ_ret ?_ | refine cutQ_ret ?_)
            exact retS (rs := [(Go.ResultVar.tmp 0)]) (v := Value.bool false) (by kernel_rfl) (⟨by kernel_rfl, trivial⟩) ⟨false, rfl, h⟩
        · replace h := h.2 hb
          refine reg_run [] 7 [(2, [], Value.pointer l_), (7, [], Value.pointer (some ⟨b_1, 0, none⟩)), (10, [], Value.int .i64 g), (59, [], Value.bool false), (60, [], undef)] (by kernel_rfl) (by kernel_rfl) ?_
          refine reg_run [.skip, .skip, .skip, .plain, .plain, .skip, .skip, .skip, .plain, .plain, .skip, .skip, .skip, .plain, .plain, .skip, .skip, .skip, .plain, .plain, .skip, .skip, .plain, .plain] 31 [(0, [], Value.bool false)] (by kernel_rfl) (by kernel_rfl) ?_
          refine reg_end [(0, Value.bool false)] (by kernel_rfl) (by kernel_rfl) ?_
          change WpE _ _ c_towpathlaw14_alive_31 _ _ _
          refine wpE_ret (by kernel_rfl) ?_
          repeat (first | refine seqQ_ret ?_ | refine blockQ_ret ?_ | refine loopQ_ret ?_ | refine cutQ_ret ?_)
          exact retS (rs := [(Go.ResultVar.tmp 0)]) (v := Value.bool false) (by kernel_rfl) (⟨by kernel_rfl, trivial⟩) ⟨false, rfl, h⟩
  · rintro e w' ⟨v, rfl, r0, rfl, h⟩; exact ⟨r0, rfl, h⟩
end Go.Proofs.Ytfmkemmgakdddaa
