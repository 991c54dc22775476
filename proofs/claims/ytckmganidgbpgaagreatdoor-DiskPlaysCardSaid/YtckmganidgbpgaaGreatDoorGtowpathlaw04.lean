/- WRITTEN BY PROGRAM (dec.py): for each Go function the clean formula F, the call's contract C, and the proof S that F gives C. -/
import Derived.Test.YtckmganidgbpgaaGreatDoorRows
import Derived.Test.YtckmganidgbpgaaGreatDoorGF
namespace Go.Proofs.YtckmganidgbpgaaGreatDoor
open Go
set_option linter.unusedVariables false

/-! ### towpath/towpathlaw04.beyond (function 4) -/
noncomputable def c_towpathlaw04_beyond_0 : Code := (Tryz.f4.body).getD Code.skip
noncomputable def c_towpathlaw04_beyond_1 : Code := Code.l c_towpathlaw04_beyond_0
noncomputable def r_towpathlaw04_beyond_1 : Array Oper := Code.ops c_towpathlaw04_beyond_1
noncomputable def c_towpathlaw04_beyond_3 : Code := Code.r c_towpathlaw04_beyond_0
noncomputable def c_towpathlaw04_beyond_4 : Code := Code.l c_towpathlaw04_beyond_3
noncomputable def r_towpathlaw04_beyond_4 : Array Oper := Code.ops c_towpathlaw04_beyond_4
noncomputable def c_towpathlaw04_beyond_6 : Code := Code.r c_towpathlaw04_beyond_3
noncomputable def c_towpathlaw04_beyond_7 : Code := Code.l c_towpathlaw04_beyond_6
noncomputable def c_towpathlaw04_beyond_8 : Code := Code.l c_towpathlaw04_beyond_7
noncomputable def r_towpathlaw04_beyond_8 : Array Oper := Code.ops c_towpathlaw04_beyond_8
noncomputable def c_towpathlaw04_beyond_10 : Code := Code.r c_towpathlaw04_beyond_7
noncomputable def c_towpathlaw04_beyond_11 : Code := Code.l c_towpathlaw04_beyond_10
noncomputable def c_towpathlaw04_beyond_12 : Code := Code.l c_towpathlaw04_beyond_11
noncomputable def c_towpathlaw04_beyond_13 : Code := Code.l c_towpathlaw04_beyond_12
noncomputable def c_towpathlaw04_beyond_14 : Code := Code.l c_towpathlaw04_beyond_13
noncomputable def r_towpathlaw04_beyond_14 : Array Oper := Code.ops c_towpathlaw04_beyond_14
noncomputable def c_towpathlaw04_beyond_16 : Code := Code.r c_towpathlaw04_beyond_13
noncomputable def c_towpathlaw04_beyond_17 : Code := Code.l c_towpathlaw04_beyond_16
noncomputable def c_towpathlaw04_beyond_18 : Code := Code.r c_towpathlaw04_beyond_16
noncomputable def c_towpathlaw04_beyond_19 : Code := Code.r c_towpathlaw04_beyond_12
noncomputable def c_towpathlaw04_beyond_20 : Code := Code.l c_towpathlaw04_beyond_19
noncomputable def c_towpathlaw04_beyond_21 : Code := Code.l c_towpathlaw04_beyond_20
noncomputable def c_towpathlaw04_beyond_22 : Code := Code.l c_towpathlaw04_beyond_21
noncomputable def r_towpathlaw04_beyond_22 : Array Oper := Code.ops c_towpathlaw04_beyond_22
noncomputable def c_towpathlaw04_beyond_24 : Code := Code.r c_towpathlaw04_beyond_21
noncomputable def c_towpathlaw04_beyond_25 : Code := Code.l c_towpathlaw04_beyond_24
noncomputable def r_towpathlaw04_beyond_25 : Array Oper := Code.ops c_towpathlaw04_beyond_25
noncomputable def c_towpathlaw04_beyond_27 : Code := Code.r c_towpathlaw04_beyond_24
noncomputable def c_towpathlaw04_beyond_28 : Code := Code.l c_towpathlaw04_beyond_27
noncomputable def c_towpathlaw04_beyond_29 : Code := Code.l c_towpathlaw04_beyond_28
noncomputable def r_towpathlaw04_beyond_29 : Array Oper := Code.ops c_towpathlaw04_beyond_29
noncomputable def c_towpathlaw04_beyond_31 : Code := Code.r c_towpathlaw04_beyond_28
noncomputable def c_towpathlaw04_beyond_32 : Code := Code.r c_towpathlaw04_beyond_27
noncomputable def c_towpathlaw04_beyond_33 : Code := Code.r c_towpathlaw04_beyond_19
noncomputable def r_towpathlaw04_beyond_33 : Array Oper := Code.ops c_towpathlaw04_beyond_33
noncomputable def c_towpathlaw04_beyond_35 : Code := Code.r c_towpathlaw04_beyond_6
noncomputable def c_towpathlaw04_beyond_36 : Code := Code.l c_towpathlaw04_beyond_35
noncomputable def r_towpathlaw04_beyond_36 : Array Oper := Code.ops c_towpathlaw04_beyond_36
noncomputable def c_towpathlaw04_beyond_38 : Code := Code.r c_towpathlaw04_beyond_35

set_option maxRecDepth 100000 in
set_option maxHeartbeats 4000000 in
theorem S_towpathlaw04_beyond {l_ : Slc} {w : World} {R : Bool → World → Prop} (h : F_towpathlaw04_beyond l_ R w) : C_towpathlaw04_beyond l_ w R := by
  unfold F_towpathlaw04_beyond at h
  unfold C_towpathlaw04_beyond
  refine Calls.mono (calls_of_wpE (args := [Value.slice l_.ptr l_.len l_.cap]) (R := fun v w' => ∃ (r0 : Bool), v = Value.bool r0 ∧ R r0 w') Tryz.func4 (c := c_towpathlaw04_beyond_0) (by kernel_rfl) 22 (by kernel_rfl) (by kernel_rfl) [(0, Value.slice l_.ptr l_.len l_.cap)] (by kernel_rfl) ?_) ?_
  · refine wpE_seq (x := c_towpathlaw04_beyond_1) (y := c_towpathlaw04_beyond_3) (by kernel_rfl) ?_
    refine wpE_region (id := 0) (ops := r_towpathlaw04_beyond_1) (by kernel_rfl) ?_
    refine reg_run [.plain] 1 [(0, [], Value.slice l_.ptr l_.len l_.cap)] (by kernel_rfl) (by kernel_rfl) ?_
    refine reg_end [(0, Value.slice l_.ptr l_.len l_.cap)] (by kernel_rfl) (by kernel_rfl) ?_
    change WpE _ _ c_towpathlaw04_beyond_3 _ _ _
    refine wpE_seq (x := c_towpathlaw04_beyond_4) (y := c_towpathlaw04_beyond_6) (by kernel_rfl) ?_
    refine wpE_region (id := 1) (ops := r_towpathlaw04_beyond_4) (by kernel_rfl) ?_
    refine reg_run [.plain] 1 [(0, [], Value.slice l_.ptr l_.len l_.cap), (3, [], Value.int .i64 0)] (by kernel_rfl) (by kernel_rfl) ?_
    refine reg_end [(0, Value.slice l_.ptr l_.len l_.cap), (3, Value.int .i64 0)] (by kernel_rfl) (by kernel_rfl) ?_
    change WpE _ _ c_towpathlaw04_beyond_6 _ _ _
    refine wpE_seq (x := c_towpathlaw04_beyond_7) (y := c_towpathlaw04_beyond_35) (by kernel_rfl) ?_
    refine wpE_seq (x := c_towpathlaw04_beyond_8) (y := c_towpathlaw04_beyond_10) (by kernel_rfl) ?_
    refine wpE_region (id := 2) (ops := r_towpathlaw04_beyond_8) (by kernel_rfl) ?_
    refine reg_run [.plain] 1 [(0, [], Value.slice l_.ptr l_.len l_.cap), (3, [], Value.int .i64 0), (4, [], Value.int .i64 0)] (by kernel_rfl) (by kernel_rfl) ?_
    refine reg_end [(0, Value.slice l_.ptr l_.len l_.cap), (3, Value.int .i64 0), (4, Value.int .i64 0)] (by kernel_rfl) (by kernel_rfl) ?_
    change WpE _ _ c_towpathlaw04_beyond_10 _ _ _
    refine wpE_block (id := 0) (x := c_towpathlaw04_beyond_11) (by kernel_rfl) ?_
    obtain ⟨I, μ, h0, hr⟩ := h
    refine wpE_loop (x := c_towpathlaw04_beyond_12) (by kernel_rfl) (fun m l w => ∃ (n_ : Int) (i : Int), l = [(0, Value.slice l_.ptr l_.len l_.cap), (3, Value.int .i64 n_), (4, Value.int .i64 i)] ∧ I n_ i w ∧ μ n_ i w = m) (l' := [(0, Value.slice l_.ptr l_.len l_.cap), (3, Value.int .i64 0), (4, Value.int .i64 0)]) (Sub.mk (by kernel_rfl)) ⟨0, 0, rfl, h0, rfl⟩ ?_
    rintro _ _ w1 ⟨n_, i, rfl, hI, rfl⟩
    obtain ⟨again_, again__h, h⟩ : ∃ again_ : Int → Int → World → Prop, (∀ n_' i' w', again_ n_' i' w' → I n_' i' w' ∧ μ n_' i' w' < μ n_ i w1) ∧ F_towpathlaw04_beyond_L0 l_ R again_ n_ i w1 := ⟨_, fun _ _ _ h => h, hr n_ i w1 hI⟩
    clear h0 hI
    unfold F_towpathlaw04_beyond_L0 at h
    refine wpE_seq (x := c_towpathlaw04_beyond_13) (y := c_towpathlaw04_beyond_19) (by kernel_rfl) ?_
    refine wpE_seq (x := c_towpathlaw04_beyond_14) (y := c_towpathlaw04_beyond_16) (by kernel_rfl) ?_
    refine wpE_region (id := 3) (ops := r_towpathlaw04_beyond_14) (by kernel_rfl) ?_
    refine reg_run [.plain, .plain, .plain, .plain] 4 [(0, [], Value.slice l_.ptr l_.len l_.cap), (3, [], Value.int .i64 n_), (4, [], Value.int .i64 i), (8, [], Value.bool (decide (i < ((l_.len : Nat) : Int))))] (by kernel_rfl) (by kernel_rfl) ?_
    refine reg_end [(0, Value.slice l_.ptr l_.len l_.cap), (3, Value.int .i64 n_), (4, Value.int .i64 i), (8, Value.bool (decide (i < ((l_.len : Nat) : Int))))] (by kernel_rfl) (by kernel_rfl) ?_
    change WpE _ _ c_towpathlaw04_beyond_16 _ _ _
    refine wpE_cond (o := (Operand.tmp 8)) (b := (decide (i < ((l_.len : Nat) : Int)))) (x := c_towpathlaw04_beyond_17) (y := c_towpathlaw04_beyond_18) (by kernel_rfl) (by kernel_rfl) (fun hb => ?_) (fun hb => ?_)
    · replace h := h.1 hb
      refine wpE_skip (by kernel_rfl) ?_
      change WpE _ _ c_towpathlaw04_beyond_19 _ _ _
      refine wpE_seq (x := c_towpathlaw04_beyond_20) (y := c_towpathlaw04_beyond_33) (by kernel_rfl) ?_
      refine wpE_block (id := 1) (x := c_towpathlaw04_beyond_21) (by kernel_rfl) ?_
      refine wpE_seq (x := c_towpathlaw04_beyond_22) (y := c_towpathlaw04_beyond_24) (by kernel_rfl) ?_
      refine wpE_region (id := 5) (ops := r_towpathlaw04_beyond_22) (by kernel_rfl) ?_
      refine reg_run [.plain, .plain, .plain, .plain] 4 [(0, [], Value.slice l_.ptr l_.len l_.cap), (3, [], Value.int .i64 n_), (4, [], Value.int .i64 i), (12, [], Value.int .i64 (IntKind.i64.wrap (n_ + 1))), (13, [], Value.slice l_.ptr l_.len l_.cap), (14, [], Value.int .i64 i)] (by kernel_rfl) (by kernel_rfl) ?_
      obtain ⟨hp_7, h⟩ := h
      refine reg_conv [(0, [], Value.slice l_.ptr l_.len l_.cap), (3, [], Value.int .i64 n_), (4, [], Value.int .i64 i), (12, [], Value.int .i64 (IntKind.i64.wrap (n_ + 1))), (13, [], Value.slice (some ⟨(pblk l_.ptr), (poff l_.ptr), none⟩) l_.len l_.cap), (14, [], Value.int .i64 i)] (congrArg (fun pp => ([(0, [], Value.slice l_.ptr l_.len l_.cap), (3, [], Value.int .i64 n_), (4, [], Value.int .i64 i), (12, [], Value.int .i64 (IntKind.i64.wrap (n_ + 1))), (13, [], Value.slice pp l_.len l_.cap), (14, [], Value.int .i64 i)] : GEnv)) hp_7) ?_
      obtain ⟨h0, h1, h⟩ := h
      refine reg_indexS (t := 22) (e := 47) (x := (Go.Operand.tmp 13)) (ix := (Go.Operand.tmp 14)) (b := (pblk l_.ptr)) (o := (poff l_.ptr)) (l := l_.len) (c := l_.cap) (k := .i64) (j := i) (ty := 0) (dst := some 15) (sz := 5) (by kernel_rfl) (by kernel_rfl) (by kernel_rfl) (by kernel_rfl) (by kernel_rfl) h0 h1 ?_
      refine reg_run [.plain] 6 [(0, [], Value.slice l_.ptr l_.len l_.cap), (3, [], Value.int .i64 n_), (4, [], Value.int .i64 i), (12, [], Value.int .i64 (IntKind.i64.wrap (n_ + 1))), (16, [], Value.pointer (some ⟨(pblk l_.ptr), ((poff l_.ptr) + i.toNat * 5) + 3, none⟩))] (by kernel_rfl) (by kernel_rfl) ?_
      obtain ⟨v17, hc, h⟩ := h
      refine reg_load1 (t := 45) (a := (Go.Operand.tmp 16)) (b := (pblk l_.ptr)) (o := (((poff l_.ptr) + i.toNat * 5) + 3)) (ty := 45) (dst := some 17) (by kernel_rfl) (by kernel_rfl) (by kernel_rfl) hc ?_
      refine reg_run [.plain, .plain, .plain] 10 [(0, [], Value.slice l_.ptr l_.len l_.cap), (3, [], Value.int .i64 (IntKind.i64.wrap ((IntKind.i64.wrap (n_ + 1)) + ((v17.len : Nat) : Int)))), (4, [], Value.int .i64 i)] (by kernel_rfl) (by kernel_rfl) ?_
      refine reg_end [(0, Value.slice l_.ptr l_.len l_.cap), (3, Value.int .i64 (IntKind.i64.wrap ((IntKind.i64.wrap (n_ + 1)) + ((v17.len : Nat) : Int)))), (4, Value.int .i64 i)] (by kernel_rfl) (by kernel_rfl) ?_
      change WpE _ _ c_towpathlaw04_beyond_24 _ _ _
      refine wpE_seq (x := c_towpathlaw04_beyond_25) (y := c_towpathlaw04_beyond_27) (by kernel_rfl) ?_
      refine wpE_region (id := 6) (ops := r_towpathlaw04_beyond_25) (by kernel_rfl) ?_
      refine reg_run [.plain, .plain] 2 [(0, [], Value.slice l_.ptr l_.len l_.cap), (3, [], Value.int .i64 (IntKind.i64.wrap ((IntKind.i64.wrap (n_ + 1)) + ((v17.len : Nat) : Int)))), (4, [], Value.int .i64 i), (21, [], Value.bool (decide ((IntKind.i64.wrap ((IntKind.i64.wrap (n_ + 1)) + ((v17.len : Nat) : Int))) > 1048576)))] (by kernel_rfl) (by kernel_rfl) ?_
      refine reg_end [(0, Value.slice l_.ptr l_.len l_.cap), (3, Value.int .i64 (IntKind.i64.wrap ((IntKind.i64.wrap (n_ + 1)) + ((v17.len : Nat) : Int)))), (4, Value.int .i64 i), (21, Value.bool (decide ((IntKind.i64.wrap ((IntKind.i64.wrap (n_ + 1)) + ((v17.len : Nat) : Int))) > 1048576)))] (by kernel_rfl) (by kernel_rfl) ?_
      change WpE _ _ c_towpathlaw04_beyond_27 _ _ _
      refine wpE_cond (o := (Operand.tmp 21)) (b := (decide ((IntKind.i64.wrap ((IntKind.i64.wrap (n_ + 1)) + ((v17.len : Nat) : Int))) > 1048576))) (x := c_towpathlaw04_beyond_28) (y := c_towpathlaw04_beyond_32) (by kernel_rfl) (by kernel_rfl) (fun hb => ?_) (fun hb => ?_)
      · replace h := h.1 hb
        refine wpE_seq (x := c_towpathlaw04_beyond_29) (y := c_towpathlaw04_beyond_31) (by kernel_rfl) ?_
        refine wpE_region (id := 7) (ops := r_towpathlaw04_beyond_29) (by kernel_rfl) ?_
        refine reg_run [.plain] 1 [(2, [], Value.bool true)] (by kernel_rfl) (by kernel_rfl) ?_
        refine reg_end [(2, Value.bool true)] (by kernel_rfl) (by kernel_rfl) ?_
        change WpE _ _ c_towpathlaw04_beyond_31 _ _ _
        refine wpE_ret (by kernel_rfl) ?_
        repeat (first | refine seqQ_ret ?_ | refine blockQ_ret ?_ | refine loopQ_ret ?_ | refine cutQ_ret ?_)
        exact retS (rs := [(Go.ResultVar.tmp 2)]) (v := Value.bool true) (by kernel_rfl) (⟨by kernel_rfl, trivial⟩) ⟨true, rfl, h⟩
      · replace h := h.2 hb
        refine wpE_skip (by kernel_rfl) ?_
        change WpE _ _ c_towpathlaw04_beyond_33 _ _ _
        refine wpE_region (id := 4) (ops := r_towpathlaw04_beyond_33) (by kernel_rfl) ?_
        refine reg_run [.plain, .plain, .plain] 3 [(0, [], Value.slice l_.ptr l_.len l_.cap), (3, [], Value.int .i64 (IntKind.i64.wrap ((IntKind.i64.wrap (n_ + 1)) + ((v17.len : Nat) : Int)))), (4, [], Value.int .i64 (IntKind.i64.wrap (i + 1)))] (by kernel_rfl) (by kernel_rfl) ?_
        refine reg_end [(0, Value.slice l_.ptr l_.len l_.cap), (3, Value.int .i64 (IntKind.i64.wrap ((IntKind.i64.wrap (n_ + 1)) + ((v17.len : Nat) : Int)))), (4, Value.int .i64 (IntKind.i64.wrap (i + 1)))] (by kernel_rfl) (by kernel_rfl) ?_
        have hb_ := again__h _ _ _ h
        exact ⟨_, hb_.2, [(0, Value.slice l_.ptr l_.len l_.cap), (3, Value.int .i64 (IntKind.i64.wrap ((IntKind.i64.wrap (n_ + 1)) + ((v17.len : Nat) : Int)))), (4, Value.int .i64 (IntKind.i64.wrap (i + 1)))], Sub.mk (by kernel_rfl), (IntKind.i64.wrap ((IntKind.i64.wrap (n_ + 1)) + ((v17.len : Nat) : Int))), (IntKind.i64.wrap (i + 1)), rfl, hb_.1, rfl⟩
    · replace h := h.2 hb
      refine wpE_exit (id := 0) (by kernel_rfl) ?_
      change WpE _ _ c_towpathlaw04_beyond_35 _ _ _
      refine wpE_seq (x := c_towpathlaw04_beyond_36) (y := c_towpathlaw04_beyond_38) (by kernel_rfl) ?_
      refine wpE_region (id := 8) (ops := r_towpathlaw04_beyond_36) (by kernel_rfl) ?_
      refine reg_run [.plain] 1 [(2, [], Value.bool false)] (by kernel_rfl) (by kernel_rfl) ?_
      refine reg_end [(2, Value.bool false)] (by kernel_rfl) (by kernel_rfl) ?_
      change WpE _ _ c_towpathlaw04_beyond_38 _ _ _
      refine wpE_ret (by kernel_rfl) ?_
      repeat (first | refine seqQ_ret ?_ | refine blockQ_ret ?_ | refine loopQ_ret ?_ | refine cutQ_ret ?_)
      exact retS (rs := [(Go.ResultVar.tmp 2)]) (v := Value.bool false) (by kernel_rfl) (⟨by kernel_rfl, trivial⟩) ⟨false, rfl, h⟩
  · rintro e w' ⟨v, rfl, r0, rfl, h⟩; exact ⟨r0, rfl, h⟩

/-! ### towpath/towpathlaw04.asked (function 7) -/
noncomputable def c_towpathlaw04_asked_0 : Code := (Tryz.f7.body).getD Code.skip
noncomputable def c_towpathlaw04_asked_1 : Code := Code.l c_towpathlaw04_asked_0
noncomputable def r_towpathlaw04_asked_1 : Array Oper := Code.ops c_towpathlaw04_asked_1
noncomputable def c_towpathlaw04_asked_3 : Code := Code.r c_towpathlaw04_asked_0
noncomputable def c_towpathlaw04_asked_4 : Code := Code.l c_towpathlaw04_asked_3
noncomputable def c_towpathlaw04_asked_5 : Code := Code.l c_towpathlaw04_asked_4
noncomputable def r_towpathlaw04_asked_5 : Array Oper := Code.ops c_towpathlaw04_asked_5
noncomputable def c_towpathlaw04_asked_7 : Code := Code.r c_towpathlaw04_asked_4
noncomputable def c_towpathlaw04_asked_8 : Code := Code.l c_towpathlaw04_asked_7
noncomputable def c_towpathlaw04_asked_9 : Code := Code.l c_towpathlaw04_asked_8
noncomputable def r_towpathlaw04_asked_9 : Array Oper := Code.ops c_towpathlaw04_asked_9
noncomputable def c_towpathlaw04_asked_11 : Code := Code.r c_towpathlaw04_asked_8
noncomputable def c_towpathlaw04_asked_12 : Code := Code.l c_towpathlaw04_asked_11
noncomputable def c_towpathlaw04_asked_13 : Code := Code.l c_towpathlaw04_asked_12
noncomputable def r_towpathlaw04_asked_13 : Array Oper := Code.ops c_towpathlaw04_asked_13
noncomputable def c_towpathlaw04_asked_15 : Code := Code.r c_towpathlaw04_asked_12
noncomputable def c_towpathlaw04_asked_16 : Code := Code.l c_towpathlaw04_asked_15
noncomputable def r_towpathlaw04_asked_16 : Array Oper := Code.ops c_towpathlaw04_asked_16
noncomputable def c_towpathlaw04_asked_18 : Code := Code.r c_towpathlaw04_asked_15
noncomputable def c_towpathlaw04_asked_19 : Code := Code.l c_towpathlaw04_asked_18
noncomputable def r_towpathlaw04_asked_19 : Array Oper := Code.ops c_towpathlaw04_asked_19
noncomputable def c_towpathlaw04_asked_21 : Code := Code.r c_towpathlaw04_asked_18
noncomputable def c_towpathlaw04_asked_22 : Code := Code.l c_towpathlaw04_asked_21
noncomputable def r_towpathlaw04_asked_22 : Array Oper := Code.ops c_towpathlaw04_asked_22
noncomputable def c_towpathlaw04_asked_24 : Code := Code.r c_towpathlaw04_asked_21
noncomputable def c_towpathlaw04_asked_25 : Code := Code.l c_towpathlaw04_asked_24
noncomputable def c_towpathlaw04_asked_26 : Code := Code.l c_towpathlaw04_asked_25
noncomputable def r_towpathlaw04_asked_26 : Array Oper := Code.ops c_towpathlaw04_asked_26
noncomputable def c_towpathlaw04_asked_28 : Code := Code.r c_towpathlaw04_asked_25
noncomputable def c_towpathlaw04_asked_29 : Code := Code.l c_towpathlaw04_asked_28
noncomputable def c_towpathlaw04_asked_30 : Code := Code.l c_towpathlaw04_asked_29
noncomputable def c_towpathlaw04_asked_31 : Code := Code.l c_towpathlaw04_asked_30
noncomputable def c_towpathlaw04_asked_32 : Code := Code.l c_towpathlaw04_asked_31
noncomputable def r_towpathlaw04_asked_32 : Array Oper := Code.ops c_towpathlaw04_asked_32
noncomputable def c_towpathlaw04_asked_34 : Code := Code.r c_towpathlaw04_asked_31
noncomputable def c_towpathlaw04_asked_35 : Code := Code.l c_towpathlaw04_asked_34
noncomputable def c_towpathlaw04_asked_36 : Code := Code.r c_towpathlaw04_asked_34
noncomputable def c_towpathlaw04_asked_37 : Code := Code.r c_towpathlaw04_asked_30
noncomputable def c_towpathlaw04_asked_38 : Code := Code.l c_towpathlaw04_asked_37
noncomputable def c_towpathlaw04_asked_39 : Code := Code.l c_towpathlaw04_asked_38
noncomputable def r_towpathlaw04_asked_39 : Array Oper := Code.ops c_towpathlaw04_asked_39
noncomputable def c_towpathlaw04_asked_41 : Code := Code.r c_towpathlaw04_asked_37
noncomputable def r_towpathlaw04_asked_41 : Array Oper := Code.ops c_towpathlaw04_asked_41
noncomputable def c_towpathlaw04_asked_43 : Code := Code.r c_towpathlaw04_asked_24
noncomputable def c_towpathlaw04_asked_44 : Code := Code.l c_towpathlaw04_asked_43
noncomputable def r_towpathlaw04_asked_44 : Array Oper := Code.ops c_towpathlaw04_asked_44
noncomputable def c_towpathlaw04_asked_46 : Code := Code.r c_towpathlaw04_asked_43
noncomputable def c_towpathlaw04_asked_47 : Code := Code.r c_towpathlaw04_asked_11
noncomputable def c_towpathlaw04_asked_48 : Code := Code.l c_towpathlaw04_asked_47
noncomputable def r_towpathlaw04_asked_48 : Array Oper := Code.ops c_towpathlaw04_asked_48
noncomputable def c_towpathlaw04_asked_50 : Code := Code.r c_towpathlaw04_asked_47
noncomputable def c_towpathlaw04_asked_51 : Code := Code.l c_towpathlaw04_asked_50
noncomputable def c_towpathlaw04_asked_52 : Code := Code.l c_towpathlaw04_asked_51
noncomputable def r_towpathlaw04_asked_52 : Array Oper := Code.ops c_towpathlaw04_asked_52
noncomputable def c_towpathlaw04_asked_54 : Code := Code.r c_towpathlaw04_asked_51
noncomputable def c_towpathlaw04_asked_55 : Code := Code.r c_towpathlaw04_asked_50
noncomputable def c_towpathlaw04_asked_56 : Code := Code.l c_towpathlaw04_asked_55
noncomputable def r_towpathlaw04_asked_56 : Array Oper := Code.ops c_towpathlaw04_asked_56
noncomputable def c_towpathlaw04_asked_58 : Code := Code.r c_towpathlaw04_asked_55
noncomputable def c_towpathlaw04_asked_59 : Code := Code.l c_towpathlaw04_asked_58
noncomputable def c_towpathlaw04_asked_60 : Code := Code.l c_towpathlaw04_asked_59
noncomputable def r_towpathlaw04_asked_60 : Array Oper := Code.ops c_towpathlaw04_asked_60
noncomputable def c_towpathlaw04_asked_62 : Code := Code.r c_towpathlaw04_asked_59
noncomputable def c_towpathlaw04_asked_63 : Code := Code.r c_towpathlaw04_asked_58
noncomputable def c_towpathlaw04_asked_64 : Code := Code.l c_towpathlaw04_asked_63
noncomputable def r_towpathlaw04_asked_64 : Array Oper := Code.ops c_towpathlaw04_asked_64
noncomputable def c_towpathlaw04_asked_66 : Code := Code.r c_towpathlaw04_asked_63
noncomputable def c_towpathlaw04_asked_67 : Code := Code.l c_towpathlaw04_asked_66
noncomputable def c_towpathlaw04_asked_68 : Code := Code.l c_towpathlaw04_asked_67
noncomputable def r_towpathlaw04_asked_68 : Array Oper := Code.ops c_towpathlaw04_asked_68
noncomputable def c_towpathlaw04_asked_70 : Code := Code.r c_towpathlaw04_asked_67
noncomputable def c_towpathlaw04_asked_71 : Code := Code.r c_towpathlaw04_asked_66
noncomputable def c_towpathlaw04_asked_72 : Code := Code.r c_towpathlaw04_asked_3
noncomputable def c_towpathlaw04_asked_73 : Code := Code.l c_towpathlaw04_asked_72
noncomputable def r_towpathlaw04_asked_73 : Array Oper := Code.ops c_towpathlaw04_asked_73
noncomputable def c_towpathlaw04_asked_75 : Code := Code.r c_towpathlaw04_asked_72
noncomputable def c_towpathlaw04_asked_76 : Code := Code.l c_towpathlaw04_asked_75
noncomputable def r_towpathlaw04_asked_76 : Array Oper := Code.ops c_towpathlaw04_asked_76
noncomputable def c_towpathlaw04_asked_78 : Code := Code.r c_towpathlaw04_asked_75
noncomputable def c_towpathlaw04_asked_79 : Code := Code.l c_towpathlaw04_asked_78
noncomputable def r_towpathlaw04_asked_79 : Array Oper := Code.ops c_towpathlaw04_asked_79
noncomputable def c_towpathlaw04_asked_81 : Code := Code.r c_towpathlaw04_asked_78
def o_towpathlaw04_asked_52 : List Nat := [0, 1, 2, 4, 5, 6, 3, 7, 8, 9]
def o_towpathlaw04_asked_60 : List Nat := [0, 1, 2, 4, 5, 6, 3, 7, 8, 9]

set_option maxRecDepth 100000 in
set_option maxHeartbeats 4000000 in
theorem S_towpathlaw04_asked {d : Option Addr} {r : Option Addr} {o_ : T_towpathlaw04_Op} {w : World} {R : Bool → World → Prop} (h : F_towpathlaw04_asked d r o_ R w) : C_towpathlaw04_asked d r o_ w R := by
  unfold F_towpathlaw04_asked at h
  unfold C_towpathlaw04_asked
  refine Calls.mono (calls_of_wpE (args := [Value.pointer d, Value.pointer r, Value.agg #[Value.int .u8 o_.Kind, Value.int .i64 o_.Slot, Value.int .i64 o_.At, Value.slice o_.B.ptr o_.B.len o_.B.cap, Value.int .i64 o_.N]]) (R := fun v w' => ∃ (r0 : Bool), v = Value.bool r0 ∧ R r0 w') Tryz.func7 (c := c_towpathlaw04_asked_0) (by kernel_rfl) 108 (by kernel_rfl) (by kernel_rfl) [(0, Value.pointer d), (1, Value.pointer r), (2, Value.agg #[Value.int .u8 o_.Kind, Value.int .i64 o_.Slot, Value.int .i64 o_.At, Value.slice o_.B.ptr o_.B.len o_.B.cap, Value.int .i64 o_.N])] (by kernel_rfl) ?_) ?_
  · refine wpE_seq (x := c_towpathlaw04_asked_1) (y := c_towpathlaw04_asked_3) (by kernel_rfl) ?_
    refine wpE_region (id := 0) (ops := r_towpathlaw04_asked_1) (by kernel_rfl) ?_
    refine reg_run [] 0 [(0, [], Value.pointer d), (1, [], Value.pointer r), (2, [], Value.agg #[Value.int .u8 o_.Kind, Value.int .i64 o_.Slot, Value.int .i64 o_.At, Value.slice o_.B.ptr o_.B.len o_.B.cap, Value.int .i64 o_.N])] (by kernel_rfl) (by kernel_rfl) ?_
    refine reg_new (op := (Go.Op.box 47 (Go.Operand.tmp 2))) (ty := 0) (dst := some 5) (fun bb => Value.pointer (some ⟨bb, 0, none⟩)) (Obj.cells ([Value.int .u8 o_.Kind, Value.int .i64 o_.Slot, Value.int .i64 o_.At, Value.slice o_.B.ptr o_.B.len o_.B.cap, Value.int .i64 o_.N]).toArray ty_towpathlaw04_Op (0, 0)) (by kernel_rfl) (by kernel_rfl) (fun b_ w1 hb hw => ?_)
    replace h := h b_ w1 hb hw
    clear hb hw
    refine reg_run [.plain] 2 [(0, [], Value.pointer d), (1, [], Value.pointer r), (5, [], Value.pointer (some ⟨b_, 0, none⟩))] (by kernel_rfl) (by kernel_rfl) ?_
    refine reg_end [(0, Value.pointer d), (1, Value.pointer r), (5, Value.pointer (some ⟨b_, 0, none⟩))] (by kernel_rfl) (by kernel_rfl) ?_
    change WpE _ _ c_towpathlaw04_asked_3 _ _ _
    refine wpE_seq (x := c_towpathlaw04_asked_4) (y := c_towpathlaw04_asked_72) (by kernel_rfl) ?_
    refine wpE_seq (x := c_towpathlaw04_asked_5) (y := c_towpathlaw04_asked_7) (by kernel_rfl) ?_
    refine wpE_region (id := 1) (ops := r_towpathlaw04_asked_5) (by kernel_rfl) ?_
    refine reg_run [.plain] 1 [(0, [], Value.pointer d), (1, [], Value.pointer r), (5, [], Value.pointer (some ⟨b_, 0, none⟩)), (16, [], Value.pointer (some ⟨b_, 0, none⟩))] (by kernel_rfl) (by kernel_rfl) ?_
    obtain ⟨v17, hc, h⟩ := h
    refine reg_load1 (t := 5) (a := (Go.Operand.tmp 16)) (b := b_) (o := 0) (ty := 5) (dst := some 17) (by kernel_rfl) (by kernel_rfl) (by kernel_rfl) hc ?_
    refine reg_end [(0, Value.pointer d), (1, Value.pointer r), (5, Value.pointer (some ⟨b_, 0, none⟩)), (17, Value.int .u8 v17)] (by kernel_rfl) (by kernel_rfl) ?_
    change WpE _ _ c_towpathlaw04_asked_7 _ _ _
    refine wpE_block (id := 0) (x := c_towpathlaw04_asked_8) (by kernel_rfl) ?_
    refine wpE_seq (x := c_towpathlaw04_asked_9) (y := c_towpathlaw04_asked_11) (by kernel_rfl) ?_
    refine wpE_region (id := 2) (ops := r_towpathlaw04_asked_9) (by kernel_rfl) ?_
    refine reg_run [.plain, .plain] 2 [(0, [], Value.pointer d), (1, [], Value.pointer r), (5, [], Value.pointer (some ⟨b_, 0, none⟩)), (17, [], Value.int .u8 v17), (18, [], Value.bool (v17 == 1))] (by kernel_rfl) (by kernel_rfl) ?_
    refine reg_end [(0, Value.pointer d), (1, Value.pointer r), (5, Value.pointer (some ⟨b_, 0, none⟩)), (17, Value.int .u8 v17), (18, Value.bool (v17 == 1))] (by kernel_rfl) (by kernel_rfl) ?_
    change WpE _ _ c_towpathlaw04_asked_11 _ _ _
    refine wpE_cond (o := (Operand.tmp 18)) (b := (v17 == 1)) (x := c_towpathlaw04_asked_12) (y := c_towpathlaw04_asked_47) (by kernel_rfl) (by kernel_rfl) (fun hb => ?_) (fun hb => ?_)
    · replace h := h.1 hb
      refine wpE_seq (x := c_towpathlaw04_asked_13) (y := c_towpathlaw04_asked_15) (by kernel_rfl) ?_
      refine wpE_region (id := 3) (ops := r_towpathlaw04_asked_13) (by kernel_rfl) ?_
      refine reg_run [.plain] 1 [(0, [], Value.pointer d), (1, [], Value.pointer r), (5, [], Value.pointer (some ⟨b_, 0, none⟩)), (20, [], Value.pointer (some ⟨b_, 3, none⟩))] (by kernel_rfl) (by kernel_rfl) ?_
      obtain ⟨v21, hc, h⟩ := h
      refine reg_load1 (t := 45) (a := (Go.Operand.tmp 20)) (b := b_) (o := 3) (ty := 45) (dst := some 21) (by kernel_rfl) (by kernel_rfl) (by kernel_rfl) hc ?_
      refine reg_run [] 2 [(0, [], Value.pointer d), (1, [], Value.pointer r), (5, [], Value.pointer (some ⟨b_, 0, none⟩)), (21, [], Value.slice v21.ptr v21.len v21.cap)] (by kernel_rfl) (by kernel_rfl) ?_
      refine reg_enter (op := (Go.Op.call (Go.Call.mk (Go.Callee.value (Go.Operand.func 12)) #[(Go.Operand.tmp 21)] #[45]))) (ty := 45) (dst := some 22) 12 #[Value.slice v21.ptr v21.len v21.cap] (by kernel_rfl) (fun ww => by kernel_rfl) (Calls.mono h ?_)
      rintro _ w2 ⟨v22, rfl, h⟩
      refine ⟨_, rfl, ?_⟩
      refine reg_run [.plain] 4 [(0, [], Value.pointer d), (1, [], Value.pointer r), (5, [], Value.pointer (some ⟨b_, 0, none⟩)), (7, [], Value.slice v22.ptr v22.len v22.cap)] (by kernel_rfl) (by kernel_rfl) ?_
      refine reg_end [(0, Value.pointer d), (1, Value.pointer r), (5, Value.pointer (some ⟨b_, 0, none⟩)), (7, Value.slice v22.ptr v22.len v22.cap)] (by kernel_rfl) (by kernel_rfl) ?_
      change WpE _ _ c_towpathlaw04_asked_15 _ _ _
      refine wpE_seq (x := c_towpathlaw04_asked_16) (y := c_towpathlaw04_asked_18) (by kernel_rfl) ?_
      refine wpE_region (id := 4) (ops := r_towpathlaw04_asked_16) (by kernel_rfl) ?_
      refine reg_run [.plain, .plain] 2 [(0, [], Value.pointer d), (5, [], Value.pointer (some ⟨b_, 0, none⟩)), (7, [], Value.slice v22.ptr v22.len v22.cap), (23, [], Value.pointer r), (24, [], Value.pointer (some ⟨b_, 1, none⟩))] (by kernel_rfl) (by kernel_rfl) ?_
      obtain ⟨v25, hc, h⟩ := h
      refine reg_load1 (t := 3) (a := (Go.Operand.tmp 24)) (b := b_) (o := 1) (ty := 3) (dst := some 25) (by kernel_rfl) (by kernel_rfl) (by kernel_rfl) hc ?_
      refine reg_run [.plain] 4 [(0, [], Value.pointer d), (5, [], Value.pointer (some ⟨b_, 0, none⟩)), (7, [], Value.slice v22.ptr v22.len v22.cap), (23, [], Value.pointer r), (25, [], Value.int .i64 v25), (26, [], Value.pointer (some ⟨b_, 2, none⟩))] (by kernel_rfl) (by kernel_rfl) ?_
      obtain ⟨v27, hc, h⟩ := h
      refine reg_load1 (t := 3) (a := (Go.Operand.tmp 26)) (b := b_) (o := 2) (ty := 3) (dst := some 27) (by kernel_rfl) (by kernel_rfl) (by kernel_rfl) hc ?_
      refine reg_run [.plain] 6 [(0, [], Value.pointer d), (5, [], Value.pointer (some ⟨b_, 0, none⟩)), (7, [], Value.slice v22.ptr v22.len v22.cap), (23, [], Value.pointer r), (25, [], Value.int .i64 v25), (27, [], Value.int .i64 v27), (28, [], Value.pointer (some ⟨b_, 3, none⟩))] (by kernel_rfl) (by kernel_rfl) ?_
      obtain ⟨v29, hc, h⟩ := h
      refine reg_load1 (t := 45) (a := (Go.Operand.tmp 28)) (b := b_) (o := 3) (ty := 45) (dst := some 29) (by kernel_rfl) (by kernel_rfl) (by kernel_rfl) hc ?_
      refine reg_run [] 7 [(0, [], Value.pointer d), (5, [], Value.pointer (some ⟨b_, 0, none⟩)), (7, [], Value.slice v22.ptr v22.len v22.cap), (23, [], Value.pointer r), (25, [], Value.int .i64 v25), (27, [], Value.int .i64 v27), (29, [], Value.slice v29.ptr v29.len v29.cap)] (by kernel_rfl) (by kernel_rfl) ?_
      refine reg_enter (op := (Go.Op.call (Go.Call.mk (Go.Callee.value (Go.Operand.func 13)) #[(Go.Operand.tmp 23), (Go.Operand.tmp 25), (Go.Operand.tmp 27), (Go.Operand.tmp 29)] #[28, 3, 3, 45]))) (ty := 25) (dst := some 30) 13 #[Value.pointer r, Value.int .i64 v25, Value.int .i64 v27, Value.slice v29.ptr v29.len v29.cap] (by kernel_rfl) (fun ww => by kernel_rfl) (Calls.mono h ?_)
      rintro _ w3 ⟨v30, rfl, h⟩
      refine ⟨_, rfl, ?_⟩
      refine reg_run [.plain] 9 [(0, [], Value.pointer d), (5, [], Value.pointer (some ⟨b_, 0, none⟩)), (7, [], Value.slice v22.ptr v22.len v22.cap), (8, [], Value.int .i64 v30)] (by kernel_rfl) (by kernel_rfl) ?_
      refine reg_end [(0, Value.pointer d), (5, Value.pointer (some ⟨b_, 0, none⟩)), (7, Value.slice v22.ptr v22.len v22.cap), (8, Value.int .i64 v30)] (by kernel_rfl) (by kernel_rfl) ?_
      change WpE _ _ c_towpathlaw04_asked_18 _ _ _
      refine wpE_seq (x := c_towpathlaw04_asked_19) (y := c_towpathlaw04_asked_21) (by kernel_rfl) ?_
      refine wpE_region (id := 5) (ops := r_towpathlaw04_asked_19) (by kernel_rfl) ?_
      refine reg_run [.plain, .plain] 2 [(5, [], Value.pointer (some ⟨b_, 0, none⟩)), (7, [], Value.slice v22.ptr v22.len v22.cap), (8, [], Value.int .i64 v30), (31, [], Value.pointer d), (32, [], Value.pointer (some ⟨b_, 1, none⟩))] (by kernel_rfl) (by kernel_rfl) ?_
      obtain ⟨v33, hc, h⟩ := h
      refine reg_load1 (t := 3) (a := (Go.Operand.tmp 32)) (b := b_) (o := 1) (ty := 3) (dst := some 33) (by kernel_rfl) (by kernel_rfl) (by kernel_rfl) hc ?_
      refine reg_run [.plain] 4 [(5, [], Value.pointer (some ⟨b_, 0, none⟩)), (7, [], Value.slice v22.ptr v22.len v22.cap), (8, [], Value.int .i64 v30), (31, [], Value.pointer d), (33, [], Value.int .i64 v33), (34, [], Value.pointer (some ⟨b_, 2, none⟩))] (by kernel_rfl) (by kernel_rfl) ?_
      obtain ⟨v35, hc, h⟩ := h
      refine reg_load1 (t := 3) (a := (Go.Operand.tmp 34)) (b := b_) (o := 2) (ty := 3) (dst := some 35) (by kernel_rfl) (by kernel_rfl) (by kernel_rfl) hc ?_
      refine reg_run [.plain] 6 [(5, [], Value.pointer (some ⟨b_, 0, none⟩)), (7, [], Value.slice v22.ptr v22.len v22.cap), (8, [], Value.int .i64 v30), (31, [], Value.pointer d), (33, [], Value.int .i64 v33), (35, [], Value.int .i64 v35), (36, [], Value.slice v22.ptr v22.len v22.cap)] (by kernel_rfl) (by kernel_rfl) ?_
      refine reg_enter (op := (Go.Op.call (Go.Call.mk (Go.Callee.value (Go.Operand.func 14)) #[(Go.Operand.tmp 31), (Go.Operand.tmp 33), (Go.Operand.tmp 35), (Go.Operand.tmp 36)] #[24, 3, 3, 45]))) (ty := 25) (dst := some 37) 14 #[Value.pointer d, Value.int .i64 v33, Value.int .i64 v35, Value.slice v22.ptr v22.len v22.cap] (by kernel_rfl) (fun ww => by kernel_rfl) (Calls.mono h ?_)
      rintro _ w4 ⟨v37, rfl, h⟩
      refine ⟨_, rfl, ?_⟩
      refine reg_run [.plain] 8 [(5, [], Value.pointer (some ⟨b_, 0, none⟩)), (7, [], Value.slice v22.ptr v22.len v22.cap), (8, [], Value.int .i64 v30), (9, [], Value.int .i64 v37)] (by kernel_rfl) (by kernel_rfl) ?_
      refine reg_end [(5, Value.pointer (some ⟨b_, 0, none⟩)), (7, Value.slice v22.ptr v22.len v22.cap), (8, Value.int .i64 v30), (9, Value.int .i64 v37)] (by kernel_rfl) (by kernel_rfl) ?_
      change WpE _ _ c_towpathlaw04_asked_21 _ _ _
      refine wpE_seq (x := c_towpathlaw04_asked_22) (y := c_towpathlaw04_asked_24) (by kernel_rfl) ?_
      refine wpE_region (id := 6) (ops := r_towpathlaw04_asked_22) (by kernel_rfl) ?_
      refine reg_run [.plain, .plain] 2 [(7, [], Value.slice v22.ptr v22.len v22.cap), (8, [], Value.int .i64 v30), (9, [], Value.int .i64 v37), (38, [], Value.slice v22.ptr v22.len v22.cap), (39, [], Value.pointer (some ⟨b_, 3, none⟩))] (by kernel_rfl) (by kernel_rfl) ?_
      obtain ⟨v40, hc, h⟩ := h
      refine reg_load1 (t := 45) (a := (Go.Operand.tmp 39)) (b := b_) (o := 3) (ty := 45) (dst := some 40) (by kernel_rfl) (by kernel_rfl) (by kernel_rfl) hc ?_
      refine reg_run [] 3 [(7, [], Value.slice v22.ptr v22.len v22.cap), (8, [], Value.int .i64 v30), (9, [], Value.int .i64 v37), (38, [], Value.slice v22.ptr v22.len v22.cap), (40, [], Value.slice v40.ptr v40.len v40.cap)] (by kernel_rfl) (by kernel_rfl) ?_
      refine reg_enter (op := (Go.Op.call (Go.Call.mk (Go.Callee.value (Go.Operand.func 15)) #[(Go.Operand.tmp 38), (Go.Operand.tmp 40)] #[45, 45]))) (ty := 4) (dst := some 41) 15 #[Value.slice v22.ptr v22.len v22.cap, Value.slice v40.ptr v40.len v40.cap] (by kernel_rfl) (fun ww => by kernel_rfl) (Calls.mono h ?_)
      rintro _ w5 ⟨v41, rfl, h⟩
      refine ⟨_, rfl, ?_⟩
      refine reg_run [.plain] 5 [(7, [], Value.slice v22.ptr v22.len v22.cap), (8, [], Value.int .i64 v30), (9, [], Value.int .i64 v37), (10, [], Value.bool v41)] (by kernel_rfl) (by kernel_rfl) ?_
      refine reg_end [(7, Value.slice v22.ptr v22.len v22.cap), (8, Value.int .i64 v30), (9, Value.int .i64 v37), (10, Value.bool v41)] (by kernel_rfl) (by kernel_rfl) ?_
      change WpE _ _ c_towpathlaw04_asked_24 _ _ _
      refine wpE_seq (x := c_towpathlaw04_asked_25) (y := c_towpathlaw04_asked_43) (by kernel_rfl) ?_
      refine wpE_seq (x := c_towpathlaw04_asked_26) (y := c_towpathlaw04_asked_28) (by kernel_rfl) ?_
      refine wpE_region (id := 7) (ops := r_towpathlaw04_asked_26) (by kernel_rfl) ?_
      refine reg_run [.plain] 1 [(7, [], Value.slice v22.ptr v22.len v22.cap), (8, [], Value.int .i64 v30), (9, [], Value.int .i64 v37), (10, [], Value.bool v41), (11, [], Value.int .i64 0)] (by kernel_rfl) (by kernel_rfl) ?_
      refine reg_end [(7, Value.slice v22.ptr v22.len v22.cap), (8, Value.int .i64 v30), (9, Value.int .i64 v37), (10, Value.bool v41), (11, Value.int .i64 0)] (by kernel_rfl) (by kernel_rfl) ?_
      change WpE _ _ c_towpathlaw04_asked_28 _ _ _
      refine wpE_block (id := 1) (x := c_towpathlaw04_asked_29) (by kernel_rfl) ?_
      obtain ⟨I, μ, h0, hr⟩ := h
      refine wpE_loop (x := c_towpathlaw04_asked_30) (by kernel_rfl) (fun m l w => ∃ (i : Int), l = [(7, Value.slice v22.ptr v22.len v22.cap), (8, Value.int .i64 v30), (9, Value.int .i64 v37), (10, Value.bool v41), (11, Value.int .i64 i)] ∧ I i w ∧ μ i w = m) (l' := [(7, Value.slice v22.ptr v22.len v22.cap), (8, Value.int .i64 v30), (9, Value.int .i64 v37), (10, Value.bool v41), (11, Value.int .i64 0)]) (Sub.mk (by kernel_rfl)) ⟨0, rfl, h0, rfl⟩ ?_
      rintro _ _ w6 ⟨i, rfl, hI, rfl⟩
      obtain ⟨again_, again__h, h⟩ : ∃ again_ : Int → World → Prop, (∀ i' w', again_ i' w' → I i' w' ∧ μ i' w' < μ i w6) ∧ F_towpathlaw04_asked_L0 R v22 v30 v37 v41 again_ i w6 := ⟨_, fun _ _ h => h, hr i w6 hI⟩
      clear h0 hI
      unfold F_towpathlaw04_asked_L0 at h
      refine wpE_seq (x := c_towpathlaw04_asked_31) (y := c_towpathlaw04_asked_37) (by kernel_rfl) ?_
      refine wpE_seq (x := c_towpathlaw04_asked_32) (y := c_towpathlaw04_asked_34) (by kernel_rfl) ?_
      refine wpE_region (id := 8) (ops := r_towpathlaw04_asked_32) (by kernel_rfl) ?_
      refine reg_run [.plain, .plain, .plain, .plain] 4 [(7, [], Value.slice v22.ptr v22.len v22.cap), (8, [], Value.int .i64 v30), (9, [], Value.int .i64 v37), (10, [], Value.bool v41), (11, [], Value.int .i64 i), (45, [], Value.bool (decide (i < ((v22.len : Nat) : Int))))] (by kernel_rfl) (by kernel_rfl) ?_
      refine reg_end [(7, Value.slice v22.ptr v22.len v22.cap), (8, Value.int .i64 v30), (9, Value.int .i64 v37), (10, Value.bool v41), (11, Value.int .i64 i), (45, Value.bool (decide (i < ((v22.len : Nat) : Int))))] (by kernel_rfl) (by kernel_rfl) ?_
      change WpE _ _ c_towpathlaw04_asked_34 _ _ _
      refine wpE_cond (o := (Operand.tmp 45)) (b := (decide (i < ((v22.len : Nat) : Int)))) (x := c_towpathlaw04_asked_35) (y := c_towpathlaw04_asked_36) (by kernel_rfl) (by kernel_rfl) (fun hb => ?_) (fun hb => ?_)
      · replace h := h.1 hb
        refine wpE_skip (by kernel_rfl) ?_
        change WpE _ _ c_towpathlaw04_asked_37 _ _ _
        refine wpE_seq (x := c_towpathlaw04_asked_38) (y := c_towpathlaw04_asked_41) (by kernel_rfl) ?_
        refine wpE_block (id := 2) (x := c_towpathlaw04_asked_39) (by kernel_rfl) ?_
        refine wpE_region (id := 10) (ops := r_towpathlaw04_asked_39) (by kernel_rfl) ?_
        refine reg_run [.plain, .plain] 2 [(7, [], Value.slice v22.ptr v22.len v22.cap), (8, [], Value.int .i64 v30), (9, [], Value.int .i64 v37), (10, [], Value.bool v41), (11, [], Value.int .i64 i), (48, [], Value.slice v22.ptr v22.len v22.cap), (49, [], Value.int .i64 i)] (by kernel_rfl) (by kernel_rfl) ?_
        obtain ⟨hp_7, h⟩ := h
        refine reg_conv [(7, [], Value.slice v22.ptr v22.len v22.cap), (8, [], Value.int .i64 v30), (9, [], Value.int .i64 v37), (10, [], Value.bool v41), (11, [], Value.int .i64 i), (48, [], Value.slice (some ⟨(pblk v22.ptr), (poff v22.ptr), none⟩) v22.len v22.cap), (49, [], Value.int .i64 i)] (congrArg (fun pp => ([(7, [], Value.slice v22.ptr v22.len v22.cap), (8, [], Value.int .i64 v30), (9, [], Value.int .i64 v37), (10, [], Value.bool v41), (11, [], Value.int .i64 i), (48, [], Value.slice pp v22.len v22.cap), (49, [], Value.int .i64 i)] : GEnv)) hp_7) ?_
        obtain ⟨h0, h1, h⟩ := h
        refine reg_indexS1 (t := 45) (e := 5) (x := (Go.Operand.tmp 48)) (ix := (Go.Operand.tmp 49)) (b := (pblk v22.ptr)) (o := (poff v22.ptr)) (l := v22.len) (c := v22.cap) (k := .i64) (j := i) (ty := 0) (dst := some 50) (by kernel_rfl) (by kernel_rfl) (by kernel_rfl) (by kernel_rfl) (by kernel_rfl) h0 h1 ?_
        refine reg_run [] 3 [(7, [], Value.slice v22.ptr v22.len v22.cap), (8, [], Value.int .i64 v30), (9, [], Value.int .i64 v37), (10, [], Value.bool v41), (11, [], Value.int .i64 i), (50, [], Value.pointer (some ⟨(pblk v22.ptr), (poff v22.ptr) + i.toNat, none⟩))] (by kernel_rfl) (by kernel_rfl) ?_
        obtain ⟨hc, h⟩ := h
        refine reg_store (t := 5) (a := (Go.Operand.tmp 50)) (x := (Go.Operand.const (Go.Value.int Go.IntKind.u8 238))) (b := (pblk v22.ptr)) (o := ((poff v22.ptr) + i.toNat)) (ty := 0) (dst := none) [Value.int .u8 238] (by kernel_rfl) (by kernel_rfl) (by kernel_rfl) (k := 1) (by kernel_rfl) (by kernel_rfl) (by kernel_rfl) hc (fun w7 hw => ?_)
        replace h := h w7 hw
        clear hw
        refine reg_end [(7, Value.slice v22.ptr v22.len v22.cap), (8, Value.int .i64 v30), (9, Value.int .i64 v37), (10, Value.bool v41), (11, Value.int .i64 i)] (by kernel_rfl) (by kernel_rfl) ?_
        change WpE _ _ c_towpathlaw04_asked_41 _ _ _
        refine wpE_region (id := 9) (ops := r_towpathlaw04_asked_41) (by kernel_rfl) ?_
        refine reg_run [.plain, .plain, .plain] 3 [(7, [], Value.slice v22.ptr v22.len v22.cap), (8, [], Value.int .i64 v30), (9, [], Value.int .i64 v37), (10, [], Value.bool v41), (11, [], Value.int .i64 (IntKind.i64.wrap (i + 1)))] (by kernel_rfl) (by kernel_rfl) ?_
        refine reg_end [(7, Value.slice v22.ptr v22.len v22.cap), (8, Value.int .i64 v30), (9, Value.int .i64 v37), (10, Value.bool v41), (11, Value.int .i64 (IntKind.i64.wrap (i + 1)))] (by kernel_rfl) (by kernel_rfl) ?_
        have hb_ := again__h _ _ h
        exact ⟨_, hb_.2, [(7, Value.slice v22.ptr v22.len v22.cap), (8, Value.int .i64 v30), (9, Value.int .i64 v37), (10, Value.bool v41), (11, Value.int .i64 (IntKind.i64.wrap (i + 1)))], Sub.mk (by kernel_rfl), (IntKind.i64.wrap (i + 1)), rfl, hb_.1, rfl⟩
      · replace h := h.2 hb
        refine wpE_exit (id := 1) (by kernel_rfl) ?_
        change WpE _ _ c_towpathlaw04_asked_43 _ _ _
        refine wpE_seq (x := c_towpathlaw04_asked_44) (y := c_towpathlaw04_asked_46) (by kernel_rfl) ?_
        refine wpE_region (id := 11) (ops := r_towpathlaw04_asked_44) (by kernel_rfl) ?_
        refine reg_run [.plain, .plain, .plain, .plain, .plain, .pick, .plain] 7 [(6, [], Value.bool ((v37 == v30) && v41))] (by kernel_rfl) (by kernel_rfl) ?_
        refine reg_end [(6, Value.bool ((v37 == v30) && v41))] (by kernel_rfl) (by kernel_rfl) ?_
        change WpE _ _ c_towpathlaw04_asked_46 _ _ _
        refine wpE_ret (by kernel_rfl) ?_
        repeat (first | refine seqQ_ret ?_ | refine blockQ_ret ?_ | refine loopQ_ret ?_ | refine cutQ_ret ?_)
        exact retS (rs := [(Go.ResultVar.tmp 6)]) (v := Value.bool ((v37 == v30) && v41)) (by kernel_rfl) (⟨by kernel_rfl, trivial⟩) ⟨((v37 == v30) && v41), rfl, h⟩
    · replace h := h.2 hb
      refine wpE_seq (x := c_towpathlaw04_asked_48) (y := c_towpathlaw04_asked_50) (by kernel_rfl) ?_
      refine wpE_region (id := 12) (ops := r_towpathlaw04_asked_48) (by kernel_rfl) ?_
      refine reg_run [.plain, .plain] 2 [(0, [], Value.pointer d), (1, [], Value.pointer r), (5, [], Value.pointer (some ⟨b_, 0, none⟩)), (17, [], Value.int .u8 v17), (57, [], Value.bool (v17 == 2))] (by kernel_rfl) (by kernel_rfl) ?_
      refine reg_end [(0, Value.pointer d), (1, Value.pointer r), (5, Value.pointer (some ⟨b_, 0, none⟩)), (17, Value.int .u8 v17), (57, Value.bool (v17 == 2))] (by kernel_rfl) (by kernel_rfl) ?_
      change WpE _ _ c_towpathlaw04_asked_50 _ _ _
      refine wpE_cond (o := (Operand.tmp 57)) (b := (v17 == 2)) (x := c_towpathlaw04_asked_51) (y := c_towpathlaw04_asked_55) (by kernel_rfl) (by kernel_rfl) (fun hb => ?_) (fun hb => ?_)
      · replace h := h.1 hb
        refine wpE_seq (x := c_towpathlaw04_asked_52) (y := c_towpathlaw04_asked_54) (by kernel_rfl) ?_
        refine wpE_mixregion (id := 13) (ops := r_towpathlaw04_asked_52) o_towpathlaw04_asked_52 (by kernel_rfl) (by kernel_rfl) (by kernel_rfl) (by kernel_rfl) (fun w8 hw => ?_)
        replace h := h w8 hw
        clear hw
        refine mreg_run [.plain, .plain] 2 [(1, [], Value.pointer r), (5, [], Value.pointer (some ⟨b_, 0, none⟩)), (59, [], Value.pointer d), (60, [], Value.pointer (some ⟨b_, 1, none⟩))] (by kernel_rfl) (by kernel_rfl) ?_
        obtain ⟨v61, hc, h⟩ := h
        refine mreg_load1 (i := 2) (by kernel_rfl) (t := 3) (a := (Go.Operand.tmp 60)) (b := b_) (o := 1) (ty := 3) (dst := some 61) (by kernel_rfl) (by kernel_rfl) (by kernel_rfl) hc ?_
        refine mreg_run [.plain, .plain] 5 [(59, [], Value.pointer d), (61, [], Value.int .i64 v61), (63, [], Value.pointer r), (64, [], Value.pointer (some ⟨b_, 1, none⟩))] (by kernel_rfl) (by kernel_rfl) ?_
        obtain ⟨v65, hc, h⟩ := h
        refine mreg_load1 (i := 6) (by kernel_rfl) (t := 3) (a := (Go.Operand.tmp 64)) (b := b_) (o := 1) (ty := 3) (dst := some 65) (by kernel_rfl) (by kernel_rfl) (by kernel_rfl) hc ?_
        refine mreg_run [] 6 [(59, [], Value.pointer d), (61, [], Value.int .i64 v61), (63, [], Value.pointer r), (65, [], Value.int .i64 v65)] (by kernel_rfl) (by kernel_rfl) ?_
        refine mreg_enter (op := (Go.Op.call (Go.Call.mk (Go.Callee.value (Go.Operand.func 16)) #[(Go.Operand.tmp 59), (Go.Operand.tmp 61)] #[24, 3]))) (ty := 25) (dst := some 62) 3 [0, 2, 1] [(6, fun w' => w'.cell? ⟨b_, 1, none⟩ = some (Value.int .i64 v65))] 16 #[Value.pointer d, Value.int .i64 v61] (by kernel_rfl) (by kernel_rfl) (by kernel_rfl) (by kernel_rfl) (by kernel_rfl) (fun ww => by kernel_rfl) (Calls.mono h ?_)
        rintro _ w9 ⟨v62, rfl, h⟩
        obtain ⟨hk0, h⟩ := h
        refine ⟨_, rfl, ⟨hk0, trivial⟩, ?_⟩
        refine mreg_run [] 7 [(62, [], Value.int .i64 v62), (63, [], Value.pointer r), (65, [], Value.int .i64 v65)] (by kernel_rfl) (by kernel_rfl) ?_
        refine mreg_enter (op := (Go.Op.call (Go.Call.mk (Go.Callee.value (Go.Operand.func 17)) #[(Go.Operand.tmp 63), (Go.Operand.tmp 65)] #[28, 3]))) (ty := 25) (dst := some 66) 7 [3, 4, 6, 0, 2, 5, 1] [] 17 #[Value.pointer r, Value.int .i64 v65] (by kernel_rfl) (by kernel_rfl) (by kernel_rfl) (by kernel_rfl) (by kernel_rfl) (fun ww => by kernel_rfl) (Calls.mono h ?_)
        rintro _ w10 ⟨v66, rfl, h⟩
        refine ⟨_, rfl, trivial, ?_⟩
        refine mreg_run [.plain, .plain] 10 [(6, [], Value.bool (v62 == v66))] (by kernel_rfl) (by kernel_rfl) ?_
        refine mreg_end [(6, Value.bool (v62 == v66))] (by kernel_rfl) (by kernel_rfl) (by kernel_rfl) ?_
        change WpE _ _ c_towpathlaw04_asked_54 _ _ _
        refine wpE_ret (by kernel_rfl) ?_
        repeat (first | refine seqQ_ret ?_ | refine blockQ_ret ?_ | refine loopQ_ret ?_ | refine cutQ_ret ?_)
        exact retS (rs := [(Go.ResultVar.tmp 6)]) (v := Value.bool (v62 == v66)) (by kernel_rfl) (⟨by kernel_rfl, trivial⟩) ⟨(v62 == v66), rfl, h⟩
      · replace h := h.2 hb
        refine wpE_seq (x := c_towpathlaw04_asked_56) (y := c_towpathlaw04_asked_58) (by kernel_rfl) ?_
        refine wpE_region (id := 14) (ops := r_towpathlaw04_asked_56) (by kernel_rfl) ?_
        refine reg_run [.plain, .plain] 2 [(0, [], Value.pointer d), (1, [], Value.pointer r), (5, [], Value.pointer (some ⟨b_, 0, none⟩)), (17, [], Value.int .u8 v17), (68, [], Value.bool (v17 == 4))] (by kernel_rfl) (by kernel_rfl) ?_
        refine reg_end [(0, Value.pointer d), (1, Value.pointer r), (5, Value.pointer (some ⟨b_, 0, none⟩)), (17, Value.int .u8 v17), (68, Value.bool (v17 == 4))] (by kernel_rfl) (by kernel_rfl) ?_
        change WpE _ _ c_towpathlaw04_asked_58 _ _ _
        refine wpE_cond (o := (Operand.tmp 68)) (b := (v17 == 4)) (x := c_towpathlaw04_asked_59) (y := c_towpathlaw04_asked_63) (by kernel_rfl) (by kernel_rfl) (fun hb => ?_) (fun hb => ?_)
        · replace h := h.1 hb
          refine wpE_seq (x := c_towpathlaw04_asked_60) (y := c_towpathlaw04_asked_62) (by kernel_rfl) ?_
          refine wpE_mixregion (id := 15) (ops := r_towpathlaw04_asked_60) o_towpathlaw04_asked_60 (by kernel_rfl) (by kernel_rfl) (by kernel_rfl) (by kernel_rfl) (fun w11 hw => ?_)
          replace h := h w11 hw
          clear hw
          refine mreg_run [.plain, .plain] 2 [(1, [], Value.pointer r), (5, [], Value.pointer (some ⟨b_, 0, none⟩)), (70, [], Value.pointer d), (71, [], Value.pointer (some ⟨b_, 4, none⟩))] (by kernel_rfl) (by kernel_rfl) ?_
          obtain ⟨v72, hc, h⟩ := h
          refine mreg_load1 (i := 2) (by kernel_rfl) (t := 3) (a := (Go.Operand.tmp 71)) (b := b_) (o := 4) (ty := 3) (dst := some 72) (by kernel_rfl) (by kernel_rfl) (by kernel_rfl) hc ?_
          refine mreg_run [.plain, .plain] 5 [(70, [], Value.pointer d), (72, [], Value.int .i64 v72), (74, [], Value.pointer r), (75, [], Value.pointer (some ⟨b_, 4, none⟩))] (by kernel_rfl) (by kernel_rfl) ?_
          obtain ⟨v76, hc, h⟩ := h
          refine mreg_load1 (i := 6) (by kernel_rfl) (t := 3) (a := (Go.Operand.tmp 75)) (b := b_) (o := 4) (ty := 3) (dst := some 76) (by kernel_rfl) (by kernel_rfl) (by kernel_rfl) hc ?_
          refine mreg_run [] 6 [(70, [], Value.pointer d), (72, [], Value.int .i64 v72), (74, [], Value.pointer r), (76, [], Value.int .i64 v76)] (by kernel_rfl) (by kernel_rfl) ?_
          refine mreg_enter (op := (Go.Op.call (Go.Call.mk (Go.Callee.value (Go.Operand.func 18)) #[(Go.Operand.tmp 70), (Go.Operand.tmp 72)] #[24, 3]))) (ty := 25) (dst := some 73) 3 [0, 2, 1] [(6, fun w' => w'.cell? ⟨b_, 4, none⟩ = some (Value.int .i64 v76))] 18 #[Value.pointer d, Value.int .i64 v72] (by kernel_rfl) (by kernel_rfl) (by kernel_rfl) (by kernel_rfl) (by kernel_rfl) (fun ww => by kernel_rfl) (Calls.mono h ?_)
          rintro _ w12 ⟨v73, rfl, h⟩
          obtain ⟨hk0, h⟩ := h
          refine ⟨_, rfl, ⟨hk0, trivial⟩, ?_⟩
          refine mreg_run [] 7 [(73, [], Value.int .i64 v73), (74, [], Value.pointer r), (76, [], Value.int .i64 v76)] (by kernel_rfl) (by kernel_rfl) ?_
          refine mreg_enter (op := (Go.Op.call (Go.Call.mk (Go.Callee.value (Go.Operand.func 19)) #[(Go.Operand.tmp 74), (Go.Operand.tmp 76)] #[28, 3]))) (ty := 25) (dst := some 77) 7 [3, 4, 6, 0, 2, 5, 1] [] 19 #[Value.pointer r, Value.int .i64 v76] (by kernel_rfl) (by kernel_rfl) (by kernel_rfl) (by kernel_rfl) (by kernel_rfl) (fun ww => by kernel_rfl) (Calls.mono h ?_)
          rintro _ w13 ⟨v77, rfl, h⟩
          refine ⟨_, rfl, trivial, ?_⟩
          refine mreg_run [.plain, .plain] 10 [(6, [], Value.bool (v73 == v77))] (by kernel_rfl) (by kernel_rfl) ?_
          refine mreg_end [(6, Value.bool (v73 == v77))] (by kernel_rfl) (by kernel_rfl) (by kernel_rfl) ?_
          change WpE _ _ c_towpathlaw04_asked_62 _ _ _
          refine wpE_ret (by kernel_rfl) ?_
          repeat (first | refine seqQ_ret ?_ | refine blockQ_ret ?_ | refine loopQ_ret ?_ | refine cutQ_ret ?_)
          exact retS (rs := [(Go.ResultVar.tmp 6)]) (v := Value.bool (v73 == v77)) (by kernel_rfl) (⟨by kernel_rfl, trivial⟩) ⟨(v73 == v77), rfl, h⟩
        · replace h := h.2 hb
          refine wpE_seq (x := c_towpathlaw04_asked_64) (y := c_towpathlaw04_asked_66) (by kernel_rfl) ?_
          refine wpE_region (id := 16) (ops := r_towpathlaw04_asked_64) (by kernel_rfl) ?_
          refine reg_run [.plain, .plain] 2 [(0, [], Value.pointer d), (1, [], Value.pointer r), (5, [], Value.pointer (some ⟨b_, 0, none⟩)), (79, [], Value.bool (v17 == 5))] (by kernel_rfl) (by kernel_rfl) ?_
          refine reg_end [(0, Value.pointer d), (1, Value.pointer r), (5, Value.pointer (some ⟨b_, 0, none⟩)), (79, Value.bool (v17 == 5))] (by kernel_rfl) (by kernel_rfl) ?_
          change WpE _ _ c_towpathlaw04_asked_66 _ _ _
          refine wpE_cond (o := (Operand.tmp 79)) (b := (v17 == 5)) (x := c_towpathlaw04_asked_67) (y := c_towpathlaw04_asked_71) (by kernel_rfl) (by kernel_rfl) (fun hb => ?_) (fun hb => ?_)
          · replace h := h.1 hb
            refine wpE_seq (x := c_towpathlaw04_asked_68) (y := c_towpathlaw04_asked_70) (by kernel_rfl) ?_
            refine wpE_region (id := 17) (ops := r_towpathlaw04_asked_68) (by kernel_rfl) ?_
            refine reg_run [.plain] 1 [(1, [], Value.pointer r), (81, [], Value.pointer d)] (by kernel_rfl) (by kernel_rfl) ?_
            refine reg_enter (op := (Go.Op.call (Go.Call.mk (Go.Callee.value (Go.Operand.func 20)) #[(Go.Operand.tmp 81)] #[24]))) (ty := 25) (dst := some 82) 20 #[Value.pointer d] (by kernel_rfl) (fun ww => by kernel_rfl) (Calls.mono h ?_)
            rintro _ w14 ⟨v82, rfl, h⟩
            refine ⟨_, rfl, ?_⟩
            refine reg_run [.plain] 3 [(82, [], Value.int .i64 v82), (83, [], Value.pointer r)] (by kernel_rfl) (by kernel_rfl) ?_
            refine reg_enter (op := (Go.Op.call (Go.Call.mk (Go.Callee.value (Go.Operand.func 21)) #[(Go.Operand.tmp 83)] #[28]))) (ty := 25) (dst := some 84) 21 #[Value.pointer r] (by kernel_rfl) (fun ww => by kernel_rfl) (Calls.mono h ?_)
            rintro _ w15 ⟨v84, rfl, h⟩
            refine ⟨_, rfl, ?_⟩
            refine reg_run [.plain, .plain] 6 [(6, [], Value.bool (v82 == v84))] (by kernel_rfl) (by kernel_rfl) ?_
            refine reg_end [(6, Value.bool (v82 == v84))] (by kernel_rfl) (by kernel_rfl) ?_
            change WpE _ _ c_towpathlaw04_asked_70 _ _ _
            refine wpE_ret (by kernel_rfl) ?_
            repeat (first | refine seqQ_ret ?_ | refine blockQ_ret ?_ | refine loopQ_ret ?_ | refine cutQ_ret ?_)
            exact retS (rs := [(Go.ResultVar.tmp 6)]) (v := Value.bool (v82 == v84)) (by kernel_rfl) (⟨by kernel_rfl, trivial⟩) ⟨(v82 == v84), rfl, h⟩
          · replace h := h.2 hb
            refine wpE_skip (by kernel_rfl) ?_
            change WpE _ _ c_towpathlaw04_asked_72 _ _ _
            refine wpE_seq (x := c_towpathlaw04_asked_73) (y := c_towpathlaw04_asked_75) (by kernel_rfl) ?_
            refine wpE_region (id := 18) (ops := r_towpathlaw04_asked_73) (by kernel_rfl) ?_
            refine reg_run [.plain, .plain] 2 [(1, [], Value.pointer r), (5, [], Value.pointer (some ⟨b_, 0, none⟩)), (87, [], Value.pointer d), (88, [], Value.pointer (some ⟨b_, 1, none⟩))] (by kernel_rfl) (by kernel_rfl) ?_
            obtain ⟨v89, hc, h⟩ := h
            refine reg_load1 (t := 3) (a := (Go.Operand.tmp 88)) (b := b_) (o := 1) (ty := 3) (dst := some 89) (by kernel_rfl) (by kernel_rfl) (by kernel_rfl) hc ?_
            refine reg_run [] 3 [(1, [], Value.pointer r), (5, [], Value.pointer (some ⟨b_, 0, none⟩)), (87, [], Value.pointer d), (89, [], Value.int .i64 v89)] (by kernel_rfl) (by kernel_rfl) ?_
            refine reg_enter (op := (Go.Op.call (Go.Call.mk (Go.Callee.value (Go.Operand.func 9)) #[(Go.Operand.tmp 87), (Go.Operand.tmp 89)] #[24, 3]))) (ty := 49) (dst := some 90) 9 #[Value.pointer d, Value.int .i64 v89] (by kernel_rfl) (fun ww => by kernel_rfl) (Calls.mono h ?_)
            rintro _ w16 ⟨b_1, e, rfl, h⟩
            refine ⟨_, rfl, ?_⟩
            refine reg_run [.plain, .plain, .plain, .plain, .plain] 9 [(1, [], Value.pointer r), (5, [], Value.pointer (some ⟨b_, 0, none⟩)), (12, [], Value.slice b_1.ptr b_1.len b_1.cap), (13, [], Value.int .i64 e)] (by kernel_rfl) (by kernel_rfl) ?_
            refine reg_end [(1, Value.pointer r), (5, Value.pointer (some ⟨b_, 0, none⟩)), (12, Value.slice b_1.ptr b_1.len b_1.cap), (13, Value.int .i64 e)] (by kernel_rfl) (by kernel_rfl) ?_
            change WpE _ _ c_towpathlaw04_asked_75 _ _ _
            refine wpE_seq (x := c_towpathlaw04_asked_76) (y := c_towpathlaw04_asked_78) (by kernel_rfl) ?_
            refine wpE_region (id := 19) (ops := r_towpathlaw04_asked_76) (by kernel_rfl) ?_
            refine reg_run [.plain, .plain] 2 [(12, [], Value.slice b_1.ptr b_1.len b_1.cap), (13, [], Value.int .i64 e), (94, [], Value.pointer r), (95, [], Value.pointer (some ⟨b_, 1, none⟩))] (by kernel_rfl) (by kernel_rfl) ?_
            obtain ⟨v96, hc, h⟩ := h
            refine reg_load1 (t := 3) (a := (Go.Operand.tmp 95)) (b := b_) (o := 1) (ty := 3) (dst := some 96) (by kernel_rfl) (by kernel_rfl) (by kernel_rfl) hc ?_
            refine reg_run [] 3 [(12, [], Value.slice b_1.ptr b_1.len b_1.cap), (13, [], Value.int .i64 e), (94, [], Value.pointer r), (96, [], Value.int .i64 v96)] (by kernel_rfl) (by kernel_rfl) ?_
            refine reg_enter (op := (Go.Op.call (Go.Call.mk (Go.Callee.value (Go.Operand.func 22)) #[(Go.Operand.tmp 94), (Go.Operand.tmp 96)] #[28, 3]))) (ty := 49) (dst := some 97) 22 #[Value.pointer r, Value.int .i64 v96] (by kernel_rfl) (fun ww => by kernel_rfl) (Calls.mono h ?_)
            rintro _ w17 ⟨want, f, rfl, h⟩
            refine ⟨_, rfl, ?_⟩
            refine reg_run [.plain, .plain, .plain, .plain, .plain] 9 [(12, [], Value.slice b_1.ptr b_1.len b_1.cap), (13, [], Value.int .i64 e), (14, [], Value.slice want.ptr want.len want.cap), (15, [], Value.int .i64 f)] (by kernel_rfl) (by kernel_rfl) ?_
            refine reg_end [(12, Value.slice b_1.ptr b_1.len b_1.cap), (13, Value.int .i64 e), (14, Value.slice want.ptr want.len want.cap), (15, Value.int .i64 f)] (by kernel_rfl) (by kernel_rfl) ?_
            change WpE _ _ c_towpathlaw04_asked_78 _ _ _
            refine wpE_seq (x := c_towpathlaw04_asked_79) (y := c_towpathlaw04_asked_81) (by kernel_rfl) ?_
            refine wpE_region (id := 20) (ops := r_towpathlaw04_asked_79) (by kernel_rfl) ?_
            refine reg_run [.plain, .plain, .plain, .plain, .plain, .plain] 6 [(103, [], Value.bool (e == f)), (104, [(103, true)], Value.slice b_1.ptr b_1.len b_1.cap), (105, [(103, true)], Value.slice want.ptr want.len want.cap)] (by kernel_rfl) (by kernel_rfl) ?_
            refine reg_split 103 (e == f) (by kernel_rfl) (fun hb => ?_) (fun hb => ?_)
            · replace h := h.1 hb
              refine reg_run [] 6 [(103, [], Value.bool true), (104, [], Value.slice b_1.ptr b_1.len b_1.cap), (105, [], Value.slice want.ptr want.len want.cap)] (by kernel_rfl) (by kernel_rfl) ?_
              refine reg_run [] 6 [(103, [], Value.bool true), (104, [], Value.slice b_1.ptr b_1.len b_1.cap), (105, [], Value.slice want.ptr want.len want.cap)] (by kernel_rfl) (by kernel_rfl) ?_
              refine reg_enter (op := (Go.Op.call (Go.Call.mk (Go.Callee.value (Go.Operand.func 23)) #[(Go.Operand.tmp 104), (Go.Operand.tmp 105)] #[45, 45]))) (ty := 4) (dst := some 106) 23 #[Value.slice b_1.ptr b_1.len b_1.cap, Value.slice want.ptr want.len want.cap] (by kernel_rfl) (fun ww => by kernel_rfl) (Calls.mono h ?_)
              rintro _ w18 ⟨v106, rfl, h⟩
              refine ⟨_, rfl, ?_⟩
              refine reg_run [.plain, .plain] 9 [(6, [], Value.bool v106)] (by kernel_rfl) (by kernel_rfl) ?_
              refine reg_end [(6, Value.bool v106)] (by kernel_rfl) (by kernel_rfl) ?_
              change WpE _ _ c_towpathlaw04_asked_81 _ _ _
              refine wpE_ret (by kernel_rfl) ?_
              repeat (first | refine seqQ_ret ?_ | refine blockQ_ret ?_ | refine loopQ_ret ?_ | refine cutQ_ret ?_)
              exact retS (rs := [(Go.ResultVar.tmp 6)]) (v := Value.bool v106) (by kernel_rfl) (⟨by kernel_rfl, trivial⟩) ⟨v106, rfl, h⟩
            · replace h := h.2 hb
              refine reg_run [] 6 [(103, [], Value.bool false), (104, [], undef), (105, [], undef)] (by kernel_rfl) (by kernel_rfl) ?_
              refine reg_run [.skip, .plain, .plain] 9 [(6, [], Value.bool false)] (by kernel_rfl) (by kernel_rfl) ?_
              refine reg_end [(6, Value.bool false)] (by kernel_rfl) (by kernel_rfl) ?_
              change WpE _ _ c_towpathlaw04_asked_81 _ _ _
              refine wpE_ret (by kernel_rfl) ?_
              repeat (first | refine seqQ_ret ?_ | refine blockQ_ret ?_ | refine loopQ_ret ?_ | refine cutQ_ret ?_)
              exact retS (rs := [(Go.ResultVar.tmp 6)]) (v := Value.bool false) (by kernel_rfl) (⟨by kernel_rfl, trivial⟩) ⟨false, rfl, h⟩
  · rintro e w' ⟨v, rfl, r0, rfl, h⟩; exact ⟨r0, rfl, h⟩

/-! ### towpath/towpathlaw04.looks (function 8) -/
noncomputable def c_towpathlaw04_looks_0 : Code := (Tryz.f8.body).getD Code.skip
noncomputable def c_towpathlaw04_looks_1 : Code := Code.l c_towpathlaw04_looks_0
noncomputable def r_towpathlaw04_looks_1 : Array Oper := Code.ops c_towpathlaw04_looks_1
noncomputable def c_towpathlaw04_looks_3 : Code := Code.r c_towpathlaw04_looks_0
noncomputable def c_towpathlaw04_looks_4 : Code := Code.l c_towpathlaw04_looks_3
noncomputable def r_towpathlaw04_looks_4 : Array Oper := Code.ops c_towpathlaw04_looks_4
noncomputable def c_towpathlaw04_looks_6 : Code := Code.r c_towpathlaw04_looks_3

set_option maxRecDepth 100000 in
set_option maxHeartbeats 4000000 in
theorem S_towpathlaw04_looks {d : Option Addr} {r : Option Addr} {w : World} {R : Bool → World → Prop} (h : F_towpathlaw04_looks d r R w) : C_towpathlaw04_looks d r w R := by
  unfold F_towpathlaw04_looks at h
  unfold C_towpathlaw04_looks
  refine Calls.mono (calls_of_wpE (args := [Value.pointer d, Value.pointer r]) (R := fun v w' => ∃ (r0 : Bool), v = Value.bool r0 ∧ R r0 w') Tryz.func8 (c := c_towpathlaw04_looks_0) (by kernel_rfl) 24 (by kernel_rfl) (by kernel_rfl) [(0, Value.pointer d), (1, Value.pointer r)] (by kernel_rfl) ?_) ?_
  · refine wpE_seq (x := c_towpathlaw04_looks_1) (y := c_towpathlaw04_looks_3) (by kernel_rfl) ?_
    refine wpE_region (id := 0) (ops := r_towpathlaw04_looks_1) (by kernel_rfl) ?_
    refine reg_run [.plain] 1 [(0, [], Value.pointer d), (1, [], Value.pointer r)] (by kernel_rfl) (by kernel_rfl) ?_
    refine reg_end [(0, Value.pointer d), (1, Value.pointer r)] (by kernel_rfl) (by kernel_rfl) ?_
    change WpE _ _ c_towpathlaw04_looks_3 _ _ _
    refine wpE_seq (x := c_towpathlaw04_looks_4) (y := c_towpathlaw04_looks_6) (by kernel_rfl) ?_
    refine wpE_region (id := 1) (ops := r_towpathlaw04_looks_4) (by kernel_rfl) ?_
    refine reg_run [.plain] 1 [(0, [], Value.pointer d), (1, [], Value.pointer r), (5, [], Value.pointer d)] (by kernel_rfl) (by kernel_rfl) ?_
    refine reg_enter (op := (Go.Op.call (Go.Call.mk (Go.Callee.value (Go.Operand.func 24)) #[(Go.Operand.tmp 5)] #[24]))) (ty := 4) (dst := some 6) 24 #[Value.pointer d] (by kernel_rfl) (fun ww => by kernel_rfl) (Calls.mono h ?_)
    rintro _ w1 ⟨v6, rfl, h⟩
    refine ⟨_, rfl, ?_⟩
    refine reg_run [.plain] 3 [(0, [], Value.pointer d), (1, [], Value.pointer r), (6, [], Value.bool v6), (7, [], Value.pointer r)] (by kernel_rfl) (by kernel_rfl) ?_
    refine reg_enter (op := (Go.Op.call (Go.Call.mk (Go.Callee.value (Go.Operand.func 25)) #[(Go.Operand.tmp 7)] #[28]))) (ty := 4) (dst := some 8) 25 #[Value.pointer r] (by kernel_rfl) (fun ww => by kernel_rfl) (Calls.mono h ?_)
    rintro _ w2 ⟨v8, rfl, h⟩
    refine ⟨_, rfl, ?_⟩
    refine reg_run [.plain, .plain, .plain] 7 [(0, [], Value.pointer d), (1, [], Value.pointer r), (10, [], Value.bool (v6 == v8)), (11, [(10, true)], Value.pointer d)] (by kernel_rfl) (by kernel_rfl) ?_
    refine reg_split 10 (v6 == v8) (by kernel_rfl) (fun hb => ?_) (fun hb => ?_)
    · replace h := h.1 hb
      refine reg_run [] 7 [(0, [], Value.pointer d), (1, [], Value.pointer r), (10, [], Value.bool true), (11, [], Value.pointer d)] (by kernel_rfl) (by kernel_rfl) ?_
      refine reg_run [] 7 [(0, [], Value.pointer d), (1, [], Value.pointer r), (10, [], Value.bool true), (11, [], Value.pointer d)] (by kernel_rfl) (by kernel_rfl) ?_
      refine reg_enter (op := (Go.Op.call (Go.Call.mk (Go.Callee.value (Go.Operand.func 26)) #[(Go.Operand.tmp 11)] #[24]))) (ty := 3) (dst := some 12) 26 #[Value.pointer d] (by kernel_rfl) (fun ww => by kernel_rfl) (Calls.mono h ?_)
      rintro _ w3 ⟨v12, rfl, h⟩
      refine ⟨_, rfl, ?_⟩
      refine reg_run [.sure] 9 [(0, [], Value.pointer d), (1, [], Value.pointer r), (10, [], Value.bool true), (12, [], Value.int .i64 v12), (13, [], Value.pointer r)] (by kernel_rfl) (by kernel_rfl) ?_
      refine reg_enter (op := (Go.Op.call (Go.Call.mk (Go.Callee.value (Go.Operand.func 27)) #[(Go.Operand.tmp 13)] #[28]))) (ty := 3) (dst := some 14) 27 #[Value.pointer r] (by kernel_rfl) (fun ww => by kernel_rfl) (Calls.mono h ?_)
      rintro _ w4 ⟨v14, rfl, h⟩
      refine ⟨_, rfl, ?_⟩
      refine reg_run [.sure, .plain, .plain, .plain] 14 [(1, [], Value.pointer r), (17, [], Value.bool (v12 == v14)), (18, [(17, true)], Value.pointer d)] (by kernel_rfl) (by kernel_rfl) ?_
      refine reg_split 17 (v12 == v14) (by kernel_rfl) (fun hb => ?_) (fun hb => ?_)
      · replace h := h.1 hb
        refine reg_run [] 14 [(1, [], Value.pointer r), (17, [], Value.bool true), (18, [], Value.pointer d)] (by kernel_rfl) (by kernel_rfl) ?_
        refine reg_run [] 14 [(1, [], Value.pointer r), (17, [], Value.bool true), (18, [], Value.pointer d)] (by kernel_rfl) (by kernel_rfl) ?_
        refine reg_enter (op := (Go.Op.call (Go.Call.mk (Go.Callee.value (Go.Operand.func 28)) #[(Go.Operand.tmp 18)] #[24]))) (ty := 3) (dst := some 19) 28 #[Value.pointer d] (by kernel_rfl) (fun ww => by kernel_rfl) (Calls.mono h ?_)
        rintro _ w5 ⟨v19, rfl, h⟩
        refine ⟨_, rfl, ?_⟩
        refine reg_run [.sure] 16 [(17, [], Value.bool true), (19, [], Value.int .i64 v19), (20, [], Value.pointer r)] (by kernel_rfl) (by kernel_rfl) ?_
        refine reg_enter (op := (Go.Op.call (Go.Call.mk (Go.Callee.value (Go.Operand.func 29)) #[(Go.Operand.tmp 20)] #[28]))) (ty := 3) (dst := some 21) 29 #[Value.pointer r] (by kernel_rfl) (fun ww => by kernel_rfl) (Calls.mono h ?_)
        rintro _ w6 ⟨v21, rfl, h⟩
        refine ⟨_, rfl, ?_⟩
        refine reg_run [.sure, .plain, .plain] 20 [(4, [], Value.bool (v19 == v21))] (by kernel_rfl) (by kernel_rfl) ?_
        refine reg_end [(4, Value.bool (v19 == v21))] (by kernel_rfl) (by kernel_rfl) ?_
        change WpE _ _ c_towpathlaw04_looks_6 _ _ _
        refine wpE_ret (by kernel_rfl) ?_
        repeat (first | refine seqQ_ret ?_ | refine blockQ_ret ?_ | refine loopQ_ret ?_ | refine cutQ_ret ?_)
        exact retS (rs := [(Go.ResultVar.tmp 4)]) (v := Value.bool (v19 == v21)) (by kernel_rfl) (⟨by kernel_rfl, trivial⟩) ⟨(v19 == v21), rfl, h⟩
      · replace h := h.2 hb
        refine reg_run [] 14 [(1, [], Value.pointer r), (17, [], Value.bool false), (18, [], undef)] (by kernel_rfl) (by kernel_rfl) ?_
        refine reg_run [.skip, .skip, .skip, .skip, .plain, .plain] 20 [(4, [], Value.bool false)] (by kernel_rfl) (by kernel_rfl) ?_
        refine reg_end [(4, Value.bool false)] (by kernel_rfl) (by kernel_rfl) ?_
        change WpE _ _ c_towpathlaw04_looks_6 _ _ _
        refine wpE_ret (by kernel_rfl) ?_
        repeat (first | refine seqQ_ret ?_ | refine blockQ_ret ?_ | refine loopQ_ret ?_ | refine cutQ_ret ?_)
        exact retS (rs := [(Go.ResultVar.tmp 4)]) (v := Value.bool false) (by kernel_rfl) (⟨by kernel_rfl, trivial⟩) ⟨false, rfl, h⟩
    · replace h := h.2 hb
      refine reg_run [] 7 [(0, [], Value.pointer d), (1, [], Value.pointer r), (10, [], Value.bool false), (11, [], undef)] (by kernel_rfl) (by kernel_rfl) ?_
      refine reg_run [.skip, .skip, .skip, .skip, .plain, .plain, .skip, .skip, .skip, .skip, .skip, .plain, .plain] 20 [(4, [], Value.bool false)] (by kernel_rfl) (by kernel_rfl) ?_
      refine reg_end [(4, Value.bool false)] (by kernel_rfl) (by kernel_rfl) ?_
      change WpE _ _ c_towpathlaw04_looks_6 _ _ _
      refine wpE_ret (by kernel_rfl) ?_
      repeat (first | refine seqQ_ret ?_ | refine blockQ_ret ?_ | refine loopQ_ret ?_ | refine cutQ_ret ?_)
      exact retS (rs := [(Go.ResultVar.tmp 4)]) (v := Value.bool false) (by kernel_rfl) (⟨by kernel_rfl, trivial⟩) ⟨false, rfl, h⟩
  · rintro e w' ⟨v, rfl, r0, rfl, h⟩; exact ⟨r0, rfl, h⟩
end Go.Proofs.YtckmganidgbpgaaGreatDoor
