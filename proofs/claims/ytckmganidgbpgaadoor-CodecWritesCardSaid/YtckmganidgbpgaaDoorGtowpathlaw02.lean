/- WRITTEN BY PROGRAM (dec.py): for each Go function the clean formula F, the call's contract C, and the proof S that F gives C. -/
import Derived.Test.YtckmganidgbpgaaDoorRows
import Derived.Test.YtckmganidgbpgaaDoorGF
namespace Go.Proofs.YtckmganidgbpgaaDoor
open Go
set_option linter.unusedVariables false

/-! ### towpath/towpathlaw02.beyond (function 4) -/
noncomputable def c_towpathlaw02_beyond_0 : Code := (Tryd.f4.body).getD Code.skip
noncomputable def c_towpathlaw02_beyond_1 : Code := Code.l c_towpathlaw02_beyond_0
noncomputable def r_towpathlaw02_beyond_1 : Array Oper := Code.ops c_towpathlaw02_beyond_1
noncomputable def c_towpathlaw02_beyond_3 : Code := Code.r c_towpathlaw02_beyond_0
noncomputable def c_towpathlaw02_beyond_4 : Code := Code.l c_towpathlaw02_beyond_3
noncomputable def r_towpathlaw02_beyond_4 : Array Oper := Code.ops c_towpathlaw02_beyond_4
noncomputable def c_towpathlaw02_beyond_6 : Code := Code.r c_towpathlaw02_beyond_3
noncomputable def c_towpathlaw02_beyond_7 : Code := Code.l c_towpathlaw02_beyond_6
noncomputable def c_towpathlaw02_beyond_8 : Code := Code.l c_towpathlaw02_beyond_7
noncomputable def r_towpathlaw02_beyond_8 : Array Oper := Code.ops c_towpathlaw02_beyond_8
noncomputable def c_towpathlaw02_beyond_10 : Code := Code.r c_towpathlaw02_beyond_7
noncomputable def c_towpathlaw02_beyond_11 : Code := Code.l c_towpathlaw02_beyond_10
noncomputable def c_towpathlaw02_beyond_12 : Code := Code.l c_towpathlaw02_beyond_11
noncomputable def c_towpathlaw02_beyond_13 : Code := Code.l c_towpathlaw02_beyond_12
noncomputable def c_towpathlaw02_beyond_14 : Code := Code.l c_towpathlaw02_beyond_13
noncomputable def r_towpathlaw02_beyond_14 : Array Oper := Code.ops c_towpathlaw02_beyond_14
noncomputable def c_towpathlaw02_beyond_16 : Code := Code.r c_towpathlaw02_beyond_13
noncomputable def c_towpathlaw02_beyond_17 : Code := Code.l c_towpathlaw02_beyond_16
noncomputable def c_towpathlaw02_beyond_18 : Code := Code.r c_towpathlaw02_beyond_16
noncomputable def c_towpathlaw02_beyond_19 : Code := Code.r c_towpathlaw02_beyond_12
noncomputable def c_towpathlaw02_beyond_20 : Code := Code.l c_towpathlaw02_beyond_19
noncomputable def c_towpathlaw02_beyond_21 : Code := Code.l c_towpathlaw02_beyond_20
noncomputable def c_towpathlaw02_beyond_22 : Code := Code.l c_towpathlaw02_beyond_21
noncomputable def r_towpathlaw02_beyond_22 : Array Oper := Code.ops c_towpathlaw02_beyond_22
noncomputable def c_towpathlaw02_beyond_24 : Code := Code.r c_towpathlaw02_beyond_21
noncomputable def c_towpathlaw02_beyond_25 : Code := Code.l c_towpathlaw02_beyond_24
noncomputable def r_towpathlaw02_beyond_25 : Array Oper := Code.ops c_towpathlaw02_beyond_25
noncomputable def c_towpathlaw02_beyond_27 : Code := Code.r c_towpathlaw02_beyond_24
noncomputable def c_towpathlaw02_beyond_28 : Code := Code.l c_towpathlaw02_beyond_27
noncomputable def c_towpathlaw02_beyond_29 : Code := Code.l c_towpathlaw02_beyond_28
noncomputable def r_towpathlaw02_beyond_29 : Array Oper := Code.ops c_towpathlaw02_beyond_29
noncomputable def c_towpathlaw02_beyond_31 : Code := Code.r c_towpathlaw02_beyond_28
noncomputable def c_towpathlaw02_beyond_32 : Code := Code.r c_towpathlaw02_beyond_27
noncomputable def c_towpathlaw02_beyond_33 : Code := Code.r c_towpathlaw02_beyond_19
noncomputable def r_towpathlaw02_beyond_33 : Array Oper := Code.ops c_towpathlaw02_beyond_33
noncomputable def c_towpathlaw02_beyond_35 : Code := Code.r c_towpathlaw02_beyond_6
noncomputable def c_towpathlaw02_beyond_36 : Code := Code.l c_towpathlaw02_beyond_35
noncomputable def r_towpathlaw02_beyond_36 : Array Oper := Code.ops c_towpathlaw02_beyond_36
noncomputable def c_towpathlaw02_beyond_38 : Code := Code.r c_towpathlaw02_beyond_35

set_option maxRecDepth 100000 in
set_option maxHeartbeats 4000000 in
theorem S_towpathlaw02_beyond {l_ : Slc} {w : World} {R : Bool → World → Prop} (h : F_towpathlaw02_beyond l_ R w) : C_towpathlaw02_beyond l_ w R := by
  unfold F_towpathlaw02_beyond at h
  unfold C_towpathlaw02_beyond
  refine Calls.mono (calls_of_wpE (args := [Value.slice l_.ptr l_.len l_.cap]) (R := fun v w' => ∃ (r0 : Bool), v = Value.bool r0 ∧ R r0 w') Tryd.func4 (c := c_towpathlaw02_beyond_0) (by kernel_rfl) 22 (by kernel_rfl) (by kernel_rfl) [(0, Value.slice l_.ptr l_.len l_.cap)] (by kernel_rfl) ?_) ?_
  · refine wpE_seq (x := c_towpathlaw02_beyond_1) (y := c_towpathlaw02_beyond_3) (by kernel_rfl) ?_
    refine wpE_region (id := 0) (ops := r_towpathlaw02_beyond_1) (by kernel_rfl) ?_
    refine reg_run [.plain] 1 [(0, [], Value.slice l_.ptr l_.len l_.cap)] (by kernel_rfl) (by kernel_rfl) ?_
    refine reg_end [(0, Value.slice l_.ptr l_.len l_.cap)] (by kernel_rfl) (by kernel_rfl) ?_
    change WpE _ _ c_towpathlaw02_beyond_3 _ _ _
    refine wpE_seq (x := c_towpathlaw02_beyond_4) (y := c_towpathlaw02_beyond_6) (by kernel_rfl) ?_
    refine wpE_region (id := 1) (ops := r_towpathlaw02_beyond_4) (by kernel_rfl) ?_
    refine reg_run [.plain] 1 [(0, [], Value.slice l_.ptr l_.len l_.cap), (3, [], Value.int .i64 0)] (by kernel_rfl) (by kernel_rfl) ?_
    refine reg_end [(0, Value.slice l_.ptr l_.len l_.cap), (3, Value.int .i64 0)] (by kernel_rfl) (by kernel_rfl) ?_
    change WpE _ _ c_towpathlaw02_beyond_6 _ _ _
    refine wpE_seq (x := c_towpathlaw02_beyond_7) (y := c_towpathlaw02_beyond_35) (by kernel_rfl) ?_
    refine wpE_seq (x := c_towpathlaw02_beyond_8) (y := c_towpathlaw02_beyond_10) (by kernel_rfl) ?_
    refine wpE_region (id := 2) (ops := r_towpathlaw02_beyond_8) (by kernel_rfl) ?_
    refine reg_run [.plain] 1 [(0, [], Value.slice l_.ptr l_.len l_.cap), (3, [], Value.int .i64 0), (4, [], Value.int .i64 0)] (by kernel_rfl) (by kernel_rfl) ?_
    refine reg_end [(0, Value.slice l_.ptr l_.len l_.cap), (3, Value.int .i64 0), (4, Value.int .i64 0)] (by kernel_rfl) (by kernel_rfl) ?_
    change WpE _ _ c_towpathlaw02_beyond_10 _ _ _
    refine wpE_block (id := 0) (x := c_towpathlaw02_beyond_11) (by kernel_rfl) ?_
    obtain ⟨I, μ, h0, hr⟩ := h
    refine wpE_loop (x := c_towpathlaw02_beyond_12) (by kernel_rfl) (fun m l w => ∃ (n_ : Int) (i : Int), l = [(0, Value.slice l_.ptr l_.len l_.cap), (3, Value.int .i64 n_), (4, Value.int .i64 i)] ∧ I n_ i w ∧ μ n_ i w = m) (l' := [(0, Value.slice l_.ptr l_.len l_.cap), (3, Value.int .i64 0), (4, Value.int .i64 0)]) (Sub.mk (by kernel_rfl)) ⟨0, 0, rfl, h0, rfl⟩ ?_
    rintro _ _ w1 ⟨n_, i, rfl, hI, rfl⟩
    obtain ⟨again_, again__h, h⟩ : ∃ again_ : Int → Int → World → Prop, (∀ n_' i' w', again_ n_' i' w' → I n_' i' w' ∧ μ n_' i' w' < μ n_ i w1) ∧ F_towpathlaw02_beyond_L0 l_ R again_ n_ i w1 := ⟨_, fun _ _ _ h => h, hr n_ i w1 hI⟩
    clear h0 hI
    unfold F_towpathlaw02_beyond_L0 at h
    refine wpE_seq (x := c_towpathlaw02_beyond_13) (y := c_towpathlaw02_beyond_19) (by kernel_rfl) ?_
    refine wpE_seq (x := c_towpathlaw02_beyond_14) (y := c_towpathlaw02_beyond_16) (by kernel_rfl) ?_
    refine wpE_region (id := 3) (ops := r_towpathlaw02_beyond_14) (by kernel_rfl) ?_
    refine reg_run [.plain, .plain, .plain, .plain] 4 [(0, [], Value.slice l_.ptr l_.len l_.cap), (3, [], Value.int .i64 n_), (4, [], Value.int .i64 i), (8, [], Value.bool (decide (i < ((l_.len : Nat) : Int))))] (by kernel_rfl) (by kernel_rfl) ?_
    refine reg_end [(0, Value.slice l_.ptr l_.len l_.cap), (3, Value.int .i64 n_), (4, Value.int .i64 i), (8, Value.bool (decide (i < ((l_.len : Nat) : Int))))] (by kernel_rfl) (by kernel_rfl) ?_
    change WpE _ _ c_towpathlaw02_beyond_16 _ _ _
    refine wpE_cond (o := (Operand.tmp 8)) (b := (decide (i < ((l_.len : Nat) : Int)))) (x := c_towpathlaw02_beyond_17) (y := c_towpathlaw02_beyond_18) (by kernel_rfl) (by kernel_rfl) (fun hb => ?_) (fun hb => ?_)
    · replace h := h.1 hb
      refine wpE_skip (by kernel_rfl) ?_
      change WpE _ _ c_towpathlaw02_beyond_19 _ _ _
      refine wpE_seq (x := c_towpathlaw02_beyond_20) (y := c_towpathlaw02_beyond_33) (by kernel_rfl) ?_
      refine wpE_block (id := 1) (x := c_towpathlaw02_beyond_21) (by kernel_rfl) ?_
      refine wpE_seq (x := c_towpathlaw02_beyond_22) (y := c_towpathlaw02_beyond_24) (by kernel_rfl) ?_
      refine wpE_region (id := 5) (ops := r_towpathlaw02_beyond_22) (by kernel_rfl) ?_
      refine reg_run [.plain, .plain, .plain, .plain] 4 [(0, [], Value.slice l_.ptr l_.len l_.cap), (3, [], Value.int .i64 n_), (4, [], Value.int .i64 i), (12, [], Value.int .i64 (IntKind.i64.wrap (n_ + 10))), (13, [], Value.slice l_.ptr l_.len l_.cap), (14, [], Value.int .i64 i)] (by kernel_rfl) (by kernel_rfl) ?_
      obtain ⟨hp_7, h⟩ := h
      refine reg_conv [(0, [], Value.slice l_.ptr l_.len l_.cap), (3, [], Value.int .i64 n_), (4, [], Value.int .i64 i), (12, [], Value.int .i64 (IntKind.i64.wrap (n_ + 10))), (13, [], Value.slice (some ⟨(pblk l_.ptr), (poff l_.ptr), none⟩) l_.len l_.cap), (14, [], Value.int .i64 i)] (congrArg (fun pp => ([(0, [], Value.slice l_.ptr l_.len l_.cap), (3, [], Value.int .i64 n_), (4, [], Value.int .i64 i), (12, [], Value.int .i64 (IntKind.i64.wrap (n_ + 10))), (13, [], Value.slice pp l_.len l_.cap), (14, [], Value.int .i64 i)] : GEnv)) hp_7) ?_
      obtain ⟨h0, h1, h⟩ := h
      refine reg_indexS (t := 22) (e := 44) (x := (Go.Operand.tmp 13)) (ix := (Go.Operand.tmp 14)) (b := (pblk l_.ptr)) (o := (poff l_.ptr)) (l := l_.len) (c := l_.cap) (k := .i64) (j := i) (ty := 0) (dst := some 15) (sz := 5) (by kernel_rfl) (by kernel_rfl) (by kernel_rfl) (by kernel_rfl) (by kernel_rfl) h0 h1 ?_
      refine reg_run [.plain] 6 [(0, [], Value.slice l_.ptr l_.len l_.cap), (3, [], Value.int .i64 n_), (4, [], Value.int .i64 i), (12, [], Value.int .i64 (IntKind.i64.wrap (n_ + 10))), (16, [], Value.pointer (some ⟨(pblk l_.ptr), ((poff l_.ptr) + i.toNat * 5) + 3, none⟩))] (by kernel_rfl) (by kernel_rfl) ?_
      obtain ⟨v17, hc, h⟩ := h
      refine reg_load1 (t := 9) (a := (Go.Operand.tmp 16)) (b := (pblk l_.ptr)) (o := (((poff l_.ptr) + i.toNat * 5) + 3)) (ty := 9) (dst := some 17) (by kernel_rfl) (by kernel_rfl) (by kernel_rfl) hc ?_
      refine reg_run [.plain, .plain, .plain] 10 [(0, [], Value.slice l_.ptr l_.len l_.cap), (3, [], Value.int .i64 (IntKind.i64.wrap ((IntKind.i64.wrap (n_ + 10)) + ((v17.size : Nat) : Int)))), (4, [], Value.int .i64 i)] (by kernel_rfl) (by kernel_rfl) ?_
      refine reg_end [(0, Value.slice l_.ptr l_.len l_.cap), (3, Value.int .i64 (IntKind.i64.wrap ((IntKind.i64.wrap (n_ + 10)) + ((v17.size : Nat) : Int)))), (4, Value.int .i64 i)] (by kernel_rfl) (by kernel_rfl) ?_
      change WpE _ _ c_towpathlaw02_beyond_24 _ _ _
      refine wpE_seq (x := c_towpathlaw02_beyond_25) (y := c_towpathlaw02_beyond_27) (by kernel_rfl) ?_
      refine wpE_region (id := 6) (ops := r_towpathlaw02_beyond_25) (by kernel_rfl) ?_
      refine reg_run [.plain, .plain] 2 [(0, [], Value.slice l_.ptr l_.len l_.cap), (3, [], Value.int .i64 (IntKind.i64.wrap ((IntKind.i64.wrap (n_ + 10)) + ((v17.size : Nat) : Int)))), (4, [], Value.int .i64 i), (21, [], Value.bool (decide ((IntKind.i64.wrap ((IntKind.i64.wrap (n_ + 10)) + ((v17.size : Nat) : Int))) > 1048576)))] (by kernel_rfl) (by kernel_rfl) ?_
      refine reg_end [(0, Value.slice l_.ptr l_.len l_.cap), (3, Value.int .i64 (IntKind.i64.wrap ((IntKind.i64.wrap (n_ + 10)) + ((v17.size : Nat) : Int)))), (4, Value.int .i64 i), (21, Value.bool (decide ((IntKind.i64.wrap ((IntKind.i64.wrap (n_ + 10)) + ((v17.size : Nat) : Int))) > 1048576)))] (by kernel_rfl) (by kernel_rfl) ?_
      change WpE _ _ c_towpathlaw02_beyond_27 _ _ _
      refine wpE_cond (o := (Operand.tmp 21)) (b := (decide ((IntKind.i64.wrap ((IntKind.i64.wrap (n_ + 10)) + ((v17.size : Nat) : Int))) > 1048576))) (x := c_towpathlaw02_beyond_28) (y := c_towpathlaw02_beyond_32) (by kernel_rfl) (by kernel_rfl) (fun hb => ?_) (fun hb => ?_)
      · replace h := h.1 hb
        refine wpE_seq (x := c_towpathlaw02_beyond_29) (y := c_towpathlaw02_beyond_31) (by kernel_rfl) ?_
        refine wpE_region (id := 7) (ops := r_towpathlaw02_beyond_29) (by kernel_rfl) ?_
        refine reg_run [.plain] 1 [(2, [], Value.bool true)] (by kernel_rfl) (by kernel_rfl) ?_
        refine reg_end [(2, Value.bool true)] (by kernel_rfl) (by kernel_rfl) ?_
        change WpE _ _ c_towpathlaw02_beyond_31 _ _ _
        refine wpE_ret (by kernel_rfl) ?_
        repeat (first | refine seqQ_ret ?_ | refine blockQ_ret ?_ | refine loopQ_ret ?_ | refine cutQ_ret ?_)
        exact retS (rs := [(Go.ResultVar.tmp 2)]) (v := Value.bool true) (by kernel_rfl) (⟨by kernel_rfl, trivial⟩) ⟨true, rfl, h⟩
      · replace h := h.2 hb
        refine wpE_skip (by kernel_rfl) ?_
        change WpE _ _ c_towpathlaw02_beyond_33 _ _ _
        refine wpE_region (id := 4) (ops := r_towpathlaw02_beyond_33) (by kernel_rfl) ?_
        refine reg_run [.plain, .plain, .plain] 3 [(0, [], Value.slice l_.ptr l_.len l_.cap), (3, [], Value.int .i64 (IntKind.i64.wrap ((IntKind.i64.wrap (n_ + 10)) + ((v17.size : Nat) : Int)))), (4, [], Value.int .i64 (IntKind.i64.wrap (i + 1)))] (by kernel_rfl) (by kernel_rfl) ?_
        refine reg_end [(0, Value.slice l_.ptr l_.len l_.cap), (3, Value.int .i64 (IntKind.i64.wrap ((IntKind.i64.wrap (n_ + 10)) + ((v17.size : Nat) : Int)))), (4, Value.int .i64 (IntKind.i64.wrap (i + 1)))] (by kernel_rfl) (by kernel_rfl) ?_
        have hb_ := again__h _ _ _ h
        exact ⟨_, hb_.2, [(0, Value.slice l_.ptr l_.len l_.cap), (3, Value.int .i64 (IntKind.i64.wrap ((IntKind.i64.wrap (n_ + 10)) + ((v17.size : Nat) : Int)))), (4, Value.int .i64 (IntKind.i64.wrap (i + 1)))], Sub.mk (by kernel_rfl), (IntKind.i64.wrap ((IntKind.i64.wrap (n_ + 10)) + ((v17.size : Nat) : Int))), (IntKind.i64.wrap (i + 1)), rfl, hb_.1, rfl⟩
    · replace h := h.2 hb
      refine wpE_exit (id := 0) (by kernel_rfl) ?_
      change WpE _ _ c_towpathlaw02_beyond_35 _ _ _
      refine wpE_seq (x := c_towpathlaw02_beyond_36) (y := c_towpathlaw02_beyond_38) (by kernel_rfl) ?_
      refine wpE_region (id := 8) (ops := r_towpathlaw02_beyond_36) (by kernel_rfl) ?_
      refine reg_run [.plain] 1 [(2, [], Value.bool false)] (by kernel_rfl) (by kernel_rfl) ?_
      refine reg_end [(2, Value.bool false)] (by kernel_rfl) (by kernel_rfl) ?_
      change WpE _ _ c_towpathlaw02_beyond_38 _ _ _
      refine wpE_ret (by kernel_rfl) ?_
      repeat (first | refine seqQ_ret ?_ | refine blockQ_ret ?_ | refine loopQ_ret ?_ | refine cutQ_ret ?_)
      exact retS (rs := [(Go.ResultVar.tmp 2)]) (v := Value.bool false) (by kernel_rfl) (⟨by kernel_rfl, trivial⟩) ⟨false, rfl, h⟩
  · rintro e w' ⟨v, rfl, r0, rfl, h⟩; exact ⟨r0, rfl, h⟩
end Go.Proofs.YtckmganidgbpgaaDoor
