/- WRITTEN BY PROGRAM (dec.py): for each Go function the clean formula F, the call's contract C, and the proof S that F gives C. -/
import Derived.Test.YtfmkemmgakdddaaRows
import Derived.Test.YtfmkemmgakdddaaGF
namespace Go.Proofs.Ytfmkemmgakdddaa
open Go
set_option linter.unusedVariables false

/-! ### towpath/sum.Hash (function 64) -/
noncomputable def c_sum_Hash_0 : Code := (Try.f64.body).getD Code.skip
noncomputable def c_sum_Hash_1 : Code := Code.l c_sum_Hash_0
noncomputable def r_sum_Hash_1 : Array Oper := Code.ops c_sum_Hash_1
noncomputable def c_sum_Hash_3 : Code := Code.r c_sum_Hash_0
noncomputable def c_sum_Hash_4 : Code := Code.l c_sum_Hash_3
noncomputable def r_sum_Hash_4 : Array Oper := Code.ops c_sum_Hash_4
noncomputable def c_sum_Hash_6 : Code := Code.r c_sum_Hash_3
noncomputable def c_sum_Hash_7 : Code := Code.l c_sum_Hash_6
noncomputable def c_sum_Hash_8 : Code := Code.l c_sum_Hash_7
noncomputable def r_sum_Hash_8 : Array Oper := Code.ops c_sum_Hash_8
noncomputable def c_sum_Hash_10 : Code := Code.r c_sum_Hash_7
noncomputable def c_sum_Hash_11 : Code := Code.l c_sum_Hash_10
noncomputable def c_sum_Hash_12 : Code := Code.l c_sum_Hash_11
noncomputable def c_sum_Hash_13 : Code := Code.l c_sum_Hash_12
noncomputable def r_sum_Hash_13 : Array Oper := Code.ops c_sum_Hash_13
noncomputable def c_sum_Hash_15 : Code := Code.r c_sum_Hash_12
noncomputable def c_sum_Hash_16 : Code := Code.l c_sum_Hash_15
noncomputable def c_sum_Hash_17 : Code := Code.l c_sum_Hash_16
noncomputable def c_sum_Hash_18 : Code := Code.r c_sum_Hash_16
noncomputable def c_sum_Hash_19 : Code := Code.r c_sum_Hash_15
noncomputable def c_sum_Hash_20 : Code := Code.l c_sum_Hash_19
noncomputable def c_sum_Hash_21 : Code := Code.l c_sum_Hash_20
noncomputable def c_sum_Hash_22 : Code := Code.l c_sum_Hash_21
noncomputable def r_sum_Hash_22 : Array Oper := Code.ops c_sum_Hash_22
noncomputable def c_sum_Hash_24 : Code := Code.r c_sum_Hash_21
noncomputable def c_sum_Hash_25 : Code := Code.l c_sum_Hash_24
noncomputable def r_sum_Hash_25 : Array Oper := Code.ops c_sum_Hash_25
noncomputable def c_sum_Hash_27 : Code := Code.r c_sum_Hash_24
noncomputable def r_sum_Hash_27 : Array Oper := Code.ops c_sum_Hash_27
noncomputable def c_sum_Hash_29 : Code := Code.r c_sum_Hash_19
noncomputable def r_sum_Hash_29 : Array Oper := Code.ops c_sum_Hash_29
noncomputable def c_sum_Hash_31 : Code := Code.r c_sum_Hash_6
noncomputable def c_sum_Hash_32 : Code := Code.l c_sum_Hash_31
noncomputable def r_sum_Hash_32 : Array Oper := Code.ops c_sum_Hash_32
noncomputable def c_sum_Hash_34 : Code := Code.r c_sum_Hash_31

set_option maxRecDepth 100000 in
set_option maxHeartbeats 4000000 in
theorem S_sum_Hash {key : ByteArray} {w : World} {R : Int → World → Prop} (h : F_sum_Hash key R w) : C_sum_Hash key w R := by
  unfold F_sum_Hash at h
  unfold C_sum_Hash
  refine Calls.mono (calls_of_wpE (args := [Value.string key]) (R := fun v w' => ∃ (r0 : Int), v = Value.int .u32 r0 ∧ R r0 w') Try.func64 (c := c_sum_Hash_0) (by kernel_rfl) 20 (by kernel_rfl) (by kernel_rfl) [(0, Value.string key)] (by kernel_rfl) ?_) ?_
  · refine wpE_seq (x := c_sum_Hash_1) (y := c_sum_Hash_3) (by kernel_rfl) ?_
    refine wpE_region (id := 0) (ops := r_sum_Hash_1) (by kernel_rfl) ?_
    refine reg_run [.plain] 1 [(0, [], Value.string key)] (by kernel_rfl) (by kernel_rfl) ?_
    refine reg_end [(0, Value.string key)] (by kernel_rfl) (by kernel_rfl) ?_
    change WpE _ _ c_sum_Hash_3 _ _ _
    refine wpE_seq (x := c_sum_Hash_4) (y := c_sum_Hash_6) (by kernel_rfl) ?_
    refine wpE_region (id := 1) (ops := r_sum_Hash_4) (by kernel_rfl) ?_
    refine reg_run [.plain] 1 [(0, [], Value.string key), (3, [], Value.int .u32 2166136261)] (by kernel_rfl) (by kernel_rfl) ?_
    refine reg_end [(0, Value.string key), (3, Value.int .u32 2166136261)] (by kernel_rfl) (by kernel_rfl) ?_
    change WpE _ _ c_sum_Hash_6 _ _ _
    refine wpE_seq (x := c_sum_Hash_7) (y := c_sum_Hash_31) (by kernel_rfl) ?_
    refine wpE_seq (x := c_sum_Hash_8) (y := c_sum_Hash_10) (by kernel_rfl) ?_
    refine wpE_region (id := 2) (ops := r_sum_Hash_8) (by kernel_rfl) ?_
    refine reg_run [.plain, .plain, .plain] 3 [(0, [], Value.string key), (3, [], Value.int .u32 2166136261), (6, [], Value.int .i64 ((key.size : Nat) : Int)), (7, [], Value.int .i64 0)] (by kernel_rfl) (by kernel_rfl) ?_
    refine reg_end [(0, Value.string key), (3, Value.int .u32 2166136261), (6, Value.int .i64 ((key.size : Nat) : Int)), (7, Value.int .i64 0)] (by kernel_rfl) (by kernel_rfl) ?_
    change WpE _ _ c_sum_Hash_10 _ _ _
    refine wpE_block (id := 0) (x := c_sum_Hash_11) (by kernel_rfl) ?_
    obtain ⟨I, μ, h0, hr⟩ := h
    refine wpE_loop (x := c_sum_Hash_12) (by kernel_rfl) (fun m l w => ∃ (h_ : Int) (t7 : Int), l = [(0, Value.string key), (3, Value.int .u32 h_), (6, Value.int .i64 ((key.size : Nat) : Int)), (7, Value.int .i64 t7)] ∧ I h_ t7 w ∧ μ h_ t7 w = m) (l' := [(0, Value.string key), (3, Value.int .u32 2166136261), (6, Value.int .i64 ((key.size : Nat) : Int)), (7, Value.int .i64 0)]) (Sub.mk (by kernel_rfl)) ⟨2166136261, 0, rfl, h0, rfl⟩ ?_
    rintro _ _ w1 ⟨h_, t7, rfl, hI, rfl⟩
    obtain ⟨again_, again__h, h⟩ : ∃ again_ : Int → Int → World → Prop, (∀ h_' t7' w', again_ h_' t7' w' → I h_' t7' w' ∧ μ h_' t7' w' < μ h_ t7 w1) ∧ F_sum_Hash_L0 key R again_ h_ t7 w1 := ⟨_, fun _ _ _ h => h, hr h_ t7 w1 hI⟩
    clear h0 hI
    unfold F_sum_Hash_L0 at h
    refine wpE_seq (x := c_sum_Hash_13) (y := c_sum_Hash_15) (by kernel_rfl) ?_
    refine wpE_region (id := 3) (ops := r_sum_Hash_13) (by kernel_rfl) ?_
    refine reg_run [.plain] 1 [(0, [], Value.string key), (3, [], Value.int .u32 h_), (6, [], Value.int .i64 ((key.size : Nat) : Int)), (7, [], Value.int .i64 t7), (8, [], Value.bool (decide (t7 < ((key.size : Nat) : Int))))] (by kernel_rfl) (by kernel_rfl) ?_
    refine reg_end [(0, Value.string key), (3, Value.int .u32 h_), (6, Value.int .i64 ((key.size : Nat) : Int)), (7, Value.int .i64 t7), (8, Value.bool (decide (t7 < ((key.size : Nat) : Int))))] (by kernel_rfl) (by kernel_rfl) ?_
    change WpE _ _ c_sum_Hash_15 _ _ _
    refine wpE_seq (x := c_sum_Hash_16) (y := c_sum_Hash_19) (by kernel_rfl) ?_
    refine wpE_cond (o := (Operand.tmp 8)) (b := (decide (t7 < ((key.size : Nat) : Int)))) (x := c_sum_Hash_17) (y := c_sum_Hash_18) (by kernel_rfl) (by kernel_rfl) (fun hb => ?_) (fun hb => ?_)
    · replace h := h.1 hb
      refine wpE_skip (by kernel_rfl) ?_
      change WpE _ _ c_sum_Hash_19 _ _ _
      refine wpE_seq (x := c_sum_Hash_20) (y := c_sum_Hash_29) (by kernel_rfl) ?_
      refine wpE_block (id := 1) (x := c_sum_Hash_21) (by kernel_rfl) ?_
      refine wpE_seq (x := c_sum_Hash_22) (y := c_sum_Hash_24) (by kernel_rfl) ?_
      refine wpE_region (id := 4) (ops := r_sum_Hash_22) (by kernel_rfl) ?_
      refine reg_run [.plain, .plain] 2 [(0, [], Value.string key), (3, [], Value.int .u32 h_), (4, [], Value.int .i64 t7), (6, [], Value.int .i64 ((key.size : Nat) : Int)), (7, [], Value.int .i64 t7)] (by kernel_rfl) (by kernel_rfl) ?_
      refine reg_end [(0, Value.string key), (3, Value.int .u32 h_), (4, Value.int .i64 t7), (6, Value.int .i64 ((key.size : Nat) : Int)), (7, Value.int .i64 t7)] (by kernel_rfl) (by kernel_rfl) ?_
      change WpE _ _ c_sum_Hash_24 _ _ _
      refine wpE_seq (x := c_sum_Hash_25) (y := c_sum_Hash_27) (by kernel_rfl) ?_
      refine wpE_region (id := 5) (ops := r_sum_Hash_25) (by kernel_rfl) ?_
      refine reg_run [.plain, .plain, .plain] 3 [(0, [], Value.string key), (3, [], Value.int .u32 h_), (6, [], Value.int .i64 ((key.size : Nat) : Int)), (7, [], Value.int .i64 t7), (10, [], Value.int .u32 h_), (11, [], Value.string key), (12, [], Value.int .i64 t7)] (by kernel_rfl) (by kernel_rfl) ?_
      obtain ⟨h0, h1, h⟩ := h
      refine reg_indexStr (t := 9) (x := (Go.Operand.tmp 11)) (ix := (Go.Operand.tmp 12)) (s := key) (k := .i64) (j := t7) (ty := 5) (dst := some 13) (by kernel_rfl) (by kernel_rfl) (by kernel_rfl) (by kernel_rfl) h0 h1 ?_
      refine reg_run [.plain, .plain, .plain] 7 [(0, [], Value.string key), (3, [], Value.int .u32 (bxor .u32 h_ (IntKind.u32.wrap (byteAt key t7)))), (6, [], Value.int .i64 ((key.size : Nat) : Int)), (7, [], Value.int .i64 t7)] (by kernel_rfl) (by kernel_rfl) ?_
      refine reg_end [(0, Value.string key), (3, Value.int .u32 (bxor .u32 h_ (IntKind.u32.wrap (byteAt key t7)))), (6, Value.int .i64 ((key.size : Nat) : Int)), (7, Value.int .i64 t7)] (by kernel_rfl) (by kernel_rfl) ?_
      change WpE _ _ c_sum_Hash_27 _ _ _
      refine wpE_region (id := 6) (ops := r_sum_Hash_27) (by kernel_rfl) ?_
      refine reg_run [.plain, .plain, .plain] 3 [(0, [], Value.string key), (3, [], Value.int .u32 (IntKind.u32.wrap ((bxor .u32 h_ (IntKind.u32.wrap (byteAt key t7))) * 16777619))), (6, [], Value.int .i64 ((key.size : Nat) : Int)), (7, [], Value.int .i64 t7)] (by kernel_rfl) (by kernel_rfl) ?_
      refine reg_end [(0, Value.string key), (3, Value.int .u32 (IntKind.u32.wrap ((bxor .u32 h_ (IntKind.u32.wrap (byteAt key t7))) * 16777619))), (6, Value.int .i64 ((key.size : Nat) : Int)), (7, Value.int .i64 t7)] (by kernel_rfl) (by kernel_rfl) ?_
      change WpE _ _ c_sum_Hash_29 _ _ _
      refine wpE_region (id := 7) (ops := r_sum_Hash_29) (by kernel_rfl) ?_
      refine reg_run [.plain, .plain] 2 [(0, [], Value.string key), (3, [], Value.int .u32 (IntKind.u32.wrap ((bxor .u32 h_ (IntKind.u32.wrap (byteAt key t7))) * 16777619))), (6, [], Value.int .i64 ((key.size : Nat) : Int)), (7, [], Value.int .i64 (IntKind.i64.wrap (t7 + 1)))] (by kernel_rfl) (by kernel_rfl) ?_
      refine reg_end [(0, Value.string key), (3, Value.int .u32 (IntKind.u32.wrap ((bxor .u32 h_ (IntKind.u32.wrap (byteAt key t7))) * 16777619))), (6, Value.int .i64 ((key.size : Nat) : Int)), (7, Value.int .i64 (IntKind.i64.wrap (t7 + 1)))] (by kernel_rfl) (by kernel_rfl) ?_
      have hb_ := again__h _ _ _ h
      exact ⟨_, hb_.2, [(0, Value.string key), (3, Value.int .u32 (IntKind.u32.wrap ((bxor .u32 h_ (IntKind.u32.wrap (byteAt key t7))) * 16777619))), (6, Value.int .i64 ((key.size : Nat) : Int)), (7, Value.int .i64 (IntKind.i64.wrap (t7 + 1)))], Sub.mk (by kernel_rfl), (IntKind.u32.wrap ((bxor .u32 h_ (IntKind.u32.wrap (byteAt key t7))) * 16777619)), (IntKind.i64.wrap (t7 + 1)), rfl, hb_.1, rfl⟩
    · replace h := h.2 hb
      refine wpE_exit (id := 0) (by kernel_rfl) ?_
      change WpE _ _ c_sum_Hash_31 _ _ _
      refine wpE_seq (x := c_sum_Hash_32) (y := c_sum_Hash_34) (by kernel_rfl) ?_
      refine wpE_region (id := 8) (ops := r_sum_Hash_32) (by kernel_rfl) ?_
      refine reg_run [.plain, .plain] 2 [(2, [], Value.int .u32 h_)] (by kernel_rfl) (by kernel_rfl) ?_
      refine reg_end [(2, Value.int .u32 h_)] (by kernel_rfl) (by kernel_rfl) ?_
      change WpE _ _ c_sum_Hash_34 _ _ _
      refine wpE_ret (by kernel_rfl) ?_
      repeat (first | refine seqQ_ret ?_ | refine blockQ_ret ?_ | refine loopQ_ret ?_ | refine cutQ_ret ?_)
      exact retS (rs := [(Go.ResultVar.tmp 2)]) (v := Value.int .u32 h_) (by kernel_rfl) (⟨by kernel_rfl, trivial⟩) ⟨h_, rfl, h⟩
  · rintro e w' ⟨v, rfl, r0, rfl, h⟩; exact ⟨r0, rfl, h⟩
end Go.Proofs.Ytfmkemmgakdddaa
