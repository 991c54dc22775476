/- WRITTEN BY PROGRAM (dec.py): for each Go function the clean formula F, the call's contract C, and the proof S that F gives C. -/
import Derived.Test.YtfmkemmgakdddaaRows
import Derived.Test.YtfmkemmgakdddaaGF
namespace Go.Proofs.Ytfmkemmgakdddaa
open Go
set_option linter.unusedVariables false

/-! ### towpath/towpathref03.Hash (function 94) -/
noncomputable def c_towpathref03_Hash_0 : Code := (Try.f94.body).getD Code.skip
noncomputable def c_towpathref03_Hash_1 : Code := Code.l c_towpathref03_Hash_0
noncomputable def r_towpathref03_Hash_1 : Array Oper := Code.ops c_towpathref03_Hash_1
noncomputable def c_towpathref03_Hash_3 : Code := Code.r c_towpathref03_Hash_0
noncomputable def c_towpathref03_Hash_4 : Code := Code.l c_towpathref03_Hash_3
noncomputable def r_towpathref03_Hash_4 : Array Oper := Code.ops c_towpathref03_Hash_4
noncomputable def c_towpathref03_Hash_6 : Code := Code.r c_towpathref03_Hash_3
noncomputable def c_towpathref03_Hash_7 : Code := Code.l c_towpathref03_Hash_6
noncomputable def c_towpathref03_Hash_8 : Code := Code.l c_towpathref03_Hash_7
noncomputable def r_towpathref03_Hash_8 : Array Oper := Code.ops c_towpathref03_Hash_8
noncomputable def c_towpathref03_Hash_10 : Code := Code.r c_towpathref03_Hash_7
noncomputable def c_towpathref03_Hash_11 : Code := Code.l c_towpathref03_Hash_10
noncomputable def c_towpathref03_Hash_12 : Code := Code.l c_towpathref03_Hash_11
noncomputable def c_towpathref03_Hash_13 : Code := Code.l c_towpathref03_Hash_12
noncomputable def c_towpathref03_Hash_14 : Code := Code.l c_towpathref03_Hash_13
noncomputable def r_towpathref03_Hash_14 : Array Oper := Code.ops c_towpathref03_Hash_14
noncomputable def c_towpathref03_Hash_16 : Code := Code.r c_towpathref03_Hash_13
noncomputable def c_towpathref03_Hash_17 : Code := Code.l c_towpathref03_Hash_16
noncomputable def c_towpathref03_Hash_18 : Code := Code.r c_towpathref03_Hash_16
noncomputable def c_towpathref03_Hash_19 : Code := Code.r c_towpathref03_Hash_12
noncomputable def c_towpathref03_Hash_20 : Code := Code.l c_towpathref03_Hash_19
noncomputable def c_towpathref03_Hash_21 : Code := Code.l c_towpathref03_Hash_20
noncomputable def r_towpathref03_Hash_21 : Array Oper := Code.ops c_towpathref03_Hash_21
noncomputable def c_towpathref03_Hash_23 : Code := Code.r c_towpathref03_Hash_19
noncomputable def r_towpathref03_Hash_23 : Array Oper := Code.ops c_towpathref03_Hash_23
noncomputable def c_towpathref03_Hash_25 : Code := Code.r c_towpathref03_Hash_6
noncomputable def c_towpathref03_Hash_26 : Code := Code.l c_towpathref03_Hash_25
noncomputable def r_towpathref03_Hash_26 : Array Oper := Code.ops c_towpathref03_Hash_26
noncomputable def c_towpathref03_Hash_28 : Code := Code.r c_towpathref03_Hash_25

set_option maxRecDepth 100000 in
set_option maxHeartbeats 4000000 in
theorem S_towpathref03_Hash {key : ByteArray} {w : World} {R : Int → World → Prop} (h : F_towpathref03_Hash key R w) : C_towpathref03_Hash key w R := by
  unfold F_towpathref03_Hash at h
  unfold C_towpathref03_Hash
  refine Calls.mono (calls_of_wpE (args := [Value.string key]) (R := fun v w' => ∃ (r0 : Int), v = Value.int .u32 r0 ∧ R r0 w') Try.func94 (c := c_towpathref03_Hash_0) (by kernel_rfl) 19 (by kernel_rfl) (by kernel_rfl) [(0, Value.string key)] (by kernel_rfl) ?_) ?_
  · refine wpE_seq (x := c_towpathref03_Hash_1) (y := c_towpathref03_Hash_3) (by kernel_rfl) ?_
    refine wpE_region (id := 0) (ops := r_towpathref03_Hash_1) (by kernel_rfl) ?_
    refine reg_run [.plain] 1 [(0, [], Value.string key)] (by kernel_rfl) (by kernel_rfl) ?_
    refine reg_end [(0, Value.string key)] (by kernel_rfl) (by kernel_rfl) ?_
    change WpE _ _ c_towpathref03_Hash_3 _ _ _
    refine wpE_seq (x := c_towpathref03_Hash_4) (y := c_towpathref03_Hash_6) (by kernel_rfl) ?_
    refine wpE_region (id := 1) (ops := r_towpathref03_Hash_4) (by kernel_rfl) ?_
    refine reg_run [.plain] 1 [(0, [], Value.string key), (3, [], Value.int .u32 2166136261)] (by kernel_rfl) (by kernel_rfl) ?_
    refine reg_end [(0, Value.string key), (3, Value.int .u32 2166136261)] (by kernel_rfl) (by kernel_rfl) ?_
    change WpE _ _ c_towpathref03_Hash_6 _ _ _
    refine wpE_seq (x := c_towpathref03_Hash_7) (y := c_towpathref03_Hash_25) (by kernel_rfl) ?_
    refine wpE_seq (x := c_towpathref03_Hash_8) (y := c_towpathref03_Hash_10) (by kernel_rfl) ?_
    refine wpE_region (id := 2) (ops := r_towpathref03_Hash_8) (by kernel_rfl) ?_
    refine reg_run [.plain] 1 [(0, [], Value.string key), (3, [], Value.int .u32 2166136261), (4, [], Value.int .i64 0)] (by kernel_rfl) (by kernel_rfl) ?_
    refine reg_end [(0, Value.string key), (3, Value.int .u32 2166136261), (4, Value.int .i64 0)] (by kernel_rfl) (by kernel_rfl) ?_
    change WpE _ _ c_towpathref03_Hash_10 _ _ _
    refine wpE_block (id := 0) (x := c_towpathref03_Hash_11) (by kernel_rfl) ?_
    obtain ⟨I, μ, h0, hr⟩ := h
    refine wpE_loop (x := c_towpathref03_Hash_12) (by kernel_rfl) (fun m l w => ∃ (h_ : Int) (i : Int), l = [(0, Value.string key), (3, Value.int .u32 h_), (4, Value.int .i64 i)] ∧ I h_ i w ∧ μ h_ i w = m) (l' := [(0, Value.string key), (3, Value.int .u32 2166136261), (4, Value.int .i64 0)]) (Sub.mk (by kernel_rfl)) ⟨2166136261, 0, rfl, h0, rfl⟩ ?_
    rintro _ _ w1 ⟨h_, i, rfl, hI, rfl⟩
    obtain ⟨again_, again__h, h⟩ : ∃ again_ : Int → Int → World → Prop, (∀ h_' i' w', again_ h_' i' w' → I h_' i' w' ∧ μ h_' i' w' < μ h_ i w1) ∧ F_towpathref03_Hash_L0 key R again_ h_ i w1 := ⟨_, fun _ _ _ h => h, hr h_ i w1 hI⟩
    clear h0 hI
    unfold F_towpathref03_Hash_L0 at h
    refine wpE_seq (x := c_towpathref03_Hash_13) (y := c_towpathref03_Hash_19) (by kernel_rfl) ?_
    refine wpE_seq (x := c_towpathref03_Hash_14) (y := c_towpathref03_Hash_16) (by kernel_rfl) ?_
    refine wpE_region (id := 3) (ops := r_towpathref03_Hash_14) (by kernel_rfl) ?_
    refine reg_run [.plain, .plain, .plain, .plain] 4 [(0, [], Value.string key), (3, [], Value.int .u32 h_), (4, [], Value.int .i64 i), (8, [], Value.bool (decide (i < ((key.size : Nat) : Int))))] (by kernel_rfl) (by kernel_rfl) ?_
    refine reg_end [(0, Value.string key), (3, Value.int .u32 h_), (4, Value.int .i64 i), (8, Value.bool (decide (i < ((key.size : Nat) : Int))))] (by kernel_rfl) (by kernel_rfl) ?_
    change WpE _ _ c_towpathref03_Hash_16 _ _ _
    refine wpE_cond (o := (Operand.tmp 8)) (b := (decide (i < ((key.size : Nat) : Int)))) (x := c_towpathref03_Hash_17) (y := c_towpathref03_Hash_18) (by kernel_rfl) (by kernel_rfl) (fun hb => ?_) (fun hb => ?_)
    · replace h := h.1 hb
      refine wpE_skip (by kernel_rfl) ?_
      change WpE _ _ c_towpathref03_Hash_19 _ _ _
      refine wpE_seq (x := c_towpathref03_Hash_20) (y := c_towpathref03_Hash_23) (by kernel_rfl) ?_
      refine wpE_block (id := 1) (x := c_towpathref03_Hash_21) (by kernel_rfl) ?_
      refine wpE_region (id := 5) (ops := r_towpathref03_Hash_21) (by kernel_rfl) ?_
      refine reg_run [.plain, .plain, .plain] 3 [(0, [], Value.string key), (3, [], Value.int .u32 h_), (4, [], Value.int .i64 i), (11, [], Value.int .u32 h_), (12, [], Value.string key), (13, [], Value.int .i64 i)] (by kernel_rfl) (by kernel_rfl) ?_
      obtain ⟨h0, h1, h⟩ := h
      refine reg_indexStr (t := 9) (x := (Go.Operand.tmp 12)) (ix := (Go.Operand.tmp 13)) (s := key) (k := .i64) (j := i) (ty := 5) (dst := some 14) (by kernel_rfl) (by kernel_rfl) (by kernel_rfl) (by kernel_rfl) h0 h1 ?_
      refine reg_run [.plain, .plain, .plain, .plain] 8 [(0, [], Value.string key), (3, [], Value.int .u32 (IntKind.u32.wrap ((bxor .u32 h_ (IntKind.u32.wrap (byteAt key i))) * 16777619))), (4, [], Value.int .i64 i)] (by kernel_rfl) (by kernel_rfl) ?_
      refine reg_end [(0, Value.string key), (3, Value.int .u32 (IntKind.u32.wrap ((bxor .u32 h_ (IntKind.u32.wrap (byteAt key i))) * 16777619))), (4, Value.int .i64 i)] (by kernel_rfl) (by kernel_rfl) ?_
      change WpE _ _ c_towpathref03_Hash_23 _ _ _
      refine wpE_region (id := 4) (ops := r_towpathref03_Hash_23) (by kernel_rfl) ?_
      refine reg_run [.plain, .plain, .plain] 3 [(0, [], Value.string key), (3, [], Value.int .u32 (IntKind.u32.wrap ((bxor .u32 h_ (IntKind.u32.wrap (byteAt key i))) * 16777619))), (4, [], Value.int .i64 (IntKind.i64.wrap (i + 1)))] (by kernel_rfl) (by kernel_rfl) ?_
      refine reg_end [(0, Value.string key), (3, Value.int .u32 (IntKind.u32.wrap ((bxor .u32 h_ (IntKind.u32.wrap (byteAt key i))) * 16777619))), (4, Value.int .i64 (IntKind.i64.wrap (i + 1)))] (by kernel_rfl) (by kernel_rfl) ?_
      have hb_ := again__h _ _ _ h
      exact ⟨_, hb_.2, [(0, Value.string key), (3, Value.int .u32 (IntKind.u32.wrap ((bxor .u32 h_ (IntKind.u32.wrap (byteAt key i))) * 16777619))), (4, Value.int .i64 (IntKind.i64.wrap (i + 1)))], Sub.mk (by kernel_rfl), (IntKind.u32.wrap ((bxor .u32 h_ (IntKind.u32.wrap (byteAt key i))) * 16777619)), (IntKind.i64.wrap (i + 1)), rfl, hb_.1, rfl⟩
    · replace h := h.2 hb
      refine wpE_exit (id := 0) (by kernel_rfl) ?_
      change WpE _ _ c_towpathref03_Hash_25 _ _ _
      refine wpE_seq (x := c_towpathref03_Hash_26) (y := c_towpathref03_Hash_28) (by kernel_rfl) ?_
      refine wpE_region (id := 6) (ops := r_towpathref03_Hash_26) (by kernel_rfl) ?_
      refine reg_run [.plain, .plain] 2 [(2, [], Value.int .u32 h_)] (by kernel_rfl) (by kernel_rfl) ?_
      refine reg_end [(2, Value.int .u32 h_)] (by kernel_rfl) (by kernel_rfl) ?_
      change WpE _ _ c_towpathref03_Hash_28 _ _ _
      refine wpE_ret (by kernel_rfl) ?_
      repeat (first | refine seqQ_ret ?_ | refine blockQ_ret ?_ | refine loopQ_ret ?_ | refine cutQ_ret ?_)
      exact retS (rs := [(Go.ResultVar.tmp 2)]) (v := Value.int .u32 h_) (by kernel_rfl) (⟨by kernel_rfl, trivial⟩) ⟨h_, rfl, h⟩
  · rintro e w' ⟨v, rfl, r0, rfl, h⟩; exact ⟨r0, rfl, h⟩
end Go.Proofs.Ytfmkemmgakdddaa
