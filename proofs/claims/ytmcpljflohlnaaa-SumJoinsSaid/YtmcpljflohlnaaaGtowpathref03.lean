/- WRITTEN BY PROGRAM (dec.py): for each Go function the clean formula F, the call's contract C, and the proof S that F gives C. -/
import Derived.Test.YtmcpljflohlnaaaRows
import Derived.Test.YtmcpljflohlnaaaGF
namespace Go.Proofs.Ytmcpljflohlnaaa
open Go
set_option linter.unusedVariables false

/-! ### towpath/towpathref03.Hash (function 39) -/
noncomputable def c_towpathref03_Hash_0 : Code := (Try.f39.body).getD Code.skip
noncomputable def c_towpathref03_Hash_1 : Code := Code.l c_towpathref03_Hash_0
noncomputable def r_towpathref03_Hash_1 : Array Oper := Code.ops c_towpathref03_Hash_1
noncomputable def c_towpathref03_Hash_3 : Code := Code.r c_towpathref03_Hash_0
noncomputable def c_towpathref03_Hash_4 : Code := Code.l c_towpathref03_Hash_3
noncomputable def r_towpathref03_Hash_4 : Array Oper := Code.ops c_towpathref03_Hash_4
noncomputable def c_towpathref03_Hash_6 : Code := Code.r c_towpathref03_Hash_3
noncomputable def c_towpathref03_Hash_7 : Code := Code.l c_towpathref03_Hash_6
noncomputable def c_towpathref03_Hash_8 : Code := Code.l c_towpathref03_Hash_7
noncomputable def r_towpathref03_Hash_8 : Array Oper := Code.ops c_towpathref03_Hash_8
noncomputable def c_towpathref03_Hash_10 : Code := Code.r c_towpathref03_Hash_7
noncomputable def c_towpathref03_Hash_11 : Code := Code.l c_towpathref03_Hash_10
noncomputable def c_towpathref03_Hash_12 : Code := Code.l c_towpathref03_Hash_11
noncomputable def c_towpathref03_Hash_13 : Code := Code.l c_towpathref03_Hash_12
noncomputable def c_towpathref03_Hash_14 : Code := Code.l c_towpathref03_Hash_13
noncomputable def r_towpathref03_Hash_14 : Array Oper := Code.ops c_towpathref03_Hash_14
noncomputable def c_towpathref03_Hash_16 : Code := Code.r c_towpathref03_Hash_13
noncomputable def c_towpathref03_Hash_17 : Code := Code.l c_towpathref03_Hash_16
noncomputable def c_towpathref03_Hash_18 : Code := Code.r c_towpathref03_Hash_16
noncomputable def c_towpathref03_Hash_19 : Code := Code.r c_towpathref03_Hash_12
noncomputable def c_towpathref03_Hash_20 : Code := Code.l c_towpathref03_Hash_19
noncomputable def c_towpathref03_Hash_21 : Code := Code.l c_towpathref03_Hash_20
noncomputable def r_towpathref03_Hash_21 : Array Oper := Code.ops c_towpathref03_Hash_21
noncomputable def c_towpathref03_Hash_23 : Code := Code.r c_towpathref03_Hash_19
noncomputable def r_towpathref03_Hash_23 : Array Oper := Code.ops c_towpathref03_Hash_23
noncomputable def c_towpathref03_Hash_25 : Code := Code.r c_towpathref03_Hash_6
noncomputable def c_towpathref03_Hash_26 : Code := Code.l c_towpathref03_Hash_25
noncomputable def r_towpathref03_Hash_26 : Array Oper := Code.ops c_towpathref03_Hash_26
noncomputable def c_towpathref03_Hash_28 : Code := Code.r c_towpathref03_Hash_25

set_option maxRecDepth 100000 in
set_option maxHeartbeats 4000000 in
theorem S_towpathref03_Hash {key : ByteArray} {w : World} {R : Int → World → Prop} (h : F_towpathref03_Hash key R w) : C_towpathref03_Hash key w R := by
  unfold F_towpathref03_Hash at h
  unfold C_towpathref03_Hash
  refine Calls.mono (calls_of_wpE (args := [Value.string key]) (R := fun v w' => ∃ (r0 : Int), v = Value.int .u32 r0 ∧ R r0 w') Try.func39 (c := c_towpathref03_Hash_0) (by kernel_rfl) 19 (by kernel_rfl) (by kernel_rfl) [(0, Value.string key)] (by kernel_rfl) ?_) ?_
  · refine wpE_seq (x := c_towpathref03_Hash_1) (y := c_towpathref03_Hash_3) (by kernel_rfl) ?_
    refine wpE_region (id := 0) (ops := r_towpathref03_Hash_1) (by kernel_rfl) ?_
    refine reg_run [.plain] 1 [(0, [], Value.string key)] (by kernel_rfl) (by kernel_rfl) ?_
    refine reg_end [(0, Value.string key)] (by kernel_rfl) (by kernel_rfl) ?_
    change WpE _ _ c_towpathref03_Hash_3 _ _ _
    refine wpE_seq (x := c_towpathref03_Hash_4) (y := c_towpathref03_Hash_6) (by kernel_rfl) ?_
    refine wpE_region (id := 1) (ops := r_towpathref03_Hash_4) (by kernel_rfl) ?_
    refine reg_run [.plain] 1 [(0, [], Value.string key), (3, [], Value.int .u32 2166136261)] (by kernel_rfl) (by kernel_rfl) ?_
    refine reg_end [(0, Value.string key), (3, Value.int .u32 2166136261)] (by kernel_rfl) (by kernel_rfl) ?_
    change WpE _ _ c_towpathref03_Hash_6 _ _ _
    refine wpE_seq (x := c_towpathref03_Hash_7) (y := c_towpathref03_Hash_25) (by kernel_rfl) ?_
    refine wpE_seq (x := c_towpathref03_Hash_8) (y := c_towpathref03_Hash_10) (by kernel_rfl) ?_
    refine wpE_region (id := 2) (ops := r_towpathref03_Hash_8) (by kernel_rfl) ?_
    refine reg_run [.plain] 1 [(0, [], Value.string key), (3, [], Value.int .u32 2166136261), (4, [], Value.int .i64 0)] (by kernel_rfl) (by kernel_rfl) ?_
    refine reg_end [(0, Value.string key), (3, Value.int .u32 2166136261), (4, Value.int .i64 0)] (by kernel_rfl) (by kernel_rfl) ?_
    change WpE _ _ c_towpathref03_Hash_10 _ _ _
    refine wpE_block (id := 0) (x := c_towpathref03_Hash_11) (by kernel_rfl) ?_
    obtain ⟨I, μ, h0, hr⟩ := h
    refine wpE_loop (x := c_towpathref03_Hash_12) (by kernel_rfl) (fun m l w => ∃ (h_ : Int) (i : Int), l = [(0, Value.string key), (3, Value.int .u32 h_), (4, Value.int .i64 i)] ∧ I h_ i w ∧ μ h_ i w = m) (l' := [(0, Value.string key), (3, Value.int .u32 2166136261), (4, Value.int .i64 0)]) (Sub.mk (by kernel_rfl)) ⟨2166136261, 0, rfl, h0, rfl⟩ ?_
    rintro _ _ w1 ⟨h_, i, rfl, hI, rfl⟩
    obtain ⟨again_, again__h, h⟩ : ∃ again_ : Int → Int → World → Prop, (∀ h_' i' w', again_ h_' i' w' → I h_' i' w' ∧ μ h_' i' w' < μ h_ i w1) ∧ F_towpathref03_Hash_L0 key R again_ h_ i w1 := ⟨_, fun _ _ _ h => h, hr h_ i w1 hI⟩
    clear h0 hI
    unfold F_towpathref03_Hash_L0 at h
    refine wpE_seq (x := c_towpathref03_Hash_13) (y := c_towpathref03_Hash_19) (by kernel_rfl) ?_
    refine wpE_seq (x := c_towpathref03_Hash_14) (y := c_towpathref03_Hash_16) (by kernel_rfl) ?_
    refine wpE_region (id := 3) (ops := r_towpathref03_Hash_14) (by kernel_rfl) ?_
    refine reg_run [.plain, .plain, .plain, .plain] 4 [(0, [], Value.string key), (3, [], Value.int .u32 h_), (4, [], Value.int .i64 i), (8, [], Value.bool (decide (i < ((key.size : Nat) : Int))))] (by kernel_rfl) (by kernel_rfl) ?_
    refine reg_end [(0, Value.string key), (3, Value.int .u32 h_), (4, Value.int .i64 i), (8, Value.bool (decide (i < ((key.size : Nat) : Int))))] (by kernel_rfl) (by kernel_rfl) ?_
    change WpE _ _ c_towpathref03_Hash_16 _ _ _
    refine wpE_cond (o := (Operand.tmp 8)) (b := (decide (i < ((key.size : Nat) : Int)))) (x := c_towpathref03_Hash_17) (y := c_towpathref03_Hash_18) (by kernel_rfl) (by kernel_rfl) (fun hb => ?_) (fun hb => ?_)
    · replace h := h.1 hb
      refine wpE_skip (by kernel_rfl) ?_
      change WpE _ _ c_towpathref03_Hash_19 _ _ _
      refine wpE_seq (x := c_towpathref03_Hash_20) (y := c_towpathref03_Hash_23) (by kernel_rfl) ?_
      refine wpE_block (id := 1) (x := c_towpathref03_Hash_21) (by kernel_rfl) ?_
      refine wpE_region (id := 5) (ops := r_towpathref03_Hash_21) (by kernel_rfl) ?_
      refine reg_run [.plain, .plain, .plain] 3 [(0, [], Value.string key), (3, [], Value.int .u32 h_), (4, [], Value.int .i64 i), (11, [], Value.int .u32 h_), (12, [], Value.string key), (13, [], Value.int .i64 i)] (by kernel_rfl) (by kernel_rfl) ?_
      obtain ⟨h0, h1, h⟩ := h
      refine reg_indexStr (t := 9) (x := (Go.Operand.tmp 12)) (ix := (Go.Operand.tmp 13)) (s := key) (k := .i64) (j := i) (ty := 5) (dst := some 14) (by kernel_rfl) (by kernel_rfl) (by kernel_rfl) (by kernel_rfl) h0 h1 ?_
      refine reg_run [.plain, .plain, .plain, .plain] 8 [(0, [], Value.string key), (3, [], Value.int .u32 (IntKind.u32.wrap ((bxor .u32 h_ (IntKind.u32.wrap (byteAt key i))) * 16777619))), (4, [], Value.int .i64 i)] (by kernel_rfl) (by kernel_rfl) ?_
      refine reg_end [(0, Value.string key), (3, Value.int .u32 (IntKind.u32.wrap ((bxor .u32 h_ (IntKind.u32.wrap (byteAt key i))) * 16777619))), (4, Value.int .i64 i)] (by kernel_rfl) (by kernel_rfl) ?_
      change WpE _ _ c_towpathref03_Hash_23 _ _ _
      refine wpE_region (id := 4) (ops := r_towpathref03_Hash_23) (by kernel_rfl) ?_
      refine reg_run [.plain, .plain, .plain] 3 [(0, [], Value.string key), (3, [], Value.int .u32 (IntKind.u32.wrap ((bxor .u32 h_ (IntKind.u32.wrap (byteAt key i))) * 16777619))), (4, [], Value.int .i64 (IntKind.i64.wrap (i + 1)))] (by kernel_rfl) (by kernel_rfl) ?_
      refine reg_end [(0, Value.string key), (3, Value.int .u32 (IntKind.u32.wrap ((bxor .u32 h_ (IntKind.u32.wrap (byteAt key i))) * 16777619))), (4, Value.int .i64 (IntKind.i64.wrap (i + 1)))] (by kernel_rfl) (by kernel_rfl) ?_
      have hb_ := again__h _ _ _ h
      exact ⟨_, hb_.2, [(0, Value.string key), (3, Value.int .u32 (IntKind.u32.wrap ((bxor .u32 h_ (IntKind.u32.wrap (byteAt key i))) * 16777619))), (4, Value.int .i64 (IntKind.i64.wrap (i + 1)))], Sub.mk (by kernel_rfl), (IntKind.u32.wrap ((bxor .u32 h_ (IntKind.u32.wrap (byteAt key i))) * 16777619)), (IntKind.i64.wrap (i + 1)), rfl, hb_.1, rfl⟩
    · replace h := h.2 hb
      refine wpE_exit (id := 0) (by kernel_rfl) ?_
      change WpE _ _ c_towpathref03_Hash_25 _ _ _
      refine wpE_seq (x := c_towpathref03_Hash_26) (y := c_towpathref03_Hash_28) (by kernel_rfl) ?_
      refine wpE_region (id := 6) (ops := r_towpathref03_Hash_26) (by kernel_rfl) ?_
      refine reg_run [.plain, .plain] 2 [(2, [], Value.int .u32 h_)] (by kernel_rfl) (by kernel_rfl) ?_
      refine reg_end [(2, Value.int .u32 h_)] (by kernel_rfl) (by kernel_rfl) ?_
      change WpE _ _ c_towpathref03_Hash_28 _ _ _
      refine wpE_ret (by kernel_rfl) ?_
      repeat (first | refine seqQ_ret ?_ | refine blockQ_ret ?_ | refine loopQ_ret ?_ | refine cutQ_ret ?_)
      exact retS (rs := [(Go.ResultVar.tmp 2)]) (v := Value.int .u32 h_) (by kernel_rfl) (⟨by kernel_rfl, trivial⟩) ⟨h_, rfl, h⟩
  · rintro e w' ⟨v, rfl, r0, rfl, h⟩; exact ⟨r0, rfl, h⟩

/-! ### towpath/towpathref03.CRC (function 52) -/
noncomputable def c_towpathref03_CRC_0 : Code := (Try.f52.body).getD Code.skip
noncomputable def c_towpathref03_CRC_1 : Code := Code.l c_towpathref03_CRC_0
noncomputable def r_towpathref03_CRC_1 : Array Oper := Code.ops c_towpathref03_CRC_1
noncomputable def c_towpathref03_CRC_3 : Code := Code.r c_towpathref03_CRC_0
noncomputable def c_towpathref03_CRC_4 : Code := Code.l c_towpathref03_CRC_3
noncomputable def r_towpathref03_CRC_4 : Array Oper := Code.ops c_towpathref03_CRC_4
noncomputable def c_towpathref03_CRC_6 : Code := Code.r c_towpathref03_CRC_3

set_option maxRecDepth 100000 in
set_option maxHeartbeats 4000000 in
theorem S_towpathref03_CRC {b_ : Slc} {w : World} {R : Int → World → Prop} (h : F_towpathref03_CRC b_ R w) : C_towpathref03_CRC b_ w R := by
  unfold F_towpathref03_CRC at h
  unfold C_towpathref03_CRC
  refine Calls.mono (calls_of_wpE (args := [Value.slice b_.ptr b_.len b_.cap]) (R := fun v w' => ∃ (r0 : Int), v = Value.int .u32 r0 ∧ R r0 w') Try.func52 (c := c_towpathref03_CRC_0) (by kernel_rfl) 5 (by kernel_rfl) (by kernel_rfl) [(0, Value.slice b_.ptr b_.len b_.cap)] (by kernel_rfl) ?_) ?_
  · refine wpE_seq (x := c_towpathref03_CRC_1) (y := c_towpathref03_CRC_3) (by kernel_rfl) ?_
    refine wpE_region (id := 0) (ops := r_towpathref03_CRC_1) (by kernel_rfl) ?_
    refine reg_run [.plain] 1 [(0, [], Value.slice b_.ptr b_.len b_.cap)] (by kernel_rfl) (by kernel_rfl) ?_
    refine reg_end [(0, Value.slice b_.ptr b_.len b_.cap)] (by kernel_rfl) (by kernel_rfl) ?_
    change WpE _ _ c_towpathref03_CRC_3 _ _ _
    refine wpE_seq (x := c_towpathref03_CRC_4) (y := c_towpathref03_CRC_6) (by kernel_rfl) ?_
    refine wpE_region (id := 1) (ops := r_towpathref03_CRC_4) (by kernel_rfl) ?_
    refine reg_run [.plain] 1 [(3, [], Value.slice b_.ptr b_.len b_.cap)] (by kernel_rfl) (by kernel_rfl) ?_
    refine reg_enter (op := (Go.Op.call (Go.Call.mk (Go.Callee.value (Go.Operand.func 54)) #[(Go.Operand.const (Go.Value.int Go.IntKind.u32 0)), (Go.Operand.tmp 3)] #[39, 74]))) (ty := 39) (dst := some 4) 54 #[Value.int .u32 0, Value.slice b_.ptr b_.len b_.cap] (by kernel_rfl) (fun ww => by kernel_rfl) (Calls.mono h ?_)
    rintro _ w1 ⟨v4, rfl, h⟩
    refine ⟨_, rfl, ?_⟩
    refine reg_run [.plain] 3 [(2, [], Value.int .u32 v4)] (by kernel_rfl) (by kernel_rfl) ?_
    refine reg_end [(2, Value.int .u32 v4)] (by kernel_rfl) (by kernel_rfl) ?_
    change WpE _ _ c_towpathref03_CRC_6 _ _ _
    refine wpE_ret (by kernel_rfl) ?_
    repeat (first | refine seqQ_ret ?_ | refine blockQ_ret ?_ | refine loopQ_ret ?_ | refine cutQ_ret ?_)
    exact retS (rs := [(Go.ResultVar.tmp 2)]) (v := Value.int .u32 v4) (by kernel_rfl) (⟨by kernel_rfl, trivial⟩) ⟨v4, rfl, h⟩
  · rintro e w' ⟨v, rfl, r0, rfl, h⟩; exact ⟨r0, rfl, h⟩

/-! ### towpath/towpathref03.More (function 54) -/
noncomputable def c_towpathref03_More_0 : Code := (Try.f54.body).getD Code.skip
noncomputable def c_towpathref03_More_1 : Code := Code.l c_towpathref03_More_0
noncomputable def r_towpathref03_More_1 : Array Oper := Code.ops c_towpathref03_More_1
noncomputable def c_towpathref03_More_3 : Code := Code.r c_towpathref03_More_0
noncomputable def c_towpathref03_More_4 : Code := Code.l c_towpathref03_More_3
noncomputable def r_towpathref03_More_4 : Array Oper := Code.ops c_towpathref03_More_4
noncomputable def c_towpathref03_More_6 : Code := Code.r c_towpathref03_More_3
noncomputable def c_towpathref03_More_7 : Code := Code.l c_towpathref03_More_6
noncomputable def c_towpathref03_More_8 : Code := Code.l c_towpathref03_More_7
noncomputable def r_towpathref03_More_8 : Array Oper := Code.ops c_towpathref03_More_8
noncomputable def c_towpathref03_More_10 : Code := Code.r c_towpathref03_More_7
noncomputable def c_towpathref03_More_11 : Code := Code.l c_towpathref03_More_10
noncomputable def c_towpathref03_More_12 : Code := Code.l c_towpathref03_More_11
noncomputable def c_towpathref03_More_13 : Code := Code.l c_towpathref03_More_12
noncomputable def c_towpathref03_More_14 : Code := Code.l c_towpathref03_More_13
noncomputable def r_towpathref03_More_14 : Array Oper := Code.ops c_towpathref03_More_14
noncomputable def c_towpathref03_More_16 : Code := Code.r c_towpathref03_More_13
noncomputable def c_towpathref03_More_17 : Code := Code.l c_towpathref03_More_16
noncomputable def c_towpathref03_More_18 : Code := Code.r c_towpathref03_More_16
noncomputable def c_towpathref03_More_19 : Code := Code.r c_towpathref03_More_12
noncomputable def c_towpathref03_More_20 : Code := Code.l c_towpathref03_More_19
noncomputable def c_towpathref03_More_21 : Code := Code.l c_towpathref03_More_20
noncomputable def c_towpathref03_More_22 : Code := Code.l c_towpathref03_More_21
noncomputable def r_towpathref03_More_22 : Array Oper := Code.ops c_towpathref03_More_22
noncomputable def c_towpathref03_More_24 : Code := Code.r c_towpathref03_More_21
noncomputable def c_towpathref03_More_25 : Code := Code.l c_towpathref03_More_24
noncomputable def r_towpathref03_More_25 : Array Oper := Code.ops c_towpathref03_More_25
noncomputable def c_towpathref03_More_27 : Code := Code.r c_towpathref03_More_24
noncomputable def c_towpathref03_More_28 : Code := Code.l c_towpathref03_More_27
noncomputable def c_towpathref03_More_29 : Code := Code.l c_towpathref03_More_28
noncomputable def c_towpathref03_More_30 : Code := Code.l c_towpathref03_More_29
noncomputable def c_towpathref03_More_31 : Code := Code.l c_towpathref03_More_30
noncomputable def r_towpathref03_More_31 : Array Oper := Code.ops c_towpathref03_More_31
noncomputable def c_towpathref03_More_33 : Code := Code.r c_towpathref03_More_30
noncomputable def c_towpathref03_More_34 : Code := Code.l c_towpathref03_More_33
noncomputable def c_towpathref03_More_35 : Code := Code.r c_towpathref03_More_33
noncomputable def c_towpathref03_More_36 : Code := Code.r c_towpathref03_More_29
noncomputable def c_towpathref03_More_37 : Code := Code.l c_towpathref03_More_36
noncomputable def c_towpathref03_More_38 : Code := Code.l c_towpathref03_More_37
noncomputable def c_towpathref03_More_39 : Code := Code.l c_towpathref03_More_38
noncomputable def r_towpathref03_More_39 : Array Oper := Code.ops c_towpathref03_More_39
noncomputable def c_towpathref03_More_41 : Code := Code.r c_towpathref03_More_38
noncomputable def c_towpathref03_More_42 : Code := Code.l c_towpathref03_More_41
noncomputable def r_towpathref03_More_42 : Array Oper := Code.ops c_towpathref03_More_42
noncomputable def c_towpathref03_More_44 : Code := Code.r c_towpathref03_More_41
noncomputable def c_towpathref03_More_45 : Code := Code.l c_towpathref03_More_44
noncomputable def r_towpathref03_More_45 : Array Oper := Code.ops c_towpathref03_More_45
noncomputable def c_towpathref03_More_47 : Code := Code.r c_towpathref03_More_44
noncomputable def c_towpathref03_More_48 : Code := Code.l c_towpathref03_More_47
noncomputable def r_towpathref03_More_48 : Array Oper := Code.ops c_towpathref03_More_48
noncomputable def c_towpathref03_More_50 : Code := Code.r c_towpathref03_More_47
noncomputable def c_towpathref03_More_51 : Code := Code.r c_towpathref03_More_36
noncomputable def r_towpathref03_More_51 : Array Oper := Code.ops c_towpathref03_More_51
noncomputable def c_towpathref03_More_53 : Code := Code.r c_towpathref03_More_19
noncomputable def r_towpathref03_More_53 : Array Oper := Code.ops c_towpathref03_More_53
noncomputable def c_towpathref03_More_55 : Code := Code.r c_towpathref03_More_6
noncomputable def c_towpathref03_More_56 : Code := Code.l c_towpathref03_More_55
noncomputable def r_towpathref03_More_56 : Array Oper := Code.ops c_towpathref03_More_56
noncomputable def c_towpathref03_More_58 : Code := Code.r c_towpathref03_More_55

set_option maxRecDepth 100000 in
set_option maxHeartbeats 4000000 in
theorem S_towpathref03_More {sum : Int} {b_ : Slc} {w : World} {R : Int → World → Prop} (h : F_towpathref03_More sum b_ R w) : C_towpathref03_More sum b_ w R := by
  unfold F_towpathref03_More at h
  unfold C_towpathref03_More
  refine Calls.mono (calls_of_wpE (args := [Value.int .u32 sum, Value.slice b_.ptr b_.len b_.cap]) (R := fun v w' => ∃ (r0 : Int), v = Value.int .u32 r0 ∧ R r0 w') Try.func54 (c := c_towpathref03_More_0) (by kernel_rfl) 38 (by kernel_rfl) (by kernel_rfl) [(0, Value.int .u32 sum), (1, Value.slice b_.ptr b_.len b_.cap)] (by kernel_rfl) ?_) ?_
  · refine wpE_seq (x := c_towpathref03_More_1) (y := c_towpathref03_More_3) (by kernel_rfl) ?_
    refine wpE_region (id := 0) (ops := r_towpathref03_More_1) (by kernel_rfl) ?_
    refine reg_run [.plain] 1 [(0, [], Value.int .u32 sum), (1, [], Value.slice b_.ptr b_.len b_.cap)] (by kernel_rfl) (by kernel_rfl) ?_
    refine reg_end [(0, Value.int .u32 sum), (1, Value.slice b_.ptr b_.len b_.cap)] (by kernel_rfl) (by kernel_rfl) ?_
    change WpE _ _ c_towpathref03_More_3 _ _ _
    refine wpE_seq (x := c_towpathref03_More_4) (y := c_towpathref03_More_6) (by kernel_rfl) ?_
    refine wpE_region (id := 1) (ops := r_towpathref03_More_4) (by kernel_rfl) ?_
    refine reg_run [.plain, .plain, .plain] 3 [(1, [], Value.slice b_.ptr b_.len b_.cap), (5, [], Value.int .u32 (IntKind.u32.wrap (4294967295 - sum)))] (by kernel_rfl) (by kernel_rfl) ?_
    refine reg_end [(1, Value.slice b_.ptr b_.len b_.cap), (5, Value.int .u32 (IntKind.u32.wrap (4294967295 - sum)))] (by kernel_rfl) (by kernel_rfl) ?_
    change WpE _ _ c_towpathref03_More_6 _ _ _
    refine wpE_seq (x := c_towpathref03_More_7) (y := c_towpathref03_More_55) (by kernel_rfl) ?_
    refine wpE_seq (x := c_towpathref03_More_8) (y := c_towpathref03_More_10) (by kernel_rfl) ?_
    refine wpE_region (id := 2) (ops := r_towpathref03_More_8) (by kernel_rfl) ?_
    refine reg_run [.plain] 1 [(1, [], Value.slice b_.ptr b_.len b_.cap), (5, [], Value.int .u32 (IntKind.u32.wrap (4294967295 - sum))), (6, [], Value.int .i64 0)] (by kernel_rfl) (by kernel_rfl) ?_
    refine reg_end [(1, Value.slice b_.ptr b_.len b_.cap), (5, Value.int .u32 (IntKind.u32.wrap (4294967295 - sum))), (6, Value.int .i64 0)] (by kernel_rfl) (by kernel_rfl) ?_
    change WpE _ _ c_towpathref03_More_10 _ _ _
    refine wpE_block (id := 0) (x := c_towpathref03_More_11) (by kernel_rfl) ?_
    obtain ⟨I, μ, h0, hr⟩ := h
    refine wpE_loop (x := c_towpathref03_More_12) (by kernel_rfl) (fun m l w => ∃ (c : Int) (i : Int), l = [(1, Value.slice b_.ptr b_.len b_.cap), (5, Value.int .u32 c), (6, Value.int .i64 i)] ∧ I c i w ∧ μ c i w = m) (l' := [(1, Value.slice b_.ptr b_.len b_.cap), (5, Value.int .u32 (IntKind.u32.wrap (4294967295 - sum))), (6, Value.int .i64 0)]) (Sub.mk (by kernel_rfl)) ⟨(IntKind.u32.wrap (4294967295 - sum)), 0, rfl, h0, rfl⟩ ?_
    rintro _ _ w1 ⟨c, i, rfl, hI, rfl⟩
    obtain ⟨again_, again__h, h⟩ : ∃ again_ : Int → Int → World → Prop, (∀ c' i' w', again_ c' i' w' → I c' i' w' ∧ μ c' i' w' < μ c i w1) ∧ F_towpathref03_More_L0 b_ R again_ c i w1 := ⟨_, fun _ _ _ h => h, hr c i w1 hI⟩
    clear h0 hI
    unfold F_towpathref03_More_L0 at h
    refine wpE_seq (x := c_towpathref03_More_13) (y := c_towpathref03_More_19) (by kernel_rfl) ?_
    refine wpE_seq (x := c_towpathref03_More_14) (y := c_towpathref03_More_16) (by kernel_rfl) ?_
    refine wpE_region (id := 3) (ops := r_towpathref03_More_14) (by kernel_rfl) ?_
    refine reg_run [.plain, .plain, .plain, .plain] 4 [(1, [], Value.slice b_.ptr b_.len b_.cap), (5, [], Value.int .u32 c), (6, [], Value.int .i64 i), (14, [], Value.bool (decide (i < ((b_.len : Nat) : Int))))] (by kernel_rfl) (by kernel_rfl) ?_
    refine reg_end [(1, Value.slice b_.ptr b_.len b_.cap), (5, Value.int .u32 c), (6, Value.int .i64 i), (14, Value.bool (decide (i < ((b_.len : Nat) : Int))))] (by kernel_rfl) (by kernel_rfl) ?_
    change WpE _ _ c_towpathref03_More_16 _ _ _
    refine wpE_cond (o := (Operand.tmp 14)) (b := (decide (i < ((b_.len : Nat) : Int)))) (x := c_towpathref03_More_17) (y := c_towpathref03_More_18) (by kernel_rfl) (by kernel_rfl) (fun hb => ?_) (fun hb => ?_)
    · replace h := h.1 hb
      refine wpE_skip (by kernel_rfl) ?_
      change WpE _ _ c_towpathref03_More_19 _ _ _
      refine wpE_seq (x := c_towpathref03_More_20) (y := c_towpathref03_More_53) (by kernel_rfl) ?_
      refine wpE_block (id := 1) (x := c_towpathref03_More_21) (by kernel_rfl) ?_
      refine wpE_seq (x := c_towpathref03_More_22) (y := c_towpathref03_More_24) (by kernel_rfl) ?_
      refine wpE_region (id := 5) (ops := r_towpathref03_More_22) (by kernel_rfl) ?_
      refine reg_run [.plain, .plain, .plain] 3 [(1, [], Value.slice b_.ptr b_.len b_.cap), (5, [], Value.int .u32 c), (6, [], Value.int .i64 i), (17, [], Value.int .u32 c), (18, [], Value.slice b_.ptr b_.len b_.cap), (19, [], Value.int .i64 i)] (by kernel_rfl) (by kernel_rfl) ?_
      obtain ⟨hp_7, h⟩ := h
      refine reg_conv [(1, [], Value.slice b_.ptr b_.len b_.cap), (5, [], Value.int .u32 c), (6, [], Value.int .i64 i), (17, [], Value.int .u32 c), (18, [], Value.slice (some ⟨(pblk b_.ptr), (poff b_.ptr), none⟩) b_.len b_.cap), (19, [], Value.int .i64 i)] (congrArg (fun pp => ([(1, [], Value.slice b_.ptr b_.len b_.cap), (5, [], Value.int .u32 c), (6, [], Value.int .i64 i), (17, [], Value.int .u32 c), (18, [], Value.slice pp b_.len b_.cap), (19, [], Value.int .i64 i)] : GEnv)) hp_7) ?_
      obtain ⟨h0, h1, h⟩ := h
      refine reg_indexS1 (t := 74) (e := 5) (x := (Go.Operand.tmp 18)) (ix := (Go.Operand.tmp 19)) (b := (pblk b_.ptr)) (o := (poff b_.ptr)) (l := b_.len) (c := b_.cap) (k := .i64) (j := i) (ty := 0) (dst := some 20) (by kernel_rfl) (by kernel_rfl) (by kernel_rfl) (by kernel_rfl) (by kernel_rfl) h0 h1 ?_
      refine reg_run [] 4 [(1, [], Value.slice b_.ptr b_.len b_.cap), (5, [], Value.int .u32 c), (6, [], Value.int .i64 i), (17, [], Value.int .u32 c), (20, [], Value.pointer (some ⟨(pblk b_.ptr), (poff b_.ptr) + i.toNat, none⟩))] (by kernel_rfl) (by kernel_rfl) ?_
      obtain ⟨v21, hc, h⟩ := h
      refine reg_load1 (t := 5) (a := (Go.Operand.tmp 20)) (b := (pblk b_.ptr)) (o := ((poff b_.ptr) + i.toNat)) (ty := 5) (dst := some 21) (by kernel_rfl) (by kernel_rfl) (by kernel_rfl) hc ?_
      refine reg_run [.plain, .plain, .plain] 8 [(1, [], Value.slice b_.ptr b_.len b_.cap), (5, [], Value.int .u32 (bxor .u32 c (IntKind.u32.wrap v21))), (6, [], Value.int .i64 i)] (by kernel_rfl) (by kernel_rfl) ?_
      refine reg_end [(1, Value.slice b_.ptr b_.len b_.cap), (5, Value.int .u32 (bxor .u32 c (IntKind.u32.wrap v21))), (6, Value.int .i64 i)] (by kernel_rfl) (by kernel_rfl) ?_
      change WpE _ _ c_towpathref03_More_24 _ _ _
      refine wpE_seq (x := c_towpathref03_More_25) (y := c_towpathref03_More_27) (by kernel_rfl) ?_
      refine wpE_region (id := 6) (ops := r_towpathref03_More_25) (by kernel_rfl) ?_
      refine reg_run [.plain] 1 [(1, [], Value.slice b_.ptr b_.len b_.cap), (5, [], Value.int .u32 (bxor .u32 c (IntKind.u32.wrap v21))), (6, [], Value.int .i64 i), (7, [], Value.int .i64 0)] (by kernel_rfl) (by kernel_rfl) ?_
      refine reg_end [(1, Value.slice b_.ptr b_.len b_.cap), (5, Value.int .u32 (bxor .u32 c (IntKind.u32.wrap v21))), (6, Value.int .i64 i), (7, Value.int .i64 0)] (by kernel_rfl) (by kernel_rfl) ?_
      change WpE _ _ c_towpathref03_More_27 _ _ _
      refine wpE_block (id := 2) (x := c_towpathref03_More_28) (by kernel_rfl) ?_
      obtain ⟨I, μ, h0, hr⟩ := h
      refine wpE_loop (x := c_towpathref03_More_29) (by kernel_rfl) (fun m l w => ∃ (c1 : Int) (k : Int), l = [(1, Value.slice b_.ptr b_.len b_.cap), (5, Value.int .u32 c1), (6, Value.int .i64 i), (7, Value.int .i64 k)] ∧ I c1 k w ∧ μ c1 k w = m) (l' := [(1, Value.slice b_.ptr b_.len b_.cap), (5, Value.int .u32 (bxor .u32 c (IntKind.u32.wrap v21))), (6, Value.int .i64 i), (7, Value.int .i64 0)]) (Sub.mk (by kernel_rfl)) ⟨(bxor .u32 c (IntKind.u32.wrap v21)), 0, rfl, h0, rfl⟩ ?_
      rintro _ _ w2 ⟨c1, k, rfl, hI, rfl⟩
      obtain ⟨again_1, again_1_h, h⟩ : ∃ again_1 : Int → Int → World → Prop, (∀ c1' k' w', again_1 c1' k' w' → I c1' k' w' ∧ μ c1' k' w' < μ c1 k w2) ∧ F_towpathref03_More_L1 i again_ again_1 c1 k w2 := ⟨_, fun _ _ _ h => h, hr c1 k w2 hI⟩
      clear h0 hI
      unfold F_towpathref03_More_L1 at h
      refine wpE_seq (x := c_towpathref03_More_30) (y := c_towpathref03_More_36) (by kernel_rfl) ?_
      refine wpE_seq (x := c_towpathref03_More_31) (y := c_towpathref03_More_33) (by kernel_rfl) ?_
      refine wpE_region (id := 7) (ops := r_towpathref03_More_31) (by kernel_rfl) ?_
      refine reg_run [.plain, .plain] 2 [(1, [], Value.slice b_.ptr b_.len b_.cap), (5, [], Value.int .u32 c1), (6, [], Value.int .i64 i), (7, [], Value.int .i64 k), (25, [], Value.bool (decide (k < 8)))] (by kernel_rfl) (by kernel_rfl) ?_
      refine reg_end [(1, Value.slice b_.ptr b_.len b_.cap), (5, Value.int .u32 c1), (6, Value.int .i64 i), (7, Value.int .i64 k), (25, Value.bool (decide (k < 8)))] (by kernel_rfl) (by kernel_rfl) ?_
      change WpE _ _ c_towpathref03_More_33 _ _ _
      refine wpE_cond (o := (Operand.tmp 25)) (b := (decide (k < 8))) (x := c_towpathref03_More_34) (y := c_towpathref03_More_35) (by kernel_rfl) (by kernel_rfl) (fun hb => ?_) (fun hb => ?_)
      · replace h := h.1 hb
        refine wpE_skip (by kernel_rfl) ?_
        change WpE _ _ c_towpathref03_More_36 _ _ _
        refine wpE_seq_cut (x := c_towpathref03_More_37) (y := c_towpathref03_More_51) (by kernel_rfl) (fun l w => ∃ (c2 : Int), l = [(1, Value.slice b_.ptr b_.len b_.cap), (5, Value.int .u32 c2), (6, Value.int .i64 i), (7, Value.int .i64 k)] ∧ F_towpathref03_More_k2 k again_1 c2 w) ?_ ?_
        · refine wpE_block (id := 3) (x := c_towpathref03_More_38) (by kernel_rfl) ?_
          refine wpE_seq (x := c_towpathref03_More_39) (y := c_towpathref03_More_41) (by kernel_rfl) ?_
          refine wpE_region (id := 9) (ops := r_towpathref03_More_39) (by kernel_rfl) ?_
          refine reg_run [.plain, .plain, .plain, .plain] 4 [(1, [], Value.slice b_.ptr b_.len b_.cap), (5, [], Value.int .u32 c1), (6, [], Value.int .i64 i), (7, [], Value.int .i64 k), (8, [], Value.bool ((Int.tmod c1 2) == 1))] (by kernel_rfl) (by kernel_rfl) ?_
          refine reg_end [(1, Value.slice b_.ptr b_.len b_.cap), (5, Value.int .u32 c1), (6, Value.int .i64 i), (7, Value.int .i64 k), (8, Value.bool ((Int.tmod c1 2) == 1))] (by kernel_rfl) (by kernel_rfl) ?_
          change WpE _ _ c_towpathref03_More_41 _ _ _
          refine wpE_seq (x := c_towpathref03_More_42) (y := c_towpathref03_More_44) (by kernel_rfl) ?_
          refine wpE_region (id := 10) (ops := r_towpathref03_More_42) (by kernel_rfl) ?_
          refine reg_run [.plain, .plain, .plain] 3 [(1, [], Value.slice b_.ptr b_.len b_.cap), (5, [], Value.int .u32 (IntKind.u32.wrap (Int.tdiv c1 2))), (6, [], Value.int .i64 i), (7, [], Value.int .i64 k), (8, [], Value.bool ((Int.tmod c1 2) == 1))] (by kernel_rfl) (by kernel_rfl) ?_
          refine reg_end [(1, Value.slice b_.ptr b_.len b_.cap), (5, Value.int .u32 (IntKind.u32.wrap (Int.tdiv c1 2))), (6, Value.int .i64 i), (7, Value.int .i64 k), (8, Value.bool ((Int.tmod c1 2) == 1))] (by kernel_rfl) (by kernel_rfl) ?_
          change WpE _ _ c_towpathref03_More_44 _ _ _
          refine wpE_seq (x := c_towpathref03_More_45) (y := c_towpathref03_More_47) (by kernel_rfl) ?_
          refine wpE_region (id := 11) (ops := r_towpathref03_More_45) (by kernel_rfl) ?_
          refine reg_run [.plain] 1 [(1, [], Value.slice b_.ptr b_.len b_.cap), (5, [], Value.int .u32 (IntKind.u32.wrap (Int.tdiv c1 2))), (6, [], Value.int .i64 i), (7, [], Value.int .i64 k), (33, [], Value.bool ((Int.tmod c1 2) == 1))] (by kernel_rfl) (by kernel_rfl) ?_
          refine reg_end [(1, Value.slice b_.ptr b_.len b_.cap), (5, Value.int .u32 (IntKind.u32.wrap (Int.tdiv c1 2))), (6, Value.int .i64 i), (7, Value.int .i64 k), (33, Value.bool ((Int.tmod c1 2) == 1))] (by kernel_rfl) (by kernel_rfl) ?_
          change WpE _ _ c_towpathref03_More_47 _ _ _
          refine wpE_cond (o := (Operand.tmp 33)) (b := ((Int.tmod c1 2) == 1)) (x := c_towpathref03_More_48) (y := c_towpathref03_More_50) (by kernel_rfl) (by kernel_rfl) (fun hb => ?_) (fun hb => ?_)
          · replace h := h.1 hb
            refine wpE_region (id := 12) (ops := r_towpathref03_More_48) (by kernel_rfl) ?_
            refine reg_run [.plain, .plain, .plain] 3 [(1, [], Value.slice b_.ptr b_.len b_.cap), (5, [], Value.int .u32 (bxor .u32 (IntKind.u32.wrap (Int.tdiv c1 2)) 2197175160)), (6, [], Value.int .i64 i), (7, [], Value.int .i64 k)] (by kernel_rfl) (by kernel_rfl) ?_
            refine reg_end [(1, Value.slice b_.ptr b_.len b_.cap), (5, Value.int .u32 (bxor .u32 (IntKind.u32.wrap (Int.tdiv c1 2)) 2197175160)), (6, Value.int .i64 i), (7, Value.int .i64 k)] (by kernel_rfl) (by kernel_rfl) ?_
            exact ⟨[(1, Value.slice b_.ptr b_.len b_.cap), (5, Value.int .u32 (bxor .u32 (IntKind.u32.wrap (Int.tdiv c1 2)) 2197175160)), (6, Value.int .i64 i), (7, Value.int .i64 k)], Sub.mk (by kernel_rfl), (bxor .u32 (IntKind.u32.wrap (Int.tdiv c1 2)) 2197175160), rfl, h⟩
          · replace h := h.2 hb
            refine wpE_skip (by kernel_rfl) ?_
            exact ⟨[(1, Value.slice b_.ptr b_.len b_.cap), (5, Value.int .u32 (IntKind.u32.wrap (Int.tdiv c1 2))), (6, Value.int .i64 i), (7, Value.int .i64 k)], Sub.mk (by kernel_rfl), (IntKind.u32.wrap (Int.tdiv c1 2)), rfl, h⟩
        · rintro _ w3 ⟨c2, rfl, h⟩
          unfold F_towpathref03_More_k2 at h
          refine wpE_region (id := 8) (ops := r_towpathref03_More_51) (by kernel_rfl) ?_
          refine reg_run [.plain, .plain, .plain] 3 [(1, [], Value.slice b_.ptr b_.len b_.cap), (5, [], Value.int .u32 c2), (6, [], Value.int .i64 i), (7, [], Value.int .i64 (IntKind.i64.wrap (k + 1)))] (by kernel_rfl) (by kernel_rfl) ?_
          refine reg_end [(1, Value.slice b_.ptr b_.len b_.cap), (5, Value.int .u32 c2), (6, Value.int .i64 i), (7, Value.int .i64 (IntKind.i64.wrap (k + 1)))] (by kernel_rfl) (by kernel_rfl) ?_
          have hb_ := again_1_h _ _ _ h
          exact ⟨_, hb_.2, [(1, Value.slice b_.ptr b_.len b_.cap), (5, Value.int .u32 c2), (6, Value.int .i64 i), (7, Value.int .i64 (IntKind.i64.wrap (k + 1)))], Sub.mk (by kernel_rfl), c2, (IntKind.i64.wrap (k + 1)), rfl, hb_.1, rfl⟩
      · replace h := h.2 hb
        refine wpE_exit (id := 2) (by kernel_rfl) ?_
        change WpE _ _ c_towpathref03_More_53 _ _ _
        refine wpE_region (id := 4) (ops := r_towpathref03_More_53) (by kernel_rfl) ?_
        refine reg_run [.plain, .plain, .plain] 3 [(1, [], Value.slice b_.ptr b_.len b_.cap), (5, [], Value.int .u32 c1), (6, [], Value.int .i64 (IntKind.i64.wrap (i + 1)))] (by kernel_rfl) (by kernel_rfl) ?_
        refine reg_end [(1, Value.slice b_.ptr b_.len b_.cap), (5, Value.int .u32 c1), (6, Value.int .i64 (IntKind.i64.wrap (i + 1)))] (by kernel_rfl) (by kernel_rfl) ?_
        have hb_ := again__h _ _ _ h
        exact ⟨_, hb_.2, [(1, Value.slice b_.ptr b_.len b_.cap), (5, Value.int .u32 c1), (6, Value.int .i64 (IntKind.i64.wrap (i + 1)))], Sub.mk (by kernel_rfl), c1, (IntKind.i64.wrap (i + 1)), rfl, hb_.1, rfl⟩
    · replace h := h.2 hb
      refine wpE_exit (id := 0) (by kernel_rfl) ?_
      change WpE _ _ c_towpathref03_More_55 _ _ _
      refine wpE_seq (x := c_towpathref03_More_56) (y := c_towpathref03_More_58) (by kernel_rfl) ?_
      refine wpE_region (id := 13) (ops := r_towpathref03_More_56) (by kernel_rfl) ?_
      refine reg_run [.plain, .plain, .plain] 3 [(4, [], Value.int .u32 (IntKind.u32.wrap (4294967295 - c)))] (by kernel_rfl) (by kernel_rfl) ?_
      refine reg_end [(4, Value.int .u32 (IntKind.u32.wrap (4294967295 - c)))] (by kernel_rfl) (by kernel_rfl) ?_
      change WpE _ _ c_towpathref03_More_58 _ _ _
      refine wpE_ret (by kernel_rfl) ?_
      repeat (first | refine seqQ_ret ?_ | refine blockQ_ret ?_ | refine loopQ_ret ?_ | refine cutQ_ret ?_)
      exact retS (rs := [(Go.ResultVar.tmp 4)]) (v := Value.int .u32 (IntKind.u32.wrap (4294967295 - c))) (by kernel_rfl) (⟨by kernel_rfl, trivial⟩) ⟨(IntKind.u32.wrap (4294967295 - c)), rfl, h⟩
  · rintro e w' ⟨v, rfl, r0, rfl, h⟩; exact ⟨r0, rfl, h⟩
end Go.Proofs.Ytmcpljflohlnaaa
