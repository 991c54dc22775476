/- WRITTEN BY PROGRAM (dec.py): for each Go function the clean formula F, the call's contract C, and the proof S that F gives C. -/
import Derived.Test.YtmcpljflohlnaaaRows
import Derived.Test.YtmcpljflohlnaaaGF
namespace Go.Proofs.Ytmcpljflohlnaaa
open Go
set_option linter.unusedVariables false

/-! ### towpath/sum.Hash (function 38) -/
noncomputable def c_sum_Hash_0 : Code := (Try.f38.body).getD Code.skip
noncomputable def c_sum_Hash_1 : Code := Code.l c_sum_Hash_0
noncomputable def r_sum_Hash_1 : Array Oper := Code.ops c_sum_Hash_1
noncomputable def c_sum_Hash_3 : Code := Code.r c_sum_Hash_0
noncomputable def c_sum_Hash_4 : Code := Code.l c_sum_Hash_3
noncomputable def r_sum_Hash_4 : Array Oper := Code.ops c_sum_Hash_4
noncomputable def c_sum_Hash_6 : Code := Code.r c_sum_Hash_3
noncomputable def c_sum_Hash_7 : Code := Code.l c_sum_Hash_6
noncomputable def c_sum_Hash_8 : Code := Code.l c_sum_Hash_7
noncomputable def r_sum_Hash_8 : Array Oper := Code.ops c_sum_Hash_8
noncomputable def c_sum_Hash_10 : Code := Code.r c_sum_Hash_7
noncomputable def c_sum_Hash_11 : Code := Code.l c_sum_Hash_10
noncomputable def c_sum_Hash_12 : Code := Code.l c_sum_Hash_11
noncomputable def c_sum_Hash_13 : Code := Code.l c_sum_Hash_12
noncomputable def r_sum_Hash_13 : Array Oper := Code.ops c_sum_Hash_13
noncomputable def c_sum_Hash_15 : Code := Code.r c_sum_Hash_12
noncomputable def c_sum_Hash_16 : Code := Code.l c_sum_Hash_15
noncomputable def c_sum_Hash_17 : Code := Code.l c_sum_Hash_16
noncomputable def c_sum_Hash_18 : Code := Code.r c_sum_Hash_16
noncomputable def c_sum_Hash_19 : Code := Code.r c_sum_Hash_15
noncomputable def c_sum_Hash_20 : Code := Code.l c_sum_Hash_19
noncomputable def c_sum_Hash_21 : Code := Code.l c_sum_Hash_20
noncomputable def c_sum_Hash_22 : Code := Code.l c_sum_Hash_21
noncomputable def r_sum_Hash_22 : Array Oper := Code.ops c_sum_Hash_22
noncomputable def c_sum_Hash_24 : Code := Code.r c_sum_Hash_21
noncomputable def c_sum_Hash_25 : Code := Code.l c_sum_Hash_24
noncomputable def r_sum_Hash_25 : Array Oper := Code.ops c_sum_Hash_25
noncomputable def c_sum_Hash_27 : Code := Code.r c_sum_Hash_24
noncomputable def r_sum_Hash_27 : Array Oper := Code.ops c_sum_Hash_27
noncomputable def c_sum_Hash_29 : Code := Code.r c_sum_Hash_19
noncomputable def r_sum_Hash_29 : Array Oper := Code.ops c_sum_Hash_29
noncomputable def c_sum_Hash_31 : Code := Code.r c_sum_Hash_6
noncomputable def c_sum_Hash_32 : Code := Code.l c_sum_Hash_31
noncomputable def r_sum_Hash_32 : Array Oper := Code.ops c_sum_Hash_32
noncomputable def c_sum_Hash_34 : Code := Code.r c_sum_Hash_31

set_option maxRecDepth 100000 in
set_option maxHeartbeats 4000000 in
theorem S_sum_Hash {key : ByteArray} {w : World} {R : Int → World → Prop} (h : F_sum_Hash key R w) : C_sum_Hash key w R := by
  unfold F_sum_Hash at h
  unfold C_sum_Hash
  refine Calls.mono (calls_of_wpE (args := [Value.string key]) (R := fun v w' => ∃ (r0 : Int), v = Value.int .u32 r0 ∧ R r0 w') Try.func38 (c := c_sum_Hash_0) (by kernel_rfl) 20 (by kernel_rfl) (by kernel_rfl) [(0, Value.string key)] (by kernel_rfl) ?_) ?_
  · refine wpE_seq (x := c_sum_Hash_1) (y := c_sum_Hash_3) (by kernel_rfl) ?_
    refine wpE_region (id := 0) (ops := r_sum_Hash_1) (by kernel_rfl) ?_
    refine reg_run [.plain] 1 [(0, [], Value.string key)] (by kernel_rfl) (by kernel_rfl) ?_
    refine reg_end [(0, Value.string key)] (by kernel_rfl) (by kernel_rfl) ?_
    change WpE _ _ c_sum_Hash_3 _ _ _
    refine wpE_seq (x := c_sum_Hash_4) (y := c_sum_Hash_6) (by kernel_rfl) ?_
    refine wpE_region (id := 1) (ops := r_sum_Hash_4) (by kernel_rfl) ?_
    refine reg_run [.plain] 1 [(0, [], Value.string key), (3, [], Value.int .u32 2166136261)] (by kernel_rfl) (by kernel_rfl) ?_
    refine reg_end [(0, Value.string key), (3, Value.int .u32 2166136261)] (by kernel_rfl) (by kernel_rfl) ?_
    change WpE _ _ c_sum_Hash_6 _ _ _
    refine wpE_seq (x := c_sum_Hash_7) (y := c_sum_Hash_31) (by kernel_rfl) ?_
    refine wpE_seq (x := c_sum_Hash_8) (y := c_sum_Hash_10) (by kernel_rfl) ?_
    refine wpE_region (id := 2) (ops := r_sum_Hash_8) (by kernel_rfl) ?_
    refine reg_run [.plain, .plain, .plain] 3 [(0, [], Value.string key), (3, [], Value.int .u32 2166136261), (6, [], Value.int .i64 ((key.size : Nat) : Int)), (7, [], Value.int .i64 0)] (by kernel_rfl) (by kernel_rfl) ?_
    refine reg_end [(0, Value.string key), (3, Value.int .u32 2166136261), (6, Value.int .i64 ((key.size : Nat) : Int)), (7, Value.int .i64 0)] (by kernel_rfl) (by kernel_rfl) ?_
    change WpE _ _ c_sum_Hash_10 _ _ _
    refine wpE_block (id := 0) (x := c_sum_Hash_11) (by kernel_rfl) ?_
    obtain ⟨I, μ, h0, hr⟩ := h
    refine wpE_loop (x := c_sum_Hash_12) (by kernel_rfl) (fun m l w => ∃ (h_ : Int) (t7 : Int), l = [(0, Value.string key), (3, Value.int .u32 h_), (6, Value.int .i64 ((key.size : Nat) : Int)), (7, Value.int .i64 t7)] ∧ I h_ t7 w ∧ μ h_ t7 w = m) (l' := [(0, Value.string key), (3, Value.int .u32 2166136261), (6, Value.int .i64 ((key.size : Nat) : Int)), (7, Value.int .i64 0)]) (Sub.mk (by kernel_rfl)) ⟨2166136261, 0, rfl, h0, rfl⟩ ?_
    rintro _ _ w1 ⟨h_, t7, rfl, hI, rfl⟩
    obtain ⟨again_, again__h, h⟩ : ∃ again_ : Int → Int → World → Prop, (∀ h_' t7' w', again_ h_' t7' w' → I h_' t7' w' ∧ μ h_' t7' w' < μ h_ t7 w1) ∧ F_sum_Hash_L0 key R again_ h_ t7 w1 := ⟨_, fun _ _ _ h => h, hr h_ t7 w1 hI⟩
    clear h0 hI
    unfold F_sum_Hash_L0 at h
    refine wpE_seq (x := c_sum_Hash_13) (y := c_sum_Hash_15) (by kernel_rfl) ?_
    refine wpE_region (id := 3) (ops := r_sum_Hash_13) (by kernel_rfl) ?_
    refine reg_run [.plain] 1 [(0, [], Value.string key), (3, [], Value.int .u32 h_), (6, [], Value.int .i64 ((key.size : Nat) : Int)), (7, [], Value.int .i64 t7), (8, [], Value.bool (decide (t7 < ((key.size : Nat) : Int))))] (by kernel_rfl) (by kernel_rfl) ?_
    refine reg_end [(0, Value.string key), (3, Value.int .u32 h_), (6, Value.int .i64 ((key.size : Nat) : Int)), (7, Value.int .i64 t7), (8, Value.bool (decide (t7 < ((key.size : Nat) : Int))))] (by kernel_rfl) (by kernel_rfl) ?_
    change WpE _ _ c_sum_Hash_15 _ _ _
    refine wpE_seq (x := c_sum_Hash_16) (y := c_sum_Hash_19) (by kernel_rfl) ?_
    refine wpE_cond (o := (Operand.tmp 8)) (b := (decide (t7 < ((key.size : Nat) : Int)))) (x := c_sum_Hash_17) (y := c_sum_Hash_18) (by kernel_rfl) (by kernel_rfl) (fun hb => ?_) (fun hb => ?_)
    · replace h := h.1 hb
      refine wpE_skip (by kernel_rfl) ?_
      change WpE _ _ c_sum_Hash_19 _ _ _
      refine wpE_seq (x := c_sum_Hash_20) (y := c_sum_Hash_29) (by kernel_rfl) ?_
      refine wpE_block (id := 1) (x := c_sum_Hash_21) (by kernel_rfl) ?_
      refine wpE_seq (x := c_sum_Hash_22) (y := c_sum_Hash_24) (by kernel_rfl) ?_
      refine wpE_region (id := 4) (ops := r_sum_Hash_22) (by kernel_rfl) ?_
      refine reg_run [.plain, .plain] 2 [(0, [], Value.string key), (3, [], Value.int .u32 h_), (4, [], Value.int .i64 t7), (6, [], Value.int .i64 ((key.size : Nat) : Int)), (7, [], Value.int .i64 t7)] (by kernel_rfl) (by kernel_rfl) ?_
      refine reg_end [(0, Value.string key), (3, Value.int .u32 h_), (4, Value.int .i64 t7), (6, Value.int .i64 ((key.size : Nat) : Int)), (7, Value.int .i64 t7)] (by kernel_rfl) (by kernel_rfl) ?_
      change WpE _ _ c_sum_Hash_24 _ _ _
      refine wpE_seq (x := c_sum_Hash_25) (y := c_sum_Hash_27) (by kernel_rfl) ?_
      refine wpE_region (id := 5) (ops := r_sum_Hash_25) (by kernel_rfl) ?_
      refine reg_run [.plain, .plain, .plain] 3 [(0, [], Value.string key), (3, [], Value.int .u32 h_), (6, [], Value.int .i64 ((key.size : Nat) : Int)), (7, [], Value.int .i64 t7), (10, [], Value.int .u32 h_), (11, [], Value.string key), (12, [], Value.int .i64 t7)] (by kernel_rfl) (by kernel_rfl) ?_
      obtain ⟨h0, h1, h⟩ := h
      refine reg_indexStr (t := 9) (x := (Go.Operand.tmp 11)) (ix := (Go.Operand.tmp 12)) (s := key) (k := .i64) (j := t7) (ty := 5) (dst := some 13) (by kernel_rfl) (by kernel_rfl) (by kernel_rfl) (by kernel_rfl) h0 h1 ?_
      refine reg_run [.plain, .plain, .plain] 7 [(0, [], Value.string key), (3, [], Value.int .u32 (bxor .u32 h_ (IntKind.u32.wrap (byteAt key t7)))), (6, [], Value.int .i64 ((key.size : Nat) : Int)), (7, [], Value.int .i64 t7)] (by kernel_rfl) (by kernel_rfl) ?_
      refine reg_end [(0, Value.string key), (3, Value.int .u32 (bxor .u32 h_ (IntKind.u32.wrap (byteAt key t7)))), (6, Value.int .i64 ((key.size : Nat) : Int)), (7, Value.int .i64 t7)] (by kernel_rfl) (by kernel_rfl) ?_
      change WpE _ _ c_sum_Hash_27 _ _ _
      refine wpE_region (id := 6) (ops := r_sum_Hash_27) (by kernel_rfl) ?_
      refine reg_run [.plain, .plain, .plain] 3 [(0, [], Value.string key), (3, [], Value.int .u32 (IntKind.u32.wrap ((bxor .u32 h_ (IntKind.u32.wrap (byteAt key t7))) * 16777619))), (6, [], Value.int .i64 ((key.size : Nat) : Int)), (7, [], Value.int .i64 t7)] (by kernel_rfl) (by kernel_rfl) ?_
      refine reg_end [(0, Value.string key), (3, Value.int .u32 (IntKind.u32.wrap ((bxor .u32 h_ (IntKind.u32.wrap (byteAt key t7))) * 16777619))), (6, Value.int .i64 ((key.size : Nat) : Int)), (7, Value.int .i64 t7)] (by kernel_rfl) (by kernel_rfl) ?_
      change WpE _ _ c_sum_Hash_29 _ _ _
      refine wpE_region (id := 7) (ops := r_sum_Hash_29) (by kernel_rfl) ?_
      refine reg_run [.plain, .plain] 2 [(0, [], Value.string key), (3, [], Value.int .u32 (IntKind.u32.wrap ((bxor .u32 h_ (IntKind.u32.wrap (byteAt key t7))) * 16777619))), (6, [], Value.int .i64 ((key.size : Nat) : Int)), (7, [], Value.int .i64 (IntKind.i64.wrap (t7 + 1)))] (by kernel_rfl) (by kernel_rfl) ?_
      refine reg_end [(0, Value.string key), (3, Value.int .u32 (IntKind.u32.wrap ((bxor .u32 h_ (IntKind.u32.wrap (byteAt key t7))) * 16777619))), (6, Value.int .i64 ((key.size : Nat) : Int)), (7, Value.int .i64 (IntKind.i64.wrap (t7 + 1)))] (by kernel_rfl) (by kernel_rfl) ?_
      have hb_ := again__h _ _ _ h
      exact ⟨_, hb_.2, [(0, Value.string key), (3, Value.int .u32 (IntKind.u32.wrap ((bxor .u32 h_ (IntKind.u32.wrap (byteAt key t7))) * 16777619))), (6, Value.int .i64 ((key.size : Nat) : Int)), (7, Value.int .i64 (IntKind.i64.wrap (t7 + 1)))], Sub.mk (by kernel_rfl), (IntKind.u32.wrap ((bxor .u32 h_ (IntKind.u32.wrap (byteAt key t7))) * 16777619)), (IntKind.i64.wrap (t7 + 1)), rfl, hb_.1, rfl⟩
    · replace h := h.2 hb
      refine wpE_exit (id := 0) (by kernel_rfl) ?_
      change WpE _ _ c_sum_Hash_31 _ _ _
      refine wpE_seq (x := c_sum_Hash_32) (y := c_sum_Hash_34) (by kernel_rfl) ?_
      refine wpE_region (id := 8) (ops := r_sum_Hash_32) (by kernel_rfl) ?_
      refine reg_run [.plain, .plain] 2 [(2, [], Value.int .u32 h_)] (by kernel_rfl) (by kernel_rfl) ?_
      refine reg_end [(2, Value.int .u32 h_)] (by kernel_rfl) (by kernel_rfl) ?_
      change WpE _ _ c_sum_Hash_34 _ _ _
      refine wpE_ret (by kernel_rfl) ?_
      repeat (first | refine seqQ_ret ?_ | refine blockQ_ret ?_ | refine loopQ_ret ?_ | refine cutQ_ret ?_)
      exact retS (rs := [(Go.ResultVar.tmp 2)]) (v := Value.int .u32 h_) (by kernel_rfl) (⟨by kernel_rfl, trivial⟩) ⟨h_, rfl, h⟩
  · rintro e w' ⟨v, rfl, r0, rfl, h⟩; exact ⟨r0, rfl, h⟩

/-! ### towpath/sum.CRC (function 51) -/
noncomputable def c_sum_CRC_0 : Code := (Try.f51.body).getD Code.skip
noncomputable def c_sum_CRC_1 : Code := Code.l c_sum_CRC_0
noncomputable def r_sum_CRC_1 : Array Oper := Code.ops c_sum_CRC_1
noncomputable def c_sum_CRC_3 : Code := Code.r c_sum_CRC_0
noncomputable def c_sum_CRC_4 : Code := Code.l c_sum_CRC_3
noncomputable def r_sum_CRC_4 : Array Oper := Code.ops c_sum_CRC_4
noncomputable def c_sum_CRC_6 : Code := Code.r c_sum_CRC_3

set_option maxRecDepth 100000 in
set_option maxHeartbeats 4000000 in
theorem S_sum_CRC {b_ : Slc} {w : World} {R : Int → World → Prop} (h : F_sum_CRC b_ R w) : C_sum_CRC b_ w R := by
  unfold F_sum_CRC at h
  unfold C_sum_CRC
  refine Calls.mono (calls_of_wpE (args := [Value.slice b_.ptr b_.len b_.cap]) (R := fun v w' => ∃ (r0 : Int), v = Value.int .u32 r0 ∧ R r0 w') Try.func51 (c := c_sum_CRC_0) (by kernel_rfl) 5 (by kernel_rfl) (by kernel_rfl) [(0, Value.slice b_.ptr b_.len b_.cap)] (by kernel_rfl) ?_) ?_
  · refine wpE_seq (x := c_sum_CRC_1) (y := c_sum_CRC_3) (by kernel_rfl) ?_
    refine wpE_region (id := 0) (ops := r_sum_CRC_1) (by kernel_rfl) ?_
    refine reg_run [.plain] 1 [(0, [], Value.slice b_.ptr b_.len b_.cap)] (by kernel_rfl) (by kernel_rfl) ?_
    refine reg_end [(0, Value.slice b_.ptr b_.len b_.cap)] (by kernel_rfl) (by kernel_rfl) ?_
    change WpE _ _ c_sum_CRC_3 _ _ _
    refine wpE_seq (x := c_sum_CRC_4) (y := c_sum_CRC_6) (by kernel_rfl) ?_
    refine wpE_region (id := 1) (ops := r_sum_CRC_4) (by kernel_rfl) ?_
    refine reg_run [.plain] 1 [(3, [], Value.slice b_.ptr b_.len b_.cap)] (by kernel_rfl) (by kernel_rfl) ?_
    refine reg_enter (op := (Go.Op.call (Go.Call.mk (Go.Callee.value (Go.Operand.func 53)) #[(Go.Operand.const (Go.Value.int Go.IntKind.u32 0)), (Go.Operand.tmp 3)] #[39, 74]))) (ty := 39) (dst := some 4) 53 #[Value.int .u32 0, Value.slice b_.ptr b_.len b_.cap] (by kernel_rfl) (fun ww => by kernel_rfl) (Calls.mono h ?_)
    rintro _ w1 ⟨v4, rfl, h⟩
    refine ⟨_, rfl, ?_⟩
    refine reg_run [.plain] 3 [(2, [], Value.int .u32 v4)] (by kernel_rfl) (by kernel_rfl) ?_
    refine reg_end [(2, Value.int .u32 v4)] (by kernel_rfl) (by kernel_rfl) ?_
    change WpE _ _ c_sum_CRC_6 _ _ _
    refine wpE_ret (by kernel_rfl) ?_
    repeat (first | refine seqQ_ret ?_ | refine blockQ_ret ?_ | refine loopQ_ret ?_ | refine cutQ_ret ?_)
    exact retS (rs := [(Go.ResultVar.tmp 2)]) (v := Value.int .u32 v4) (by kernel_rfl) (⟨by kernel_rfl, trivial⟩) ⟨v4, rfl, h⟩
  · rintro e w' ⟨v, rfl, r0, rfl, h⟩; exact ⟨r0, rfl, h⟩

/-! ### towpath/sum.More (function 53) -/
noncomputable def c_sum_More_0 : Code := (Try.f53.body).getD Code.skip
noncomputable def c_sum_More_1 : Code := Code.l c_sum_More_0
noncomputable def r_sum_More_1 : Array Oper := Code.ops c_sum_More_1
noncomputable def c_sum_More_3 : Code := Code.r c_sum_More_0
noncomputable def c_sum_More_4 : Code := Code.l c_sum_More_3
noncomputable def r_sum_More_4 : Array Oper := Code.ops c_sum_More_4
noncomputable def c_sum_More_6 : Code := Code.r c_sum_More_3
noncomputable def c_sum_More_7 : Code := Code.l c_sum_More_6
noncomputable def r_sum_More_7 : Array Oper := Code.ops c_sum_More_7
noncomputable def c_sum_More_9 : Code := Code.r c_sum_More_6
noncomputable def c_sum_More_10 : Code := Code.l c_sum_More_9
noncomputable def c_sum_More_11 : Code := Code.l c_sum_More_10
noncomputable def r_sum_More_11 : Array Oper := Code.ops c_sum_More_11
noncomputable def c_sum_More_13 : Code := Code.r c_sum_More_10
noncomputable def c_sum_More_14 : Code := Code.l c_sum_More_13
noncomputable def c_sum_More_15 : Code := Code.l c_sum_More_14
noncomputable def c_sum_More_16 : Code := Code.l c_sum_More_15
noncomputable def r_sum_More_16 : Array Oper := Code.ops c_sum_More_16
noncomputable def c_sum_More_18 : Code := Code.r c_sum_More_15
noncomputable def c_sum_More_19 : Code := Code.l c_sum_More_18
noncomputable def c_sum_More_20 : Code := Code.l c_sum_More_19
noncomputable def c_sum_More_21 : Code := Code.r c_sum_More_19
noncomputable def c_sum_More_22 : Code := Code.r c_sum_More_18
noncomputable def c_sum_More_23 : Code := Code.l c_sum_More_22
noncomputable def c_sum_More_24 : Code := Code.l c_sum_More_23
noncomputable def c_sum_More_25 : Code := Code.l c_sum_More_24
noncomputable def r_sum_More_25 : Array Oper := Code.ops c_sum_More_25
noncomputable def c_sum_More_27 : Code := Code.r c_sum_More_24
noncomputable def r_sum_More_27 : Array Oper := Code.ops c_sum_More_27
noncomputable def c_sum_More_29 : Code := Code.r c_sum_More_22
noncomputable def r_sum_More_29 : Array Oper := Code.ops c_sum_More_29
noncomputable def c_sum_More_31 : Code := Code.r c_sum_More_9
noncomputable def c_sum_More_32 : Code := Code.l c_sum_More_31
noncomputable def r_sum_More_32 : Array Oper := Code.ops c_sum_More_32
noncomputable def c_sum_More_34 : Code := Code.r c_sum_More_31

set_option maxRecDepth 100000 in
set_option maxHeartbeats 4000000 in
theorem S_sum_More {sum : Int} {b_ : Slc} {w : World} {R : Int → World → Prop} (h : F_sum_More sum b_ R w) : C_sum_More sum b_ w R := by
  unfold F_sum_More at h
  unfold C_sum_More
  refine Calls.mono (calls_of_wpE (args := [Value.int .u32 sum, Value.slice b_.ptr b_.len b_.cap]) (R := fun v w' => ∃ (r0 : Int), v = Value.int .u32 r0 ∧ R r0 w') Try.func53 (c := c_sum_More_0) (by kernel_rfl) 30 (by kernel_rfl) (by kernel_rfl) [(0, Value.int .u32 sum), (1, Value.slice b_.ptr b_.len b_.cap)] (by kernel_rfl) ?_) ?_
  · refine wpE_seq (x := c_sum_More_1) (y := c_sum_More_3) (by kernel_rfl) ?_
    refine wpE_region (id := 0) (ops := r_sum_More_1) (by kernel_rfl) ?_
    refine reg_run [.plain] 1 [(0, [], Value.int .u32 sum), (1, [], Value.slice b_.ptr b_.len b_.cap)] (by kernel_rfl) (by kernel_rfl) ?_
    refine reg_end [(0, Value.int .u32 sum), (1, Value.slice b_.ptr b_.len b_.cap)] (by kernel_rfl) (by kernel_rfl) ?_
    change WpE _ _ c_sum_More_3 _ _ _
    refine wpE_seq (x := c_sum_More_4) (y := c_sum_More_6) (by kernel_rfl) ?_
    refine wpE_region (id := 1) (ops := r_sum_More_4) (by kernel_rfl) ?_
    refine reg_run [] 0 [(0, [], Value.int .u32 sum), (1, [], Value.slice b_.ptr b_.len b_.cap)] (by kernel_rfl) (by kernel_rfl) ?_
    refine reg_enter (op := (Go.Op.call (Go.Call.mk (Go.Callee.value (Go.Operand.func 65)) #[] #[]))) (ty := 92) (dst := some 9) 65 #[] (by kernel_rfl) (fun ww => by kernel_rfl) (Calls.mono h ?_)
    rintro _ w1 ⟨v9, hl_v9_0, rfl, h⟩
    refine ⟨_, rfl, ?_⟩
    replace h := h hl_v9_0
    refine reg_run [] 1 [(0, [], Value.int .u32 sum), (1, [], Value.slice b_.ptr b_.len b_.cap), (9, [], Value.agg (List.map (Value.int .u32) v9).toArray)] (by kernel_rfl) (by kernel_rfl) ?_
    refine reg_new (op := (Go.Op.alloc 92)) (ty := 0) (dst := some 5) (fun bb => Value.pointer (some ⟨bb, 0, none⟩)) (Obj.cells ((List.map (Value.int .u32) (List.replicate 256 0))).toArray ty_256_uint32 (0, 0)) (by kernel_rfl) (by kernel_rfl) (fun b_1 w2 hb hw => ?_)
    replace h := h b_1 w2 hb hw
    clear hb hw
    refine reg_run [] 2 [(0, [], Value.int .u32 sum), (1, [], Value.slice b_.ptr b_.len b_.cap), (5, [], Value.pointer (some ⟨b_1, 0, none⟩)), (9, [], Value.agg (List.map (Value.int .u32) v9).toArray)] (by kernel_rfl) (by kernel_rfl) ?_
    obtain ⟨hc, h⟩ := h
    refine reg_store (t := 92) (a := (Go.Operand.tmp 5)) (x := (Go.Operand.tmp 9)) (b := b_1) (o := 0) (ty := 0) (dst := none) (List.map (Value.int .u32) v9) (by kernel_rfl) (by kernel_rfl) (by kernel_rfl) (k := 256) (by kernel_rfl) (by simp [*]) (by simp [oneCells, oneCell, List.all_eq_true]) hc (fun w3 hw => ?_)
    replace h := h w3 hw
    clear hw
    refine reg_end [(0, Value.int .u32 sum), (1, Value.slice b_.ptr b_.len b_.cap), (5, Value.pointer (some ⟨b_1, 0, none⟩))] (by kernel_rfl) (by kernel_rfl) ?_
    change WpE _ _ c_sum_More_6 _ _ _
    refine wpE_seq (x := c_sum_More_7) (y := c_sum_More_9) (by kernel_rfl) ?_
    refine wpE_region (id := 2) (ops := r_sum_More_7) (by kernel_rfl) ?_
    refine reg_run [.plain, .plain, .plain] 3 [(1, [], Value.slice b_.ptr b_.len b_.cap), (5, [], Value.pointer (some ⟨b_1, 0, none⟩)), (6, [], Value.int .u32 (bxor .u32 (IntKind.max .u32) sum))] (by kernel_rfl) (by kernel_rfl) ?_
    refine reg_end [(1, Value.slice b_.ptr b_.len b_.cap), (5, Value.pointer (some ⟨b_1, 0, none⟩)), (6, Value.int .u32 (bxor .u32 (IntKind.max .u32) sum))] (by kernel_rfl) (by kernel_rfl) ?_
    change WpE _ _ c_sum_More_9 _ _ _
    refine wpE_seq (x := c_sum_More_10) (y := c_sum_More_31) (by kernel_rfl) ?_
    refine wpE_seq (x := c_sum_More_11) (y := c_sum_More_13) (by kernel_rfl) ?_
    refine wpE_region (id := 3) (ops := r_sum_More_11) (by kernel_rfl) ?_
    refine reg_run [.plain, .plain, .plain] 3 [(5, [], Value.pointer (some ⟨b_1, 0, none⟩)), (6, [], Value.int .u32 (bxor .u32 (IntKind.max .u32) sum)), (12, [], Value.slice b_.ptr b_.len b_.cap), (13, [], Value.int .i64 ((b_.len : Nat) : Int)), (14, [], Value.int .i64 0)] (by kernel_rfl) (by kernel_rfl) ?_
    refine reg_end [(5, Value.pointer (some ⟨b_1, 0, none⟩)), (6, Value.int .u32 (bxor .u32 (IntKind.max .u32) sum)), (12, Value.slice b_.ptr b_.len b_.cap), (13, Value.int .i64 ((b_.len : Nat) : Int)), (14, Value.int .i64 0)] (by kernel_rfl) (by kernel_rfl) ?_
    change WpE _ _ c_sum_More_13 _ _ _
    refine wpE_block (id := 0) (x := c_sum_More_14) (by kernel_rfl) ?_
    obtain ⟨I, μ, h0, hr⟩ := h
    refine wpE_loop (x := c_sum_More_15) (by kernel_rfl) (fun m l w => ∃ (c : Int) (t14 : Int), l = [(5, Value.pointer (some ⟨b_1, 0, none⟩)), (6, Value.int .u32 c), (12, Value.slice b_.ptr b_.len b_.cap), (13, Value.int .i64 ((b_.len : Nat) : Int)), (14, Value.int .i64 t14)] ∧ I c t14 w ∧ μ c t14 w = m) (l' := [(5, Value.pointer (some ⟨b_1, 0, none⟩)), (6, Value.int .u32 (bxor .u32 (IntKind.max .u32) sum)), (12, Value.slice b_.ptr b_.len b_.cap), (13, Value.int .i64 ((b_.len : Nat) : Int)), (14, Value.int .i64 0)]) (Sub.mk (by kernel_rfl)) ⟨(bxor .u32 (IntKind.max .u32) sum), 0, rfl, h0, rfl⟩ ?_
    rintro _ _ w4 ⟨c, t14, rfl, hI, rfl⟩
    obtain ⟨again_, again__h, h⟩ : ∃ again_ : Int → Int → World → Prop, (∀ c' t14' w', again_ c' t14' w' → I c' t14' w' ∧ μ c' t14' w' < μ c t14 w4) ∧ F_sum_More_L0 b_ R b_1 again_ c t14 w4 := ⟨_, fun _ _ _ h => h, hr c t14 w4 hI⟩
    clear h0 hI
    unfold F_sum_More_L0 at h
    refine wpE_seq (x := c_sum_More_16) (y := c_sum_More_18) (by kernel_rfl) ?_
    refine wpE_region (id := 4) (ops := r_sum_More_16) (by kernel_rfl) ?_
    refine reg_run [.plain] 1 [(5, [], Value.pointer (some ⟨b_1, 0, none⟩)), (6, [], Value.int .u32 c), (12, [], Value.slice b_.ptr b_.len b_.cap), (13, [], Value.int .i64 ((b_.len : Nat) : Int)), (14, [], Value.int .i64 t14), (15, [], Value.bool (decide (t14 < ((b_.len : Nat) : Int))))] (by kernel_rfl) (by kernel_rfl) ?_
    refine reg_end [(5, Value.pointer (some ⟨b_1, 0, none⟩)), (6, Value.int .u32 c), (12, Value.slice b_.ptr b_.len b_.cap), (13, Value.int .i64 ((b_.len : Nat) : Int)), (14, Value.int .i64 t14), (15, Value.bool (decide (t14 < ((b_.len : Nat) : Int))))] (by kernel_rfl) (by kernel_rfl) ?_
    change WpE _ _ c_sum_More_18 _ _ _
    refine wpE_seq (x := c_sum_More_19) (y := c_sum_More_22) (by kernel_rfl) ?_
    refine wpE_cond (o := (Operand.tmp 15)) (b := (decide (t14 < ((b_.len : Nat) : Int)))) (x := c_sum_More_20) (y := c_sum_More_21) (by kernel_rfl) (by kernel_rfl) (fun hb => ?_) (fun hb => ?_)
    · replace h := h.1 hb
      refine wpE_skip (by kernel_rfl) ?_
      change WpE _ _ c_sum_More_22 _ _ _
      refine wpE_seq (x := c_sum_More_23) (y := c_sum_More_29) (by kernel_rfl) ?_
      refine wpE_block (id := 1) (x := c_sum_More_24) (by kernel_rfl) ?_
      refine wpE_seq (x := c_sum_More_25) (y := c_sum_More_27) (by kernel_rfl) ?_
      refine wpE_region (id := 5) (ops := r_sum_More_25) (by kernel_rfl) ?_
      refine reg_run [] 0 [(5, [], Value.pointer (some ⟨b_1, 0, none⟩)), (6, [], Value.int .u32 c), (12, [], Value.slice b_.ptr b_.len b_.cap), (13, [], Value.int .i64 ((b_.len : Nat) : Int)), (14, [], Value.int .i64 t14)] (by kernel_rfl) (by kernel_rfl) ?_
      obtain ⟨hp_7, h⟩ := h
      refine reg_conv [(5, [], Value.pointer (some ⟨b_1, 0, none⟩)), (6, [], Value.int .u32 c), (12, [], Value.slice (some ⟨(pblk b_.ptr), (poff b_.ptr), none⟩) b_.len b_.cap), (13, [], Value.int .i64 ((b_.len : Nat) : Int)), (14, [], Value.int .i64 t14)] (congrArg (fun pp => ([(5, [], Value.pointer (some ⟨b_1, 0, none⟩)), (6, [], Value.int .u32 c), (12, [], Value.slice pp b_.len b_.cap), (13, [], Value.int .i64 ((b_.len : Nat) : Int)), (14, [], Value.int .i64 t14)] : GEnv)) hp_7) ?_
      obtain ⟨h0, h1, h⟩ := h
      refine reg_indexS1 (t := 74) (e := 5) (x := (Go.Operand.tmp 12)) (ix := (Go.Operand.tmp 14)) (b := (pblk b_.ptr)) (o := (poff b_.ptr)) (l := b_.len) (c := b_.cap) (k := .i64) (j := t14) (ty := 0) (dst := some 16) (by kernel_rfl) (by kernel_rfl) (by kernel_rfl) (by kernel_rfl) (by kernel_rfl) h0 h1 ?_
      refine reg_run [] 1 [(5, [], Value.pointer (some ⟨b_1, 0, none⟩)), (6, [], Value.int .u32 c), (12, [], Value.slice (some ⟨(pblk b_.ptr), (poff b_.ptr), none⟩) b_.len b_.cap), (13, [], Value.int .i64 ((b_.len : Nat) : Int)), (14, [], Value.int .i64 t14), (16, [], Value.pointer (some ⟨(pblk b_.ptr), (poff b_.ptr) + t14.toNat, none⟩))] (by kernel_rfl) (by kernel_rfl) ?_
      obtain ⟨x, hc, h⟩ := h
      refine reg_load1 (t := 5) (a := (Go.Operand.tmp 16)) (b := (pblk b_.ptr)) (o := ((poff b_.ptr) + t14.toNat)) (ty := 5) (dst := some 17) (by kernel_rfl) (by kernel_rfl) (by kernel_rfl) hc ?_
      refine reg_run [.plain] 3 [(5, [], Value.pointer (some ⟨b_1, 0, none⟩)), (6, [], Value.int .u32 c), (8, [], Value.int .u8 x), (12, [], Value.slice (some ⟨(pblk b_.ptr), (poff b_.ptr), none⟩) b_.len b_.cap), (13, [], Value.int .i64 ((b_.len : Nat) : Int)), (14, [], Value.int .i64 t14)] (by kernel_rfl) (by kernel_rfl) ?_
      refine reg_conv [(5, [], Value.pointer (some ⟨b_1, 0, none⟩)), (6, [], Value.int .u32 c), (8, [], Value.int .u8 x), (12, [], Value.slice b_.ptr b_.len b_.cap), (13, [], Value.int .i64 ((b_.len : Nat) : Int)), (14, [], Value.int .i64 t14)] (congrArg (fun pp => ([(5, [], Value.pointer (some ⟨b_1, 0, none⟩)), (6, [], Value.int .u32 c), (8, [], Value.int .u8 x), (12, [], Value.slice pp b_.len b_.cap), (13, [], Value.int .i64 ((b_.len : Nat) : Int)), (14, [], Value.int .i64 t14)] : GEnv)) hp_7.symm) ?_
      refine reg_end [(5, Value.pointer (some ⟨b_1, 0, none⟩)), (6, Value.int .u32 c), (8, Value.int .u8 x), (12, Value.slice b_.ptr b_.len b_.cap), (13, Value.int .i64 ((b_.len : Nat) : Int)), (14, Value.int .i64 t14)] (by kernel_rfl) (by kernel_rfl) ?_
      change WpE _ _ c_sum_More_27 _ _ _
      refine wpE_region (id := 6) (ops := r_sum_More_27) (by kernel_rfl) ?_
      refine reg_run [.plain, .plain, .plain, .plain] 4 [(5, [], Value.pointer (some ⟨b_1, 0, none⟩)), (6, [], Value.int .u32 c), (12, [], Value.slice b_.ptr b_.len b_.cap), (13, [], Value.int .i64 ((b_.len : Nat) : Int)), (14, [], Value.int .i64 t14), (21, [], Value.int .u8 (bxor .u8 (IntKind.u8.wrap c) x))] (by kernel_rfl) (by kernel_rfl) ?_
      obtain ⟨h0, h1, h⟩ := h
      refine reg_indexA1 (t := 92) (e := 39) (x := (Go.Operand.tmp 5)) (ix := (Go.Operand.tmp 21)) (b := b_1) (o := 0) (len := 256) (k := .u8) (j := (bxor .u8 (IntKind.u8.wrap c) x)) (ty := 0) (dst := some 22) (by kernel_rfl) (by kernel_rfl) (by kernel_rfl) (by kernel_rfl) (by kernel_rfl) h0 h1 ?_
      refine reg_run [] 5 [(5, [], Value.pointer (some ⟨b_1, 0, none⟩)), (6, [], Value.int .u32 c), (12, [], Value.slice b_.ptr b_.len b_.cap), (13, [], Value.int .i64 ((b_.len : Nat) : Int)), (14, [], Value.int .i64 t14), (22, [], Value.pointer (some ⟨b_1, 0 + (bxor .u8 (IntKind.u8.wrap c) x).toNat, none⟩))] (by kernel_rfl) (by kernel_rfl) ?_
      obtain ⟨v23, hc, h⟩ := h
      refine reg_load1 (t := 39) (a := (Go.Operand.tmp 22)) (b := b_1) (o := (0 + (bxor .u8 (IntKind.u8.wrap c) x).toNat)) (ty := 39) (dst := some 23) (by kernel_rfl) (by kernel_rfl) (by kernel_rfl) hc ?_
      refine reg_run [.plain, .plain, .plain, .plain] 10 [(5, [], Value.pointer (some ⟨b_1, 0, none⟩)), (6, [], Value.int .u32 (bxor .u32 v23 (Int.fdiv c (2 ^ 8)))), (12, [], Value.slice b_.ptr b_.len b_.cap), (13, [], Value.int .i64 ((b_.len : Nat) : Int)), (14, [], Value.int .i64 t14)] (by kernel_rfl) (by kernel_rfl) ?_
      refine reg_end [(5, Value.pointer (some ⟨b_1, 0, none⟩)), (6, Value.int .u32 (bxor .u32 v23 (Int.fdiv c (2 ^ 8)))), (12, Value.slice b_.ptr b_.len b_.cap), (13, Value.int .i64 ((b_.len : Nat) : Int)), (14, Value.int .i64 t14)] (by kernel_rfl) (by kernel_rfl) ?_
      change WpE _ _ c_sum_More_29 _ _ _
      refine wpE_region (id := 7) (ops := r_sum_More_29) (by kernel_rfl) ?_
      refine reg_run [.plain, .plain] 2 [(5, [], Value.pointer (some ⟨b_1, 0, none⟩)), (6, [], Value.int .u32 (bxor .u32 v23 (Int.fdiv c (2 ^ 8)))), (12, [], Value.slice b_.ptr b_.len b_.cap), (13, [], Value.int .i64 ((b_.len : Nat) : Int)), (14, [], Value.int .i64 (IntKind.i64.wrap (t14 + 1)))] (by kernel_rfl) (by kernel_rfl) ?_
      refine reg_end [(5, Value.pointer (some ⟨b_1, 0, none⟩)), (6, Value.int .u32 (bxor .u32 v23 (Int.fdiv c (2 ^ 8)))), (12, Value.slice b_.ptr b_.len b_.cap), (13, Value.int .i64 ((b_.len : Nat) : Int)), (14, Value.int .i64 (IntKind.i64.wrap (t14 + 1)))] (by kernel_rfl) (by kernel_rfl) ?_
      have hb_ := again__h _ _ _ h
      exact ⟨_, hb_.2, [(5, Value.pointer (some ⟨b_1, 0, none⟩)), (6, Value.int .u32 (bxor .u32 v23 (Int.fdiv c (2 ^ 8)))), (12, Value.slice b_.ptr b_.len b_.cap), (13, Value.int .i64 ((b_.len : Nat) : Int)), (14, Value.int .i64 (IntKind.i64.wrap (t14 + 1)))], Sub.mk (by kernel_rfl), (bxor .u32 v23 (Int.fdiv c (2 ^ 8))), (IntKind.i64.wrap (t14 + 1)), rfl, hb_.1, rfl⟩
    · replace h := h.2 hb
      refine wpE_exit (id := 0) (by kernel_rfl) ?_
      change WpE _ _ c_sum_More_31 _ _ _
      refine wpE_seq (x := c_sum_More_32) (y := c_sum_More_34) (by kernel_rfl) ?_
      refine wpE_region (id := 8) (ops := r_sum_More_32) (by kernel_rfl) ?_
      refine reg_run [.plain, .plain, .plain] 3 [(4, [], Value.int .u32 (bxor .u32 (IntKind.max .u32) c))] (by kernel_rfl) (by kernel_rfl) ?_
      refine reg_end [(4, Value.int .u32 (bxor .u32 (IntKind.max .u32) c))] (by kernel_rfl) (by kernel_rfl) ?_
      change WpE _ _ c_sum_More_34 _ _ _
      refine wpE_ret (by kernel_rfl) ?_
      repeat (first | refine seqQ_ret ?_ | refine blockQ_ret ?_ | refine loopQ_ret ?_ | refine cutQ_ret ?_)
      exact retS (rs := [(Go.ResultVar.tmp 4)]) (v := Value.int .u32 (bxor .u32 (IntKind.max .u32) c)) (by kernel_rfl) (⟨by kernel_rfl, trivial⟩) ⟨(bxor .u32 (IntKind.max .u32) c), rfl, h⟩
  · rintro e w' ⟨v, rfl, r0, rfl, h⟩; exact ⟨r0, rfl, h⟩

/-! ### towpath/sum.table (function 65) -/
noncomputable def c_sum_table_0 : Code := (Try.f65.body).getD Code.skip
noncomputable def c_sum_table_1 : Code := Code.l c_sum_table_0
noncomputable def r_sum_table_1 : Array Oper := Code.ops c_sum_table_1
noncomputable def c_sum_table_3 : Code := Code.r c_sum_table_0
noncomputable def c_sum_table_4 : Code := Code.l c_sum_table_3
noncomputable def r_sum_table_4 : Array Oper := Code.ops c_sum_table_4
noncomputable def c_sum_table_6 : Code := Code.r c_sum_table_3
noncomputable def c_sum_table_7 : Code := Code.l c_sum_table_6
noncomputable def c_sum_table_8 : Code := Code.l c_sum_table_7
noncomputable def r_sum_table_8 : Array Oper := Code.ops c_sum_table_8
noncomputable def c_sum_table_10 : Code := Code.r c_sum_table_7
noncomputable def c_sum_table_11 : Code := Code.l c_sum_table_10
noncomputable def c_sum_table_12 : Code := Code.l c_sum_table_11
noncomputable def c_sum_table_13 : Code := Code.l c_sum_table_12
noncomputable def r_sum_table_13 : Array Oper := Code.ops c_sum_table_13
noncomputable def c_sum_table_15 : Code := Code.r c_sum_table_12
noncomputable def c_sum_table_16 : Code := Code.l c_sum_table_15
noncomputable def c_sum_table_17 : Code := Code.l c_sum_table_16
noncomputable def c_sum_table_18 : Code := Code.r c_sum_table_16
noncomputable def c_sum_table_19 : Code := Code.r c_sum_table_15
noncomputable def c_sum_table_20 : Code := Code.l c_sum_table_19
noncomputable def c_sum_table_21 : Code := Code.l c_sum_table_20
noncomputable def c_sum_table_22 : Code := Code.l c_sum_table_21
noncomputable def r_sum_table_22 : Array Oper := Code.ops c_sum_table_22
noncomputable def c_sum_table_24 : Code := Code.r c_sum_table_21
noncomputable def c_sum_table_25 : Code := Code.l c_sum_table_24
noncomputable def r_sum_table_25 : Array Oper := Code.ops c_sum_table_25
noncomputable def c_sum_table_27 : Code := Code.r c_sum_table_24
noncomputable def c_sum_table_28 : Code := Code.l c_sum_table_27
noncomputable def c_sum_table_29 : Code := Code.l c_sum_table_28
noncomputable def r_sum_table_29 : Array Oper := Code.ops c_sum_table_29
noncomputable def c_sum_table_31 : Code := Code.r c_sum_table_28
noncomputable def c_sum_table_32 : Code := Code.l c_sum_table_31
noncomputable def c_sum_table_33 : Code := Code.l c_sum_table_32
noncomputable def c_sum_table_34 : Code := Code.l c_sum_table_33
noncomputable def r_sum_table_34 : Array Oper := Code.ops c_sum_table_34
noncomputable def c_sum_table_36 : Code := Code.r c_sum_table_33
noncomputable def c_sum_table_37 : Code := Code.l c_sum_table_36
noncomputable def c_sum_table_38 : Code := Code.l c_sum_table_37
noncomputable def c_sum_table_39 : Code := Code.r c_sum_table_37
noncomputable def c_sum_table_40 : Code := Code.r c_sum_table_36
noncomputable def c_sum_table_41 : Code := Code.l c_sum_table_40
noncomputable def c_sum_table_42 : Code := Code.l c_sum_table_41
noncomputable def r_sum_table_42 : Array Oper := Code.ops c_sum_table_42
noncomputable def c_sum_table_44 : Code := Code.r c_sum_table_40
noncomputable def r_sum_table_44 : Array Oper := Code.ops c_sum_table_44
noncomputable def c_sum_table_46 : Code := Code.r c_sum_table_27
noncomputable def r_sum_table_46 : Array Oper := Code.ops c_sum_table_46
noncomputable def c_sum_table_48 : Code := Code.r c_sum_table_19
noncomputable def r_sum_table_48 : Array Oper := Code.ops c_sum_table_48
noncomputable def c_sum_table_50 : Code := Code.r c_sum_table_6
noncomputable def c_sum_table_51 : Code := Code.l c_sum_table_50
noncomputable def r_sum_table_51 : Array Oper := Code.ops c_sum_table_51
noncomputable def c_sum_table_53 : Code := Code.r c_sum_table_50

set_option maxRecDepth 100000 in
set_option maxHeartbeats 4000000 in
theorem S_sum_table {w : World} {R : List Int → World → Prop} (h : F_sum_table R w) : C_sum_table w R := by
  unfold F_sum_table at h
  unfold C_sum_table
  refine Calls.mono (calls_of_wpE (args := []) (R := fun v w' => ∃ (r0 : List Int), r0.length = 256 ∧ v = Value.agg (List.map (Value.int .u32) r0).toArray ∧ R r0 w') Try.func65 (c := c_sum_table_0) (by kernel_rfl) 24 (by kernel_rfl) (by kernel_rfl) [] (by kernel_rfl) ?_) ?_
  · refine wpE_seq (x := c_sum_table_1) (y := c_sum_table_3) (by kernel_rfl) ?_
    refine wpE_region (id := 0) (ops := r_sum_table_1) (by kernel_rfl) ?_
    refine reg_run [] 0 [] (by kernel_rfl) (by kernel_rfl) ?_
    refine reg_new (op := (Go.Op.alloc 92)) (ty := 0) (dst := some 0) (fun bb => Value.pointer (some ⟨bb, 0, none⟩)) (Obj.cells ((List.map (Value.int .u32) (List.replicate 256 0))).toArray ty_256_uint32 (0, 0)) (by kernel_rfl) (by kernel_rfl) (fun b_ w1 hb hw => ?_)
    replace h := h b_ w1 hb hw
    clear hb hw
    refine reg_end [(0, Value.pointer (some ⟨b_, 0, none⟩))] (by kernel_rfl) (by kernel_rfl) ?_
    change WpE _ _ c_sum_table_3 _ _ _
    refine wpE_seq (x := c_sum_table_4) (y := c_sum_table_6) (by kernel_rfl) ?_
    refine wpE_region (id := 1) (ops := r_sum_table_4) (by kernel_rfl) ?_
    refine reg_run [] 0 [(0, [], Value.pointer (some ⟨b_, 0, none⟩))] (by kernel_rfl) (by kernel_rfl) ?_
    refine reg_new (op := (Go.Op.alloc 92)) (ty := 0) (dst := some 1) (fun bb => Value.pointer (some ⟨bb, 0, none⟩)) (Obj.cells ((List.map (Value.int .u32) (List.replicate 256 0))).toArray ty_256_uint32 (0, 0)) (by kernel_rfl) (by kernel_rfl) (fun b_1 w2 hb hw => ?_)
    replace h := h b_1 w2 hb hw
    clear hb hw
    refine reg_end [(0, Value.pointer (some ⟨b_, 0, none⟩)), (1, Value.pointer (some ⟨b_1, 0, none⟩))] (by kernel_rfl) (by kernel_rfl) ?_
    change WpE _ _ c_sum_table_6 _ _ _
    refine wpE_seq (x := c_sum_table_7) (y := c_sum_table_50) (by kernel_rfl) ?_
    refine wpE_seq (x := c_sum_table_8) (y := c_sum_table_10) (by kernel_rfl) ?_
    refine wpE_region (id := 2) (ops := r_sum_table_8) (by kernel_rfl) ?_
    refine reg_run [.plain] 1 [(0, [], Value.pointer (some ⟨b_, 0, none⟩)), (1, [], Value.pointer (some ⟨b_1, 0, none⟩)), (4, [], Value.int .i64 0)] (by kernel_rfl) (by kernel_rfl) ?_
    refine reg_end [(0, Value.pointer (some ⟨b_, 0, none⟩)), (1, Value.pointer (some ⟨b_1, 0, none⟩)), (4, Value.int .i64 0)] (by kernel_rfl) (by kernel_rfl) ?_
    change WpE _ _ c_sum_table_10 _ _ _
    refine wpE_block (id := 0) (x := c_sum_table_11) (by kernel_rfl) ?_
    obtain ⟨I, μ, h0, hr⟩ := h
    refine wpE_loop (x := c_sum_table_12) (by kernel_rfl) (fun m l w => ∃ (t4 : Int), l = [(0, Value.pointer (some ⟨b_, 0, none⟩)), (1, Value.pointer (some ⟨b_1, 0, none⟩)), (4, Value.int .i64 t4)] ∧ I t4 w ∧ μ t4 w = m) (l' := [(0, Value.pointer (some ⟨b_, 0, none⟩)), (1, Value.pointer (some ⟨b_1, 0, none⟩)), (4, Value.int .i64 0)]) (Sub.mk (by kernel_rfl)) ⟨0, rfl, h0, rfl⟩ ?_
    rintro _ _ w3 ⟨t4, rfl, hI, rfl⟩
    obtain ⟨again_, again__h, h⟩ : ∃ again_ : Int → World → Prop, (∀ t4' w', again_ t4' w' → I t4' w' ∧ μ t4' w' < μ t4 w3) ∧ F_sum_table_L0 R b_ b_1 again_ t4 w3 := ⟨_, fun _ _ h => h, hr t4 w3 hI⟩
    clear h0 hI
    unfold F_sum_table_L0 at h
    refine wpE_seq (x := c_sum_table_13) (y := c_sum_table_15) (by kernel_rfl) ?_
    refine wpE_region (id := 3) (ops := r_sum_table_13) (by kernel_rfl) ?_
    refine reg_run [.plain] 1 [(0, [], Value.pointer (some ⟨b_, 0, none⟩)), (1, [], Value.pointer (some ⟨b_1, 0, none⟩)), (4, [], Value.int .i64 t4), (5, [], Value.bool (decide (t4 < 256)))] (by kernel_rfl) (by kernel_rfl) ?_
    refine reg_end [(0, Value.pointer (some ⟨b_, 0, none⟩)), (1, Value.pointer (some ⟨b_1, 0, none⟩)), (4, Value.int .i64 t4), (5, Value.bool (decide (t4 < 256)))] (by kernel_rfl) (by kernel_rfl) ?_
    change WpE _ _ c_sum_table_15 _ _ _
    refine wpE_seq (x := c_sum_table_16) (y := c_sum_table_19) (by kernel_rfl) ?_
    refine wpE_cond (o := (Operand.tmp 5)) (b := (decide (t4 < 256))) (x := c_sum_table_17) (y := c_sum_table_18) (by kernel_rfl) (by kernel_rfl) (fun hb => ?_) (fun hb => ?_)
    · replace h := h.1 hb
      refine wpE_skip (by kernel_rfl) ?_
      change WpE _ _ c_sum_table_19 _ _ _
      refine wpE_seq (x := c_sum_table_20) (y := c_sum_table_48) (by kernel_rfl) ?_
      refine wpE_block (id := 1) (x := c_sum_table_21) (by kernel_rfl) ?_
      refine wpE_seq (x := c_sum_table_22) (y := c_sum_table_24) (by kernel_rfl) ?_
      refine wpE_region (id := 4) (ops := r_sum_table_22) (by kernel_rfl) ?_
      refine reg_run [.plain, .plain] 2 [(0, [], Value.pointer (some ⟨b_, 0, none⟩)), (1, [], Value.pointer (some ⟨b_1, 0, none⟩)), (2, [], Value.int .i64 t4), (4, [], Value.int .i64 t4)] (by kernel_rfl) (by kernel_rfl) ?_
      refine reg_end [(0, Value.pointer (some ⟨b_, 0, none⟩)), (1, Value.pointer (some ⟨b_1, 0, none⟩)), (2, Value.int .i64 t4), (4, Value.int .i64 t4)] (by kernel_rfl) (by kernel_rfl) ?_
      change WpE _ _ c_sum_table_24 _ _ _
      refine wpE_seq (x := c_sum_table_25) (y := c_sum_table_27) (by kernel_rfl) ?_
      refine wpE_region (id := 5) (ops := r_sum_table_25) (by kernel_rfl) ?_
      refine reg_run [.plain, .plain, .plain] 3 [(0, [], Value.pointer (some ⟨b_, 0, none⟩)), (1, [], Value.pointer (some ⟨b_1, 0, none⟩)), (2, [], Value.int .i64 t4), (3, [], Value.int .u32 (IntKind.u32.wrap t4)), (4, [], Value.int .i64 t4)] (by kernel_rfl) (by kernel_rfl) ?_
      refine reg_end [(0, Value.pointer (some ⟨b_, 0, none⟩)), (1, Value.pointer (some ⟨b_1, 0, none⟩)), (2, Value.int .i64 t4), (3, Value.int .u32 (IntKind.u32.wrap t4)), (4, Value.int .i64 t4)] (by kernel_rfl) (by kernel_rfl) ?_
      change WpE _ _ c_sum_table_27 _ _ _
      refine wpE_seq (x := c_sum_table_28) (y := c_sum_table_46) (by kernel_rfl) ?_
      refine wpE_seq (x := c_sum_table_29) (y := c_sum_table_31) (by kernel_rfl) ?_
      refine wpE_region (id := 6) (ops := r_sum_table_29) (by kernel_rfl) ?_
      refine reg_run [.plain] 1 [(0, [], Value.pointer (some ⟨b_, 0, none⟩)), (1, [], Value.pointer (some ⟨b_1, 0, none⟩)), (2, [], Value.int .i64 t4), (3, [], Value.int .u32 (IntKind.u32.wrap t4)), (4, [], Value.int .i64 t4), (9, [], Value.int .i64 0)] (by kernel_rfl) (by kernel_rfl) ?_
      refine reg_end [(0, Value.pointer (some ⟨b_, 0, none⟩)), (1, Value.pointer (some ⟨b_1, 0, none⟩)), (2, Value.int .i64 t4), (3, Value.int .u32 (IntKind.u32.wrap t4)), (4, Value.int .i64 t4), (9, Value.int .i64 0)] (by kernel_rfl) (by kernel_rfl) ?_
      change WpE _ _ c_sum_table_31 _ _ _
      refine wpE_block (id := 2) (x := c_sum_table_32) (by kernel_rfl) ?_
      obtain ⟨I, μ, h0, hr⟩ := h
      refine wpE_loop (x := c_sum_table_33) (by kernel_rfl) (fun m l w => ∃ (c : Int) (t9 : Int), l = [(0, Value.pointer (some ⟨b_, 0, none⟩)), (1, Value.pointer (some ⟨b_1, 0, none⟩)), (2, Value.int .i64 t4), (3, Value.int .u32 c), (4, Value.int .i64 t4), (9, Value.int .i64 t9)] ∧ I c t9 w ∧ μ c t9 w = m) (l' := [(0, Value.pointer (some ⟨b_, 0, none⟩)), (1, Value.pointer (some ⟨b_1, 0, none⟩)), (2, Value.int .i64 t4), (3, Value.int .u32 (IntKind.u32.wrap t4)), (4, Value.int .i64 t4), (9, Value.int .i64 0)]) (Sub.mk (by kernel_rfl)) ⟨(IntKind.u32.wrap t4), 0, rfl, h0, rfl⟩ ?_
      rintro _ _ w4 ⟨c, t9, rfl, hI, rfl⟩
      obtain ⟨again_1, again_1_h, h⟩ : ∃ again_1 : Int → Int → World → Prop, (∀ c' t9' w', again_1 c' t9' w' → I c' t9' w' ∧ μ c' t9' w' < μ c t9 w4) ∧ F_sum_table_L1 b_1 t4 again_ again_1 c t9 w4 := ⟨_, fun _ _ _ h => h, hr c t9 w4 hI⟩
      clear h0 hI
      unfold F_sum_table_L1 at h
      refine wpE_seq (x := c_sum_table_34) (y := c_sum_table_36) (by kernel_rfl) ?_
      refine wpE_region (id := 7) (ops := r_sum_table_34) (by kernel_rfl) ?_
      refine reg_run [.plain] 1 [(0, [], Value.pointer (some ⟨b_, 0, none⟩)), (1, [], Value.pointer (some ⟨b_1, 0, none⟩)), (2, [], Value.int .i64 t4), (3, [], Value.int .u32 c), (4, [], Value.int .i64 t4), (9, [], Value.int .i64 t9), (10, [], Value.bool (decide (t9 < 8)))] (by kernel_rfl) (by kernel_rfl) ?_
      refine reg_end [(0, Value.pointer (some ⟨b_, 0, none⟩)), (1, Value.pointer (some ⟨b_1, 0, none⟩)), (2, Value.int .i64 t4), (3, Value.int .u32 c), (4, Value.int .i64 t4), (9, Value.int .i64 t9), (10, Value.bool (decide (t9 < 8)))] (by kernel_rfl) (by kernel_rfl) ?_
      change WpE _ _ c_sum_table_36 _ _ _
      refine wpE_seq (x := c_sum_table_37) (y := c_sum_table_40) (by kernel_rfl) ?_
      refine wpE_cond (o := (Operand.tmp 10)) (b := (decide (t9 < 8))) (x := c_sum_table_38) (y := c_sum_table_39) (by kernel_rfl) (by kernel_rfl) (fun hb => ?_) (fun hb => ?_)
      · replace h := h.1 hb
        refine wpE_skip (by kernel_rfl) ?_
        change WpE _ _ c_sum_table_40 _ _ _
        refine wpE_seq (x := c_sum_table_41) (y := c_sum_table_44) (by kernel_rfl) ?_
        refine wpE_block (id := 3) (x := c_sum_table_42) (by kernel_rfl) ?_
        refine wpE_region (id := 8) (ops := r_sum_table_42) (by kernel_rfl) ?_
        refine reg_run [.plain, .plain, .plain, .plain, .plain, .plain, .plain, .plain] 8 [(0, [], Value.pointer (some ⟨b_, 0, none⟩)), (1, [], Value.pointer (some ⟨b_1, 0, none⟩)), (2, [], Value.int .i64 t4), (3, [], Value.int .u32 (bxor .u32 (Int.fdiv c (2 ^ 1)) (band .u32 2197175160 (IntKind.u32.wrap (0 - (band .u32 c 1)))))), (4, [], Value.int .i64 t4), (9, [], Value.int .i64 t9)] (by kernel_rfl) (by kernel_rfl) ?_
        refine reg_end [(0, Value.pointer (some ⟨b_, 0, none⟩)), (1, Value.pointer (some ⟨b_1, 0, none⟩)), (2, Value.int .i64 t4), (3, Value.int .u32 (bxor .u32 (Int.fdiv c (2 ^ 1)) (band .u32 2197175160 (IntKind.u32.wrap (0 - (band .u32 c 1)))))), (4, Value.int .i64 t4), (9, Value.int .i64 t9)] (by kernel_rfl) (by kernel_rfl) ?_
        change WpE _ _ c_sum_table_44 _ _ _
        refine wpE_region (id := 9) (ops := r_sum_table_44) (by kernel_rfl) ?_
        refine reg_run [.plain, .plain] 2 [(0, [], Value.pointer (some ⟨b_, 0, none⟩)), (1, [], Value.pointer (some ⟨b_1, 0, none⟩)), (2, [], Value.int .i64 t4), (3, [], Value.int .u32 (bxor .u32 (Int.fdiv c (2 ^ 1)) (band .u32 2197175160 (IntKind.u32.wrap (0 - (band .u32 c 1)))))), (4, [], Value.int .i64 t4), (9, [], Value.int .i64 (IntKind.i64.wrap (t9 + 1)))] (by kernel_rfl) (by kernel_rfl) ?_
        refine reg_end [(0, Value.pointer (some ⟨b_, 0, none⟩)), (1, Value.pointer (some ⟨b_1, 0, none⟩)), (2, Value.int .i64 t4), (3, Value.int .u32 (bxor .u32 (Int.fdiv c (2 ^ 1)) (band .u32 2197175160 (IntKind.u32.wrap (0 - (band .u32 c 1)))))), (4, Value.int .i64 t4), (9, Value.int .i64 (IntKind.i64.wrap (t9 + 1)))] (by kernel_rfl) (by kernel_rfl) ?_
        have hb_ := again_1_h _ _ _ h
        exact ⟨_, hb_.2, [(0, Value.pointer (some ⟨b_, 0, none⟩)), (1, Value.pointer (some ⟨b_1, 0, none⟩)), (2, Value.int .i64 t4), (3, Value.int .u32 (bxor .u32 (Int.fdiv c (2 ^ 1)) (band .u32 2197175160 (IntKind.u32.wrap (0 - (band .u32 c 1)))))), (4, Value.int .i64 t4), (9, Value.int .i64 (IntKind.i64.wrap (t9 + 1)))], Sub.mk (by kernel_rfl), (bxor .u32 (Int.fdiv c (2 ^ 1)) (band .u32 2197175160 (IntKind.u32.wrap (0 - (band .u32 c 1))))), (IntKind.i64.wrap (t9 + 1)), rfl, hb_.1, rfl⟩
      · replace h := h.2 hb
        refine wpE_exit (id := 2) (by kernel_rfl) ?_
        change WpE _ _ c_sum_table_46 _ _ _
        refine wpE_region (id := 10) (ops := r_sum_table_46) (by kernel_rfl) ?_
        refine reg_run [.plain, .plain] 2 [(0, [], Value.pointer (some ⟨b_, 0, none⟩)), (1, [], Value.pointer (some ⟨b_1, 0, none⟩)), (4, [], Value.int .i64 t4), (19, [], Value.int .i64 t4), (20, [], Value.int .u32 c)] (by kernel_rfl) (by kernel_rfl) ?_
        obtain ⟨h0, h1, h⟩ := h
        refine reg_indexA1 (t := 92) (e := 39) (x := (Go.Operand.tmp 1)) (ix := (Go.Operand.tmp 19)) (b := b_1) (o := 0) (len := 256) (k := .i64) (j := t4) (ty := 0) (dst := some 21) (by kernel_rfl) (by kernel_rfl) (by kernel_rfl) (by kernel_rfl) (by kernel_rfl) h0 h1 ?_
        refine reg_run [] 3 [(0, [], Value.pointer (some ⟨b_, 0, none⟩)), (1, [], Value.pointer (some ⟨b_1, 0, none⟩)), (4, [], Value.int .i64 t4), (20, [], Value.int .u32 c), (21, [], Value.pointer (some ⟨b_1, 0 + t4.toNat, none⟩))] (by kernel_rfl) (by kernel_rfl) ?_
        obtain ⟨hc, h⟩ := h
        refine reg_store (t := 39) (a := (Go.Operand.tmp 21)) (x := (Go.Operand.tmp 20)) (b := b_1) (o := (0 + t4.toNat)) (ty := 0) (dst := none) [Value.int .u32 c] (by kernel_rfl) (by kernel_rfl) (by kernel_rfl) (k := 1) (by kernel_rfl) (by kernel_rfl) (by kernel_rfl) hc (fun w5 hw => ?_)
        replace h := h w5 hw
        clear hw
        refine reg_end [(0, Value.pointer (some ⟨b_, 0, none⟩)), (1, Value.pointer (some ⟨b_1, 0, none⟩)), (4, Value.int .i64 t4)] (by kernel_rfl) (by kernel_rfl) ?_
        change WpE _ _ c_sum_table_48 _ _ _
        refine wpE_region (id := 11) (ops := r_sum_table_48) (by kernel_rfl) ?_
        refine reg_run [.plain, .plain] 2 [(0, [], Value.pointer (some ⟨b_, 0, none⟩)), (1, [], Value.pointer (some ⟨b_1, 0, none⟩)), (4, [], Value.int .i64 (IntKind.i64.wrap (t4 + 1)))] (by kernel_rfl) (by kernel_rfl) ?_
        refine reg_end [(0, Value.pointer (some ⟨b_, 0, none⟩)), (1, Value.pointer (some ⟨b_1, 0, none⟩)), (4, Value.int .i64 (IntKind.i64.wrap (t4 + 1)))] (by kernel_rfl) (by kernel_rfl) ?_
        have hb_ := again__h _ _ h
        exact ⟨_, hb_.2, [(0, Value.pointer (some ⟨b_, 0, none⟩)), (1, Value.pointer (some ⟨b_1, 0, none⟩)), (4, Value.int .i64 (IntKind.i64.wrap (t4 + 1)))], Sub.mk (by kernel_rfl), (IntKind.i64.wrap (t4 + 1)), rfl, hb_.1, rfl⟩
    · replace h := h.2 hb
      refine wpE_exit (id := 0) (by kernel_rfl) ?_
      change WpE _ _ c_sum_table_50 _ _ _
      refine wpE_seq (x := c_sum_table_51) (y := c_sum_table_53) (by kernel_rfl) ?_
      refine wpE_region (id := 12) (ops := r_sum_table_51) (by kernel_rfl) ?_
      refine reg_run [] 0 [(0, [], Value.pointer (some ⟨b_, 0, none⟩)), (1, [], Value.pointer (some ⟨b_1, 0, none⟩))] (by kernel_rfl) (by kernel_rfl) ?_
      obtain ⟨v23, hl_v23_0, hc, h⟩ := h
      refine reg_loadN (t := 92) (a := (Go.Operand.tmp 1)) (b := b_1) (o := 0) (ty := 92) (dst := some 23) (List.map (Value.int .u32) v23) (by kernel_rfl) (by kernel_rfl) (by kernel_rfl) (k := 256) (by kernel_rfl) (by simp [hl_v23_0]) hc ?_
      refine reg_run [] 1 [(0, [], Value.pointer (some ⟨b_, 0, none⟩)), (23, [], Value.agg (List.map (Value.int .u32) v23).toArray)] (by kernel_rfl) (by kernel_rfl) ?_
      obtain ⟨hc, h⟩ := h
      refine reg_store (t := 92) (a := (Go.Operand.tmp 0)) (x := (Go.Operand.tmp 23)) (b := b_) (o := 0) (ty := 0) (dst := none) (List.map (Value.int .u32) v23) (by kernel_rfl) (by kernel_rfl) (by kernel_rfl) (k := 256) (by kernel_rfl) (by simp [*]) (by simp [oneCells, oneCell, List.all_eq_true]) hc (fun w6 hw => ?_)
      replace h := h w6 hw
      clear hw
      refine reg_end [(0, Value.pointer (some ⟨b_, 0, none⟩))] (by kernel_rfl) (by kernel_rfl) ?_
      change WpE _ _ c_sum_table_53 _ _ _
      refine wpE_ret (by kernel_rfl) ?_
      obtain ⟨res, hl_res_0, hc_res, h⟩ := h
      repeat (first | refine seqQ_ret ?_ | refine blockQ_ret ?_ | refine loopQ_ret ?_ | refine cutQ_ret ?_)
      exact retS (rs := [(Go.ResultVar.cell 0 92)]) (v := Value.agg (List.map (Value.int .u32) res).toArray) (by kernel_rfl) (⟨b_, 0, (List.map (Value.int .u32) res), by kernel_rfl, hc_res, (sizeP_of (k := 256) (by kernel_rfl) (by simp [hl_res_0])), .inl ⟨by kernel_rfl, rfl⟩, trivial⟩) ⟨res, (by simp [*]), rfl, h⟩
  · rintro e w' ⟨v, rfl, r0, hl0, rfl, h⟩; exact ⟨r0, hl0, rfl, h⟩
end Go.Proofs.Ytmcpljflohlnaaa
