/- WRITTEN BY PROGRAM (dec.py): for each Go function the clean formula F, the call's contract C, and the proof S that F gives C. -/
import Derived.Test.YtfmkemmgakdddaaGreatDoorRows
import Derived.Test.YtfmkemmgakdddaaGreatDoorGF
namespace Go.Proofs.YtfmkemmgakdddaaGreatDoor
open Go
set_option linter.unusedVariables false
set_option maxRecDepth 100000
set_option maxHeartbeats 4000000

/-! ### towpath/towpathref02.Var (function 24) -/
noncomputable def c24_0 := (Tryz.f24.body).getD Code.skip
noncomputable def c24_3 := Code.r c24_0
noncomputable def c24_4 := Code.l c24_3
noncomputable def c24_5 := Code.l c24_4
noncomputable def c24_6 := Code.l c24_5
noncomputable def c24_7 := Code.l c24_6
noncomputable def c24_10 := Code.r c24_7
noncomputable def c24_11 := Code.l c24_10
noncomputable def c24_12 := Code.r c24_10
noncomputable def c24_13 := Code.r c24_6
noncomputable def c24_14 := Code.l c24_13
noncomputable def c24_15 := Code.l c24_14
noncomputable def r24_15 := Code.ops c24_15
noncomputable def c24_17 := Code.r c24_14
noncomputable def r24_17 := Code.ops c24_17
noncomputable def c24_19 := Code.r c24_3
noncomputable def c24_20 := Code.l c24_19
noncomputable def r24_20 := Code.ops c24_20
noncomputable def c24_22 := Code.r c24_19

theorem S_towpathref02_Var {b_ : Slc} {n_ : Int} {w : World} {R : Slc → World → Prop} (h : F_towpathref02_Var b_ n_ R w) : C_towpathref02_Var b_ n_ w R := by
  unfold F_towpathref02_Var at h
  unfold C_towpathref02_Var
  refine Calls.mono (calls_of_wpE (args := [Value.slice b_.ptr b_.len b_.cap, Value.int .u64 n_]) (R := fun v w' => ∃ (r0 : Slc), v = Value.slice r0.ptr r0.len r0.cap ∧ R r0 w') Tryz.func24 (c := c24_0) (by kernel_rfl) 21 (by kernel_rfl) (by kernel_rfl) [(0, Value.slice b_.ptr b_.len b_.cap), (1, Value.int .u64 n_)] (by kernel_rfl) ?_) ?_
  · refine Zp c24_3 P1 [(0, .slice b_.ptr b_.len b_.cap), (1, .int .u64 n_)] ?_
    refine Zs c24_4 c24_19 ?_
    refine Zb 0 c24_5 ?_
    obtain ⟨I, μ, h0, hr⟩ := h
    refine wpE_loop (x := c24_6) (by kernel_rfl) (fun m l w => ∃ (b_1 : Slc) (n_1 : Int), l = [(0, Value.slice b_1.ptr b_1.len b_1.cap), (1, Value.int .u64 n_1)] ∧ I b_1 n_1 w ∧ μ b_1 n_1 w = m) (l' := [(0, Value.slice b_.ptr b_.len b_.cap), (1, Value.int .u64 n_)]) (Sub.mk (by kernel_rfl)) ⟨b_, n_, rfl, h0, rfl⟩ ?_
    rintro _ _ w1 ⟨b_1, n_1, rfl, hI, rfl⟩
    obtain ⟨again_, again__h, h⟩ : ∃ again_ : Slc → Int → World → Prop, (∀ b_1' n_1' w', again_ b_1' n_1' w' → I b_1' n_1' w' ∧ μ b_1' n_1' w' < μ b_1 n_1 w1) ∧ F_towpathref02_Var_L0 R again_ b_1 n_1 w1 := ⟨_, fun _ _ _ h => h, hr b_1 n_1 w1 hI⟩
    clear h0 hI
    unfold F_towpathref02_Var_L0 at h
    refine Zs c24_7 c24_13 ?_
    refine Zp c24_10 P2 [(0, .slice b_1.ptr b_1.len b_1.cap), (1, .int .u64 n_1), (6, .bool (decide (n_1 ≥ 128)))] ?_
    refine Zc 6 (decide (n_1 ≥ 128)) c24_11 c24_12 (fun hb => ?_) (fun hb => ?_)
    · replace h := h.1 hb
      refine wpE_skip (by kernel_rfl) ?_
      change WpE _ _ c24_13 _ _ _
      refine Zb 1 c24_14 ?_
      refine Zt r24_15 c24_17 ?_
      refine Zn (Pl 5) 5 [(0, [], .slice b_1.ptr b_1.len b_1.cap), (1, [], .int .u64 n_1), (7, [], .slice b_1.ptr b_1.len b_1.cap), (11, [], .int .u8 (IntKind.u8.wrap (IntKind.u64.wrap (128 + (Int.tmod n_1 128)))))] ?_
      refine Zw (some 12) (fun bb => .slice (some ⟨bb, 0, none⟩) 1 1) (Obj.cells ([.int .u8 (IntKind.u8.wrap (IntKind.u64.wrap (128 + (Int.tmod n_1 128))))]).toArray ty_uint8 (0, 0)) (fun b_2 w2 hb hw => ?_)
      replace h := h b_2 w2 hb hw
      clear hb hw
      refine Zn [] 6 [(0, [], .slice b_1.ptr b_1.len b_1.cap), (1, [], .int .u64 n_1), (7, [], .slice b_1.ptr b_1.len b_1.cap), (12, [], .slice (some ⟨b_2, 0, none⟩) 1 1)] ?_
      obtain ⟨src, hs, h⟩ := h
      refine reg_append (t := 28) (tx := 28) (e := 5) (a := (Operand.tmp 7)) (xo := (Operand.tmp 12)) (s := b_1) (x := (Slc.mk (some ⟨b_2, 0, none⟩) 1 1)) (sz := 1) (by_ := 1) (zs := [Value.int .u8 0]) (ty := 28) (dst := some 13)  src (by kernel_rfl) (by kernel_rfl) (by kernel_rfl) (by kernel_rfl) (by kernel_rfl) (by kernel_rfl) (by kernel_rfl) (by kernel_rfl) (by kernel_rfl) hs (AppendW.mono h (fun b_3 w3 h => ?_))
      refine Zf P1 [(0, .slice b_3.ptr b_3.len b_3.cap), (1, .int .u64 n_1)] ?_
      change WpE _ _ c24_17 _ _ _
      refine Zr r24_17 ?_
      refine Zf P3 [(0, .slice b_3.ptr b_3.len b_3.cap), (1, .int .u64 (IntKind.u64.wrap (Int.tdiv n_1 128)))] ?_
      have hb_ := again__h _ _ _ h
      exact ⟨_, hb_.2, [(0, Value.slice b_3.ptr b_3.len b_3.cap), (1, Value.int .u64 (IntKind.u64.wrap (Int.tdiv n_1 128)))], Sub.mk (by kernel_rfl), b_3, (IntKind.u64.wrap (Int.tdiv n_1 128)), rfl, hb_.1, rfl⟩
    · replace h := h.2 hb
      refine wpE_exit (id := 0) (by kernel_rfl) ?_
      change WpE _ _ c24_19 _ _ _
      refine Zt r24_20 c24_22 ?_
      refine Zn P3 3 [(16, [], .slice b_1.ptr b_1.len b_1.cap), (18, [], .int .u8 (IntKind.u8.wrap n_1))] ?_
      refine Zw (some 19) (fun bb => .slice (some ⟨bb, 0, none⟩) 1 1) (Obj.cells ([.int .u8 (IntKind.u8.wrap n_1)]).toArray ty_uint8 (0, 0)) (fun b_4 w4 hb hw => ?_)
      replace h := h b_4 w4 hb hw
      clear hb hw
      refine Zn [] 4 [(16, [], .slice b_1.ptr b_1.len b_1.cap), (19, [], .slice (some ⟨b_4, 0, none⟩) 1 1)] ?_
      obtain ⟨src, hs, h⟩ := h
      refine reg_append (t := 28) (tx := 28) (e := 5) (a := (Operand.tmp 16)) (xo := (Operand.tmp 19)) (s := b_1) (x := (Slc.mk (some ⟨b_4, 0, none⟩) 1 1)) (sz := 1) (by_ := 1) (zs := [Value.int .u8 0]) (ty := 28) (dst := some 20)  src (by kernel_rfl) (by kernel_rfl) (by kernel_rfl) (by kernel_rfl) (by kernel_rfl) (by kernel_rfl) (by kernel_rfl) (by kernel_rfl) (by kernel_rfl) hs (AppendW.mono h (fun v20 w5 h => ?_))
      refine Zf P1 [(4, .slice v20.ptr v20.len v20.cap)] ?_
      change WpE _ _ c24_22 _ _ _
      refine wpE_ret (by kernel_rfl) ?_
      repeat (first | refine seqQ_ret ?_ | refine blockQ_ret ?_ | refine loopQ_ret ?_ | refine cutQ_ret ?_)
      exact retS (rs := [(ResultVar.tmp 4)]) (v := Value.slice v20.ptr v20.len v20.cap) (by kernel_rfl) (⟨by kernel_rfl, trivial⟩) ⟨v20, rfl, h⟩
  · rintro e w' ⟨v, rfl, r0, rfl, h⟩; exact ⟨r0, rfl, h⟩

/-! ### towpath/towpathref02.Text (function 25) -/
noncomputable def c25_0 := (Tryz.f25.body).getD Code.skip
noncomputable def c25_3 := Code.r c25_0
noncomputable def c25_4 := Code.l c25_3
noncomputable def r25_4 := Code.ops c25_4
noncomputable def c25_6 := Code.r c25_3
noncomputable def c25_7 := Code.l c25_6
noncomputable def c25_10 := Code.r c25_7
noncomputable def c25_11 := Code.l c25_10
noncomputable def c25_12 := Code.l c25_11
noncomputable def c25_13 := Code.l c25_12
noncomputable def c25_16 := Code.r c25_13
noncomputable def c25_17 := Code.l c25_16
noncomputable def c25_18 := Code.r c25_16
noncomputable def c25_19 := Code.r c25_12
noncomputable def c25_20 := Code.l c25_19
noncomputable def c25_21 := Code.l c25_20
noncomputable def r25_21 := Code.ops c25_21
noncomputable def c25_23 := Code.r c25_19
noncomputable def r25_23 := Code.ops c25_23
noncomputable def c25_25 := Code.r c25_6
noncomputable def c25_28 := Code.r c25_25

theorem S_towpathref02_Text {b_ : Slc} {s : ByteArray} {w : World} {R : Slc → World → Prop} (h : F_towpathref02_Text b_ s R w) : C_towpathref02_Text b_ s w R := by
  unfold F_towpathref02_Text at h
  unfold C_towpathref02_Text
  refine Calls.mono (calls_of_wpE (args := [Value.slice b_.ptr b_.len b_.cap, Value.string s]) (R := fun v w' => ∃ (r0 : Slc), v = Value.slice r0.ptr r0.len r0.cap ∧ R r0 w') Tryz.func25 (c := c25_0) (by kernel_rfl) 24 (by kernel_rfl) (by kernel_rfl) [(0, Value.slice b_.ptr b_.len b_.cap), (1, Value.string s)] (by kernel_rfl) ?_) ?_
  · refine Zp c25_3 P1 [(0, .slice b_.ptr b_.len b_.cap), (1, .string s)] ?_
    refine Zt r25_4 c25_6 ?_
    refine Zn P4 4 [(0, [], .slice b_.ptr b_.len b_.cap), (1, [], .string s), (6, [], .slice b_.ptr b_.len b_.cap), (9, [], .int .u64 (IntKind.u64.wrap ((s.size : Nat) : Int)))] ?_
    refine Zm 24 #[.slice b_.ptr b_.len b_.cap, .int .u64 (IntKind.u64.wrap ((s.size : Nat) : Int))] (some 10) (Calls.mono h ?_)
    rintro _ w1 ⟨v10, rfl, h⟩
    refine ⟨_, rfl, ?_⟩
    refine Zf P1 [(0, .slice v10.ptr v10.len v10.cap), (1, .string s)] ?_
    change WpE _ _ c25_6 _ _ _
    refine Zs c25_7 c25_25 ?_
    refine Zp c25_10 P1 [(0, .slice v10.ptr v10.len v10.cap), (1, .string s), (5, .int .i64 0)] ?_
    refine Zb 0 c25_11 ?_
    obtain ⟨I, μ, h0, hr⟩ := h
    refine wpE_loop (x := c25_12) (by kernel_rfl) (fun m l w => ∃ (b_1 : Slc) (i : Int), l = [(0, Value.slice b_1.ptr b_1.len b_1.cap), (1, Value.string s), (5, Value.int .i64 i)] ∧ I b_1 i w ∧ μ b_1 i w = m) (l' := [(0, Value.slice v10.ptr v10.len v10.cap), (1, Value.string s), (5, Value.int .i64 0)]) (Sub.mk (by kernel_rfl)) ⟨v10, 0, rfl, h0, rfl⟩ ?_
    rintro _ _ w2 ⟨b_1, i, rfl, hI, rfl⟩
    obtain ⟨again_, again__h, h⟩ : ∃ again_ : Slc → Int → World → Prop, (∀ b_1' i' w', again_ b_1' i' w' → I b_1' i' w' ∧ μ b_1' i' w' < μ b_1 i w2) ∧ F_towpathref02_Text_L0 s R again_ b_1 i w2 := ⟨_, fun _ _ _ h => h, hr b_1 i w2 hI⟩
    clear h0 hI
    unfold F_towpathref02_Text_L0 at h
    refine Zs c25_13 c25_19 ?_
    refine Zp c25_16 P4 [(0, .slice b_1.ptr b_1.len b_1.cap), (1, .string s), (5, .int .i64 i), (14, .bool (decide (i < ((s.size : Nat) : Int))))] ?_
    refine Zc 14 (decide (i < ((s.size : Nat) : Int))) c25_17 c25_18 (fun hb => ?_) (fun hb => ?_)
    · replace h := h.1 hb
      refine wpE_skip (by kernel_rfl) ?_
      change WpE _ _ c25_19 _ _ _
      refine Zs c25_20 c25_23 ?_
      refine Zb 1 c25_21 ?_
      refine Zr r25_21 ?_
      refine Zn P3 3 [(0, [], .slice b_1.ptr b_1.len b_1.cap), (1, [], .string s), (5, [], .int .i64 i), (17, [], .slice b_1.ptr b_1.len b_1.cap), (18, [], .string s), (19, [], .int .i64 i)] ?_
      obtain ⟨h0, h1, h⟩ := h
      refine reg_indexStr (t := 9) (x := (Operand.tmp 18)) (ix := (Operand.tmp 19)) (s := s) (k := .i64) (j := i) (ty := 5) (dst := some 20) (by kernel_rfl) (by kernel_rfl) (by kernel_rfl) (by kernel_rfl) h0 h1 ?_
      refine Zn [] 4 [(0, [], .slice b_1.ptr b_1.len b_1.cap), (1, [], .string s), (5, [], .int .i64 i), (17, [], .slice b_1.ptr b_1.len b_1.cap), (20, [], .int .u8 (byteAt s i))] ?_
      refine Zw (some 21) (fun bb => .slice (some ⟨bb, 0, none⟩) 1 1) (Obj.cells ([.int .u8 (byteAt s i)]).toArray ty_uint8 (0, 0)) (fun b_2 w3 hb hw => ?_)
      replace h := h b_2 w3 hb hw
      clear hb hw
      refine Zn [] 5 [(0, [], .slice b_1.ptr b_1.len b_1.cap), (1, [], .string s), (5, [], .int .i64 i), (17, [], .slice b_1.ptr b_1.len b_1.cap), (21, [], .slice (some ⟨b_2, 0, none⟩) 1 1)] ?_
      obtain ⟨src, hs, h⟩ := h
      refine reg_append (t := 28) (tx := 28) (e := 5) (a := (Operand.tmp 17)) (xo := (Operand.tmp 21)) (s := b_1) (x := (Slc.mk (some ⟨b_2, 0, none⟩) 1 1)) (sz := 1) (by_ := 1) (zs := [Value.int .u8 0]) (ty := 28) (dst := some 22)  src (by kernel_rfl) (by kernel_rfl) (by kernel_rfl) (by kernel_rfl) (by kernel_rfl) (by kernel_rfl) (by kernel_rfl) (by kernel_rfl) (by kernel_rfl) hs (AppendW.mono h (fun b_3 w4 h => ?_))
      refine Zf P1 [(0, .slice b_3.ptr b_3.len b_3.cap), (1, .string s), (5, .int .i64 i)] ?_
      change WpE _ _ c25_23 _ _ _
      refine Zr r25_23 ?_
      refine Zf P3 [(0, .slice b_3.ptr b_3.len b_3.cap), (1, .string s), (5, .int .i64 (IntKind.i64.wrap (i + 1)))] ?_
      have hb_ := again__h _ _ _ h
      exact ⟨_, hb_.2, [(0, Value.slice b_3.ptr b_3.len b_3.cap), (1, Value.string s), (5, Value.int .i64 (IntKind.i64.wrap (i + 1)))], Sub.mk (by kernel_rfl), b_3, (IntKind.i64.wrap (i + 1)), rfl, hb_.1, rfl⟩
    · replace h := h.2 hb
      refine wpE_exit (id := 0) (by kernel_rfl) ?_
      change WpE _ _ c25_25 _ _ _
      refine Zp c25_28 P2 [(4, .slice b_1.ptr b_1.len b_1.cap)] ?_
      refine wpE_ret (by kernel_rfl) ?_
      repeat (first | refine seqQ_ret ?_ | refine blockQ_ret ?_ | refine loopQ_ret ?_ | refine cutQ_ret ?_)
      exact retS (rs := [(ResultVar.tmp 4)]) (v := Value.slice b_1.ptr b_1.len b_1.cap) (by kernel_rfl) (⟨by kernel_rfl, trivial⟩) ⟨b_1, rfl, h⟩
  · rintro e w' ⟨v, rfl, r0, rfl, h⟩; exact ⟨r0, rfl, h⟩
end Go.Proofs.YtfmkemmgakdddaaGreatDoor
