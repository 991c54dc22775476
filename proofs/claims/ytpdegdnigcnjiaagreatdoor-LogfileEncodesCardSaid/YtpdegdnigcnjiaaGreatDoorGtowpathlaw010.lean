/- WRITTEN BY PROGRAM (dec.py): for each Go function the clean formula F, the call's contract C, and the proof S that F gives C. -/
import Derived.Test.YtpdegdnigcnjiaaGreatDoorRows
import Derived.Test.YtpdegdnigcnjiaaGreatDoorGF
namespace Go.Proofs.YtpdegdnigcnjiaaGreatDoor
open Go
set_option linter.unusedVariables false
set_option maxRecDepth 100000
set_option maxHeartbeats 4000000

/-! ### towpath/towpathlaw01.Beyond (function 7) -/
noncomputable def c7_0 := (Tryz.f7.body).getD Code.skip
noncomputable def c7_3 := Code.r c7_0
noncomputable def c7_6 := Code.r c7_3
noncomputable def c7_7 := Code.l c7_6
noncomputable def c7_10 := Code.r c7_7
noncomputable def c7_11 := Code.l c7_10
noncomputable def c7_12 := Code.l c7_11
noncomputable def c7_13 := Code.l c7_12
noncomputable def c7_16 := Code.r c7_13
noncomputable def c7_17 := Code.l c7_16
noncomputable def c7_18 := Code.r c7_16
noncomputable def c7_19 := Code.r c7_12
noncomputable def c7_20 := Code.l c7_19
noncomputable def c7_21 := Code.l c7_20
noncomputable def c7_22 := Code.l c7_21
noncomputable def r7_22 := Code.ops c7_22
noncomputable def c7_24 := Code.r c7_21
noncomputable def c7_27 := Code.r c7_24
noncomputable def c7_28 := Code.l c7_27
noncomputable def c7_31 := Code.r c7_28
noncomputable def c7_32 := Code.r c7_27
noncomputable def c7_33 := Code.r c7_19
noncomputable def r7_33 := Code.ops c7_33
noncomputable def c7_35 := Code.r c7_6
noncomputable def c7_38 := Code.r c7_35

theorem S_towpathlaw01_Beyond {l_ : Slc} {w : World} {R : Bool → World → Prop} (h : F_towpathlaw01_Beyond l_ R w) : C_towpathlaw01_Beyond l_ w R := by
  unfold F_towpathlaw01_Beyond at h
  unfold C_towpathlaw01_Beyond
  refine Calls.mono (calls_of_wpE (args := [Value.slice l_.ptr l_.len l_.cap]) (R := fun v w' => ∃ (r0 : Bool), v = Value.bool r0 ∧ R r0 w') Tryz.func7 (c := c7_0) (by kernel_rfl) 19 (by kernel_rfl) (by kernel_rfl) [(0, Value.slice l_.ptr l_.len l_.cap)] (by kernel_rfl) ?_) ?_
  · refine Zp c7_3 P1 [(0, .slice l_.ptr l_.len l_.cap)] ?_
    refine Zp c7_6 P1 [(0, .slice l_.ptr l_.len l_.cap), (3, .int .i64 0)] ?_
    refine Zs c7_7 c7_35 ?_
    refine Zp c7_10 P1 [(0, .slice l_.ptr l_.len l_.cap), (3, .int .i64 0), (4, .int .i64 0)] ?_
    refine Zb 0 c7_11 ?_
    obtain ⟨I, μ, h0, hr⟩ := h
    refine wpE_loop (x := c7_12) (by kernel_rfl) (fun m l w => ∃ (n_ : Int) (i : Int), l = [(0, Value.slice l_.ptr l_.len l_.cap), (3, Value.int .i64 n_), (4, Value.int .i64 i)] ∧ I n_ i w ∧ μ n_ i w = m) (l' := [(0, Value.slice l_.ptr l_.len l_.cap), (3, Value.int .i64 0), (4, Value.int .i64 0)]) (Sub.mk (by kernel_rfl)) ⟨0, 0, rfl, h0, rfl⟩ ?_
    rintro _ _ w1 ⟨n_, i, rfl, hI, rfl⟩
    obtain ⟨again_, again__h, h⟩ : ∃ again_ : Int → Int → World → Prop, (∀ n_' i' w', again_ n_' i' w' → I n_' i' w' ∧ μ n_' i' w' < μ n_ i w1) ∧ F_towpathlaw01_Beyond_L0 l_ R again_ n_ i w1 := ⟨_, fun _ _ _ h => h, hr n_ i w1 hI⟩
    clear h0 hI
    unfold F_towpathlaw01_Beyond_L0 at h
    refine Zs c7_13 c7_19 ?_
    refine Zp c7_16 P4 [(0, .slice l_.ptr l_.len l_.cap), (3, .int .i64 n_), (4, .int .i64 i), (8, .bool (decide (i < ((l_.len : Nat) : Int))))] ?_
    refine Zc 8 (decide (i < ((l_.len : Nat) : Int))) c7_17 c7_18 (fun hb => ?_) (fun hb => ?_)
    · replace h := h.1 hb
      refine wpE_skip (by kernel_rfl) ?_
      change WpE _ _ c7_19 _ _ _
      refine Zs c7_20 c7_33 ?_
      refine Zb 1 c7_21 ?_
      refine Zt r7_22 c7_24 ?_
      refine Zn P3 3 [(0, [], .slice l_.ptr l_.len l_.cap), (3, [], .int .i64 n_), (4, [], .int .i64 i), (11, [], .int .i64 n_), (12, [], .slice l_.ptr l_.len l_.cap), (13, [], .int .i64 i)] ?_
      obtain ⟨hp_7, h⟩ := h
      refine Zv (fun pp => [(0, [], .slice l_.ptr l_.len l_.cap), (3, [], .int .i64 n_), (4, [], .int .i64 i), (11, [], .int .i64 n_), (12, [], .slice pp l_.len l_.cap), (13, [], .int .i64 i)]) hp_7 ?_
      obtain ⟨h0, h1, h⟩ := h
      refine Zi 23 3 12 13 (pblk l_.ptr) (poff l_.ptr) l_.len l_.cap i 14 0 h0 h1 ?_
      refine Zn [] 4 [(0, [], .slice l_.ptr l_.len l_.cap), (3, [], .int .i64 n_), (4, [], .int .i64 i), (11, [], .int .i64 n_), (14, [], .pointer (some ⟨(pblk l_.ptr), (poff l_.ptr) + i.toNat, none⟩))] ?_
      obtain ⟨v15, hc, h⟩ := h
      refine Zl 3 14 (pblk l_.ptr) ((poff l_.ptr) + i.toNat) 3 15 hc ?_
      refine Zf P2 [(0, .slice l_.ptr l_.len l_.cap), (3, .int .i64 (IntKind.i64.wrap (n_ + v15))), (4, .int .i64 i)] ?_
      change WpE _ _ c7_24 _ _ _
      refine Zp c7_27 P2 [(0, .slice l_.ptr l_.len l_.cap), (3, .int .i64 (IntKind.i64.wrap (n_ + v15))), (4, .int .i64 i), (18, .bool (decide ((IntKind.i64.wrap (n_ + v15)) > 1048576)))] ?_
      refine Zc 18 (decide ((IntKind.i64.wrap (n_ + v15)) > 1048576)) c7_28 c7_32 (fun hb => ?_) (fun hb => ?_)
      · replace h := h.1 hb
        refine Zp c7_31 P1 [(2, .bool true)] ?_
        refine wpE_ret (by kernel_rfl) ?_
        repeat (first | refine seqQ_ret ?_ | refine blockQ_ret ?_ | refine loopQ_ret ?_ | refine cutQ_ret ?_)
        exact retS (rs := [(ResultVar.tmp 2)]) (v := Value.bool true) (by kernel_rfl) (⟨by kernel_rfl, trivial⟩) ⟨true, rfl, h⟩
      · replace h := h.2 hb
        refine wpE_skip (by kernel_rfl) ?_
        change WpE _ _ c7_33 _ _ _
        refine Zr r7_33 ?_
        refine Zf P3 [(0, .slice l_.ptr l_.len l_.cap), (3, .int .i64 (IntKind.i64.wrap (n_ + v15))), (4, .int .i64 (IntKind.i64.wrap (i + 1)))] ?_
        have hb_ := again__h _ _ _ h
        exact ⟨_, hb_.2, [(0, Value.slice l_.ptr l_.len l_.cap), (3, Value.int .i64 (IntKind.i64.wrap (n_ + v15))), (4, Value.int .i64 (IntKind.i64.wrap (i + 1)))], Sub.mk (by kernel_rfl), (IntKind.i64.wrap (n_ + v15)), (IntKind.i64.wrap (i + 1)), rfl, hb_.1, rfl⟩
    · replace h := h.2 hb
      refine wpE_exit (id := 0) (by kernel_rfl) ?_
      change WpE _ _ c7_35 _ _ _
      refine Zp c7_38 P1 [(2, .bool false)] ?_
      refine wpE_ret (by kernel_rfl) ?_
      repeat (first | refine seqQ_ret ?_ | refine blockQ_ret ?_ | refine loopQ_ret ?_ | refine cutQ_ret ?_)
      exact retS (rs := [(ResultVar.tmp 2)]) (v := Value.bool false) (by kernel_rfl) (⟨by kernel_rfl, trivial⟩) ⟨false, rfl, h⟩
  · rintro e w' ⟨v, rfl, r0, rfl, h⟩; exact ⟨r0, rfl, h⟩

/-! ### towpath/towpathlaw01.TxnsSize (function 8) -/
noncomputable def c8_0 := (Tryz.f8.body).getD Code.skip
noncomputable def c8_3 := Code.r c8_0
noncomputable def c8_6 := Code.r c8_3
noncomputable def c8_7 := Code.l c8_6
noncomputable def c8_10 := Code.r c8_7
noncomputable def c8_11 := Code.l c8_10
noncomputable def c8_12 := Code.l c8_11
noncomputable def c8_13 := Code.l c8_12
noncomputable def c8_16 := Code.r c8_13
noncomputable def c8_17 := Code.l c8_16
noncomputable def c8_18 := Code.r c8_16
noncomputable def c8_19 := Code.r c8_12
noncomputable def c8_20 := Code.l c8_19
noncomputable def c8_21 := Code.l c8_20
noncomputable def r8_21 := Code.ops c8_21
noncomputable def c8_23 := Code.r c8_19
noncomputable def r8_23 := Code.ops c8_23
noncomputable def c8_25 := Code.r c8_6
noncomputable def c8_28 := Code.r c8_25

theorem S_towpathlaw01_TxnsSize {l_ : Slc} {w : World} {R : Int → World → Prop} (h : F_towpathlaw01_TxnsSize l_ R w) : C_towpathlaw01_TxnsSize l_ w R := by
  unfold F_towpathlaw01_TxnsSize at h
  unfold C_towpathlaw01_TxnsSize
  refine Calls.mono (calls_of_wpE (args := [Value.slice l_.ptr l_.len l_.cap]) (R := fun v w' => ∃ (r0 : Int), v = Value.int .i64 r0 ∧ R r0 w') Tryz.func8 (c := c8_0) (by kernel_rfl) 25 (by kernel_rfl) (by kernel_rfl) [(0, Value.slice l_.ptr l_.len l_.cap)] (by kernel_rfl) ?_) ?_
  · refine Zp c8_3 P1 [(0, .slice l_.ptr l_.len l_.cap)] ?_
    refine Zp c8_6 P3 [(0, .slice l_.ptr l_.len l_.cap), (3, .int .i64 ((l_.len : Nat) : Int))] ?_
    refine Zs c8_7 c8_25 ?_
    refine Zp c8_10 P1 [(0, .slice l_.ptr l_.len l_.cap), (3, .int .i64 ((l_.len : Nat) : Int)), (4, .int .i64 0)] ?_
    refine Zb 0 c8_11 ?_
    obtain ⟨I, μ, h0, hr⟩ := h
    refine wpE_loop (x := c8_12) (by kernel_rfl) (fun m l w => ∃ (n_ : Int) (i : Int), l = [(0, Value.slice l_.ptr l_.len l_.cap), (3, Value.int .i64 n_), (4, Value.int .i64 i)] ∧ I n_ i w ∧ μ n_ i w = m) (l' := [(0, Value.slice l_.ptr l_.len l_.cap), (3, Value.int .i64 ((l_.len : Nat) : Int)), (4, Value.int .i64 0)]) (Sub.mk (by kernel_rfl)) ⟨((l_.len : Nat) : Int), 0, rfl, h0, rfl⟩ ?_
    rintro _ _ w1 ⟨n_, i, rfl, hI, rfl⟩
    obtain ⟨again_, again__h, h⟩ : ∃ again_ : Int → Int → World → Prop, (∀ n_' i' w', again_ n_' i' w' → I n_' i' w' ∧ μ n_' i' w' < μ n_ i w1) ∧ F_towpathlaw01_TxnsSize_L0 l_ R again_ n_ i w1 := ⟨_, fun _ _ _ h => h, hr n_ i w1 hI⟩
    clear h0 hI
    unfold F_towpathlaw01_TxnsSize_L0 at h
    refine Zs c8_13 c8_19 ?_
    refine Zp c8_16 [.plain, .plain, .plain, .plain, .plain, .plain, .plain, .pick] [(0, .slice l_.ptr l_.len l_.cap), (3, .int .i64 n_), (4, .int .i64 i), (14, .bool ((decide (i < ((l_.len : Nat) : Int))) && (decide (n_ ≤ 1048576))))] ?_
    refine Zc 14 ((decide (i < ((l_.len : Nat) : Int))) && (decide (n_ ≤ 1048576))) c8_17 c8_18 (fun hb => ?_) (fun hb => ?_)
    · replace h := h.1 hb
      refine wpE_skip (by kernel_rfl) ?_
      change WpE _ _ c8_19 _ _ _
      refine Zs c8_20 c8_23 ?_
      refine Zb 1 c8_21 ?_
      refine Zr r8_21 ?_
      refine Zn P3 3 [(0, [], .slice l_.ptr l_.len l_.cap), (3, [], .int .i64 n_), (4, [], .int .i64 i), (17, [], .int .i64 n_), (18, [], .slice l_.ptr l_.len l_.cap), (19, [], .int .i64 i)] ?_
      obtain ⟨hp_3, h⟩ := h
      refine Zv (fun pp => [(0, [], .slice l_.ptr l_.len l_.cap), (3, [], .int .i64 n_), (4, [], .int .i64 i), (17, [], .int .i64 n_), (18, [], .slice pp l_.len l_.cap), (19, [], .int .i64 i)]) hp_3 ?_
      obtain ⟨h0, h1, h⟩ := h
      refine Zj 22 52 18 19 (pblk l_.ptr) (poff l_.ptr) l_.len l_.cap i 2 20 0 h0 h1 ?_
      refine Zn [] 4 [(0, [], .slice l_.ptr l_.len l_.cap), (3, [], .int .i64 n_), (4, [], .int .i64 i), (17, [], .int .i64 n_), (20, [], .pointer (some ⟨(pblk l_.ptr), (poff l_.ptr) + i.toNat * 2, none⟩))] ?_
      obtain ⟨v21, hc, h⟩ := h
      refine reg_loadN (t := 52) (a := (Operand.tmp 20)) (b := (pblk l_.ptr)) (o := ((poff l_.ptr) + i.toNat * 2)) (ty := 52) (dst := some 21) [Value.int .i64 v21.Number, Value.slice v21.Writes.ptr v21.Writes.len v21.Writes.cap] (by kernel_rfl) (by kernel_rfl) (by kernel_rfl) (k := 2) (by kernel_rfl) (by kernel_rfl) hc ?_
      refine Zn [] 5 [(0, [], .slice l_.ptr l_.len l_.cap), (3, [], .int .i64 n_), (4, [], .int .i64 i), (17, [], .int .i64 n_), (21, [], .agg #[.int .i64 v21.Number, .slice v21.Writes.ptr v21.Writes.len v21.Writes.cap])] ?_
      refine Zm 43 #[.agg #[.int .i64 v21.Number, .slice v21.Writes.ptr v21.Writes.len v21.Writes.cap]] (some 22) (Calls.mono h ?_)
      rintro _ w2 ⟨v22, rfl, h⟩
      refine ⟨_, rfl, ?_⟩
      refine Zf P2 [(0, .slice l_.ptr l_.len l_.cap), (3, .int .i64 (IntKind.i64.wrap (n_ + v22))), (4, .int .i64 i)] ?_
      change WpE _ _ c8_23 _ _ _
      refine Zr r8_23 ?_
      refine Zf P3 [(0, .slice l_.ptr l_.len l_.cap), (3, .int .i64 (IntKind.i64.wrap (n_ + v22))), (4, .int .i64 (IntKind.i64.wrap (i + 1)))] ?_
      have hb_ := again__h _ _ _ h
      exact ⟨_, hb_.2, [(0, Value.slice l_.ptr l_.len l_.cap), (3, Value.int .i64 (IntKind.i64.wrap (n_ + v22))), (4, Value.int .i64 (IntKind.i64.wrap (i + 1)))], Sub.mk (by kernel_rfl), (IntKind.i64.wrap (n_ + v22)), (IntKind.i64.wrap (i + 1)), rfl, hb_.1, rfl⟩
    · replace h := h.2 hb
      refine wpE_exit (id := 0) (by kernel_rfl) ?_
      change WpE _ _ c8_25 _ _ _
      refine Zp c8_28 P2 [(2, .int .i64 n_)] ?_
      refine wpE_ret (by kernel_rfl) ?_
      repeat (first | refine seqQ_ret ?_ | refine blockQ_ret ?_ | refine loopQ_ret ?_ | refine cutQ_ret ?_)
      exact retS (rs := [(ResultVar.tmp 2)]) (v := Value.int .i64 n_) (by kernel_rfl) (⟨by kernel_rfl, trivial⟩) ⟨n_, rfl, h⟩
  · rintro e w' ⟨v, rfl, r0, rfl, h⟩; exact ⟨r0, rfl, h⟩

/-! ### towpath/towpathlaw01.TwinTxns (function 9) -/
noncomputable def c9_0 := (Tryz.f9.body).getD Code.skip
noncomputable def c9_3 := Code.r c9_0
noncomputable def c9_4 := Code.l c9_3
noncomputable def r9_4 := Code.ops c9_4
noncomputable def c9_6 := Code.r c9_3
noncomputable def c9_7 := Code.l c9_6
noncomputable def c9_10 := Code.r c9_7
noncomputable def c9_11 := Code.l c9_10
noncomputable def c9_12 := Code.l c9_11
noncomputable def c9_13 := Code.l c9_12
noncomputable def c9_16 := Code.r c9_13
noncomputable def c9_17 := Code.l c9_16
noncomputable def c9_18 := Code.r c9_16
noncomputable def c9_19 := Code.r c9_12
noncomputable def c9_20 := Code.l c9_19
noncomputable def c9_21 := Code.l c9_20
noncomputable def r9_21 := Code.ops c9_21
noncomputable def c9_23 := Code.r c9_19
noncomputable def r9_23 := Code.ops c9_23
noncomputable def c9_25 := Code.r c9_6
noncomputable def c9_26 := Code.l c9_25
noncomputable def r9_26 := Code.ops c9_26
noncomputable def c9_28 := Code.r c9_25

theorem S_towpathlaw01_TwinTxns {l_ : Slc} {w : World} {R : Slc → World → Prop} (h : F_towpathlaw01_TwinTxns l_ R w) : C_towpathlaw01_TwinTxns l_ w R := by
  unfold F_towpathlaw01_TwinTxns at h
  unfold C_towpathlaw01_TwinTxns
  refine Calls.mono (calls_of_wpE (args := [Value.slice l_.ptr l_.len l_.cap]) (R := fun v w' => ∃ (r0 : Slc), v = Value.slice r0.ptr r0.len r0.cap ∧ R r0 w') Tryz.func9 (c := c9_0) (by kernel_rfl) 30 (by kernel_rfl) (by kernel_rfl) [(0, Value.slice l_.ptr l_.len l_.cap)] (by kernel_rfl) ?_) ?_
  · refine Zp c9_3 P1 [(0, .slice l_.ptr l_.len l_.cap)] ?_
    refine Zt r9_4 c9_6 ?_
    refine Zn P3 3 [(0, [], .slice l_.ptr l_.len l_.cap), (7, [], .int .i64 (IntKind.i64.wrap (((l_.len : Nat) : Int) + 1)))] ?_
    obtain ⟨h0, h1, h2, h⟩ := h
    refine reg_makeSlice (t := 22) (e := 52) (lo := (Operand.const (Value.int Go.IntKind.i64 0))) (co := (Operand.tmp 7)) (l := 0) (c := (IntKind.i64.wrap (((l_.len : Nat) : Int) + 1))) (sz := 2) (by_ := 32) (zs := [Value.int .i64 0, Value.slice none 0 0]) (ty := 22) (dst := some 8) (by kernel_rfl) (by kernel_rfl) (by kernel_rfl) (by kernel_rfl) (by kernel_rfl) (by kernel_rfl) (by kernel_rfl) (by kernel_rfl) (by kernel_rfl) h0 h1 h2 (fun b_ w1 hb hw => ?_)
    replace h := h b_ w1 hb hw
    clear hb hw
    refine Zf P1 [(0, .slice l_.ptr l_.len l_.cap), (3, .slice (some ⟨b_, 0, none⟩) 0 ((IntKind.i64.wrap (((l_.len : Nat) : Int) + 1)).toNat))] ?_
    change WpE _ _ c9_6 _ _ _
    refine Zs c9_7 c9_25 ?_
    refine Zp c9_10 P1 [(0, .slice l_.ptr l_.len l_.cap), (3, .slice (some ⟨b_, 0, none⟩) 0 ((IntKind.i64.wrap (((l_.len : Nat) : Int) + 1)).toNat)), (4, .int .i64 0)] ?_
    refine Zb 0 c9_11 ?_
    obtain ⟨I, μ, h0, hr⟩ := h
    refine wpE_loop (x := c9_12) (by kernel_rfl) (fun m l w => ∃ (t_ : Slc) (i : Int), l = [(0, Value.slice l_.ptr l_.len l_.cap), (3, Value.slice t_.ptr t_.len t_.cap), (4, Value.int .i64 i)] ∧ I t_ i w ∧ μ t_ i w = m) (l' := [(0, Value.slice l_.ptr l_.len l_.cap), (3, Value.slice (some ⟨b_, 0, none⟩) 0 ((IntKind.i64.wrap (((l_.len : Nat) : Int) + 1)).toNat)), (4, Value.int .i64 0)]) (Sub.mk (by kernel_rfl)) ⟨(Slc.mk (some ⟨b_, 0, none⟩) 0 ((IntKind.i64.wrap (((l_.len : Nat) : Int) + 1)).toNat)), 0, rfl, h0, rfl⟩ ?_
    rintro _ _ w2 ⟨t_, i, rfl, hI, rfl⟩
    obtain ⟨again_, again__h, h⟩ : ∃ again_ : Slc → Int → World → Prop, (∀ t_' i' w', again_ t_' i' w' → I t_' i' w' ∧ μ t_' i' w' < μ t_ i w2) ∧ F_towpathlaw01_TwinTxns_L0 l_ R again_ t_ i w2 := ⟨_, fun _ _ _ h => h, hr t_ i w2 hI⟩
    clear h0 hI
    unfold F_towpathlaw01_TwinTxns_L0 at h
    refine Zs c9_13 c9_19 ?_
    refine Zp c9_16 P4 [(0, .slice l_.ptr l_.len l_.cap), (3, .slice t_.ptr t_.len t_.cap), (4, .int .i64 i), (12, .bool (decide (i < ((l_.len : Nat) : Int))))] ?_
    refine Zc 12 (decide (i < ((l_.len : Nat) : Int))) c9_17 c9_18 (fun hb => ?_) (fun hb => ?_)
    · replace h := h.1 hb
      refine wpE_skip (by kernel_rfl) ?_
      change WpE _ _ c9_19 _ _ _
      refine Zs c9_20 c9_23 ?_
      refine Zb 1 c9_21 ?_
      refine Zr r9_21 ?_
      refine Zn P3 3 [(0, [], .slice l_.ptr l_.len l_.cap), (3, [], .slice t_.ptr t_.len t_.cap), (4, [], .int .i64 i), (15, [], .slice t_.ptr t_.len t_.cap), (16, [], .slice l_.ptr l_.len l_.cap), (17, [], .int .i64 i)] ?_
      obtain ⟨hp_3, h⟩ := h
      refine Zv (fun pp => [(0, [], .slice l_.ptr l_.len l_.cap), (3, [], .slice t_.ptr t_.len t_.cap), (4, [], .int .i64 i), (15, [], .slice t_.ptr t_.len t_.cap), (16, [], .slice pp l_.len l_.cap), (17, [], .int .i64 i)]) hp_3 ?_
      obtain ⟨h0, h1, h⟩ := h
      refine Zj 22 52 16 17 (pblk l_.ptr) (poff l_.ptr) l_.len l_.cap i 2 18 0 h0 h1 ?_
      refine Zn [] 4 [(0, [], .slice l_.ptr l_.len l_.cap), (3, [], .slice t_.ptr t_.len t_.cap), (4, [], .int .i64 i), (15, [], .slice t_.ptr t_.len t_.cap), (18, [], .pointer (some ⟨(pblk l_.ptr), (poff l_.ptr) + i.toNat * 2, none⟩))] ?_
      obtain ⟨v19, hc, h⟩ := h
      refine reg_loadN (t := 52) (a := (Operand.tmp 18)) (b := (pblk l_.ptr)) (o := ((poff l_.ptr) + i.toNat * 2)) (ty := 52) (dst := some 19) [Value.int .i64 v19.Number, Value.slice v19.Writes.ptr v19.Writes.len v19.Writes.cap] (by kernel_rfl) (by kernel_rfl) (by kernel_rfl) (k := 2) (by kernel_rfl) (by kernel_rfl) hc ?_
      refine Zn [] 5 [(0, [], .slice l_.ptr l_.len l_.cap), (3, [], .slice t_.ptr t_.len t_.cap), (4, [], .int .i64 i), (15, [], .slice t_.ptr t_.len t_.cap), (19, [], .agg #[.int .i64 v19.Number, .slice v19.Writes.ptr v19.Writes.len v19.Writes.cap])] ?_
      refine Zm 44 #[.agg #[.int .i64 v19.Number, .slice v19.Writes.ptr v19.Writes.len v19.Writes.cap]] (some 20) (Calls.mono h ?_)
      rintro _ w3 ⟨v20, rfl, h⟩
      refine ⟨_, rfl, ?_⟩
      refine Zn [] 6 [(0, [], .slice l_.ptr l_.len l_.cap), (3, [], .slice t_.ptr t_.len t_.cap), (4, [], .int .i64 i), (15, [], .slice t_.ptr t_.len t_.cap), (20, [], .agg #[.int .i64 v20.Number, .slice v20.Writes.ptr v20.Writes.len v20.Writes.cap])] ?_
      refine Zw (some 21) (fun bb => .slice (some ⟨bb, 0, none⟩) 1 1) (Obj.cells ([.int .i64 v20.Number, .slice v20.Writes.ptr v20.Writes.len v20.Writes.cap]).toArray ty_api_Txn (0, 0)) (fun b_1 w4 hb hw => ?_)
      replace h := h b_1 w4 hb hw
      clear hb hw
      refine Zn [] 7 [(0, [], .slice l_.ptr l_.len l_.cap), (3, [], .slice t_.ptr t_.len t_.cap), (4, [], .int .i64 i), (15, [], .slice t_.ptr t_.len t_.cap), (21, [], .slice (some ⟨b_1, 0, none⟩) 1 1)] ?_
      obtain ⟨src, hs, h⟩ := h
      refine reg_append (t := 22) (tx := 22) (e := 52) (a := (Operand.tmp 15)) (xo := (Operand.tmp 21)) (s := t_) (x := (Slc.mk (some ⟨b_1, 0, none⟩) 1 1)) (sz := 2) (by_ := 32) (zs := [Value.int .i64 0, Value.slice none 0 0]) (ty := 22) (dst := some 22)  src (by kernel_rfl) (by kernel_rfl) (by kernel_rfl) (by kernel_rfl) (by kernel_rfl) (by kernel_rfl) (by kernel_rfl) (by kernel_rfl) (by kernel_rfl) hs (AppendW.mono h (fun t_1 w5 h => ?_))
      refine Zf P1 [(0, .slice l_.ptr l_.len l_.cap), (3, .slice t_1.ptr t_1.len t_1.cap), (4, .int .i64 i)] ?_
      change WpE _ _ c9_23 _ _ _
      refine Zr r9_23 ?_
      refine Zf P3 [(0, .slice l_.ptr l_.len l_.cap), (3, .slice t_1.ptr t_1.len t_1.cap), (4, .int .i64 (IntKind.i64.wrap (i + 1)))] ?_
      have hb_ := again__h _ _ _ h
      exact ⟨_, hb_.2, [(0, Value.slice l_.ptr l_.len l_.cap), (3, Value.slice t_1.ptr t_1.len t_1.cap), (4, Value.int .i64 (IntKind.i64.wrap (i + 1)))], Sub.mk (by kernel_rfl), t_1, (IntKind.i64.wrap (i + 1)), rfl, hb_.1, rfl⟩
    · replace h := h.2 hb
      refine wpE_exit (id := 0) (by kernel_rfl) ?_
      change WpE _ _ c9_25 _ _ _
      refine Zt r9_26 c9_28 ?_
      refine Zn P2 2 [(0, [], .slice l_.ptr l_.len l_.cap), (23, [], .slice t_.ptr t_.len t_.cap), (24, [], .agg #[.int .i64 7777, .slice none 0 0])] ?_
      refine Zw (some 25) (fun bb => .slice (some ⟨bb, 0, none⟩) 1 1) (Obj.cells ([.int .i64 7777, .slice none 0 0]).toArray ty_api_Txn (0, 0)) (fun b_2 w6 hb hw => ?_)
      replace h := h b_2 w6 hb hw
      clear hb hw
      refine Zn [] 3 [(0, [], .slice l_.ptr l_.len l_.cap), (23, [], .slice t_.ptr t_.len t_.cap), (25, [], .slice (some ⟨b_2, 0, none⟩) 1 1)] ?_
      obtain ⟨src, hs, h⟩ := h
      refine reg_append (t := 22) (tx := 22) (e := 52) (a := (Operand.tmp 23)) (xo := (Operand.tmp 25)) (s := t_) (x := (Slc.mk (some ⟨b_2, 0, none⟩) 1 1)) (sz := 2) (by_ := 32) (zs := [Value.int .i64 0, Value.slice none 0 0]) (ty := 22) (dst := some 26)  src (by kernel_rfl) (by kernel_rfl) (by kernel_rfl) (by kernel_rfl) (by kernel_rfl) (by kernel_rfl) (by kernel_rfl) (by kernel_rfl) (by kernel_rfl) hs (AppendW.mono h (fun v26 w7 h => ?_))
      refine Zn P2 6 [(26, [], .slice v26.ptr v26.len v26.cap), (28, [], .int .i64 ((l_.len : Nat) : Int))] ?_
      obtain ⟨h0, h1, h⟩ := h
      refine reg_sliceHi (t := 22) (e := 52) (x := (Operand.tmp 26)) (hi := (Operand.tmp 28)) (p := v26.ptr) (l := v26.len) (c := v26.cap) (sz := 2) (k := .i64) (j := ((l_.len : Nat) : Int)) (ty := 22) (dst := some 29) (by kernel_rfl) (by kernel_rfl) (by kernel_rfl) (by kernel_rfl) (by kernel_rfl) h0 h1 ?_
      refine Zf P1 [(2, .slice v26.ptr (((l_.len : Nat) : Int).toNat) v26.cap)] ?_
      change WpE _ _ c9_28 _ _ _
      refine wpE_ret (by kernel_rfl) ?_
      repeat (first | refine seqQ_ret ?_ | refine blockQ_ret ?_ | refine loopQ_ret ?_ | refine cutQ_ret ?_)
      exact retS (rs := [(ResultVar.tmp 2)]) (v := Value.slice v26.ptr (((l_.len : Nat) : Int).toNat) v26.cap) (by kernel_rfl) (⟨by kernel_rfl, trivial⟩) ⟨(Slc.mk v26.ptr (((l_.len : Nat) : Int).toNat) v26.cap), rfl, h⟩
  · rintro e w' ⟨v, rfl, r0, rfl, h⟩; exact ⟨r0, rfl, h⟩

/-! ### towpath/towpathlaw01.LeftTxns (function 12) -/
noncomputable def c12_0 := (Tryz.f12.body).getD Code.skip
noncomputable def c12_3 := Code.r c12_0
noncomputable def c12_4 := Code.l c12_3
noncomputable def c12_7 := Code.r c12_4
noncomputable def c12_8 := Code.l c12_7
noncomputable def c12_11 := Code.r c12_8
noncomputable def c12_12 := Code.r c12_7
noncomputable def c12_13 := Code.r c12_3
noncomputable def c12_14 := Code.l c12_13
noncomputable def c12_17 := Code.r c12_14
noncomputable def c12_18 := Code.l c12_17
noncomputable def c12_19 := Code.l c12_18
noncomputable def c12_20 := Code.l c12_19
noncomputable def c12_23 := Code.r c12_20
noncomputable def c12_24 := Code.l c12_23
noncomputable def c12_25 := Code.r c12_23
noncomputable def c12_26 := Code.r c12_19
noncomputable def c12_27 := Code.l c12_26
noncomputable def c12_28 := Code.l c12_27
noncomputable def c12_29 := Code.l c12_28
noncomputable def r12_29 := Code.ops c12_29
noncomputable def c12_31 := Code.r c12_28
noncomputable def c12_32 := Code.l c12_31
noncomputable def c12_35 := Code.r c12_32
noncomputable def c12_36 := Code.r c12_31
noncomputable def c12_37 := Code.r c12_26
noncomputable def r12_37 := Code.ops c12_37
noncomputable def c12_39 := Code.r c12_13
noncomputable def c12_40 := Code.l c12_39
noncomputable def r12_40 := Code.ops c12_40
noncomputable def c12_42 := Code.r c12_39
noncomputable def c12_43 := Code.l c12_42
noncomputable def r12_43 := Code.ops c12_43
noncomputable def c12_45 := Code.r c12_42

theorem S_towpathlaw01_LeftTxns {t_ : Slc} {l_ : Slc} {w : World} {R : Bool → World → Prop} (h : F_towpathlaw01_LeftTxns t_ l_ R w) : C_towpathlaw01_LeftTxns t_ l_ w R := by
  unfold F_towpathlaw01_LeftTxns at h
  unfold C_towpathlaw01_LeftTxns
  refine Calls.mono (calls_of_wpE (args := [Value.slice t_.ptr t_.len t_.cap, Value.slice l_.ptr l_.len l_.cap]) (R := fun v w' => ∃ (r0 : Bool), v = Value.bool r0 ∧ R r0 w') Tryz.func12 (c := c12_0) (by kernel_rfl) 47 (by kernel_rfl) (by kernel_rfl) [(0, Value.slice t_.ptr t_.len t_.cap), (1, Value.slice l_.ptr l_.len l_.cap)] (by kernel_rfl) ?_) ?_
  · refine Zp c12_3 P1 [(0, .slice t_.ptr t_.len t_.cap), (1, .slice l_.ptr l_.len l_.cap)] ?_
    refine Zs c12_4 c12_13 ?_
    refine Zp c12_7 [.plain, .plain, .plain, .plain, .plain, .plain, .plain, .plain, .plain, .plain, .plain, .pick] [(0, .slice t_.ptr t_.len t_.cap), (1, .slice l_.ptr l_.len l_.cap), (18, .bool ((((t_.len : Nat) : Int) != ((l_.len : Nat) : Int)) || (decide (((t_.cap : Nat) : Int) ≤ ((l_.len : Nat) : Int)))))] ?_
    refine Zc 18 ((((t_.len : Nat) : Int) != ((l_.len : Nat) : Int)) || (decide (((t_.cap : Nat) : Int) ≤ ((l_.len : Nat) : Int)))) c12_8 c12_12 (fun hb => ?_) (fun hb => ?_)
    · replace h := h.1 hb
      refine Zp c12_11 P1 [(4, .bool false)] ?_
      refine wpE_ret (by kernel_rfl) ?_
      repeat (first | refine seqQ_ret ?_ | refine blockQ_ret ?_ | refine loopQ_ret ?_ | refine cutQ_ret ?_)
      exact retS (rs := [(ResultVar.tmp 4)]) (v := Value.bool false) (by kernel_rfl) (⟨by kernel_rfl, trivial⟩) ⟨false, rfl, h⟩
    · replace h := h.2 hb
      refine wpE_skip (by kernel_rfl) ?_
      change WpE _ _ c12_13 _ _ _
      refine Zs c12_14 c12_39 ?_
      refine Zp c12_17 P1 [(0, .slice t_.ptr t_.len t_.cap), (1, .slice l_.ptr l_.len l_.cap), (5, .int .i64 0)] ?_
      refine Zb 0 c12_18 ?_
      obtain ⟨I, μ, h0, hr⟩ := h
      refine wpE_loop (x := c12_19) (by kernel_rfl) (fun m l w => ∃ (i : Int), l = [(0, Value.slice t_.ptr t_.len t_.cap), (1, Value.slice l_.ptr l_.len l_.cap), (5, Value.int .i64 i)] ∧ I i w ∧ μ i w = m) (l' := [(0, Value.slice t_.ptr t_.len t_.cap), (1, Value.slice l_.ptr l_.len l_.cap), (5, Value.int .i64 0)]) (Sub.mk (by kernel_rfl)) ⟨0, rfl, h0, rfl⟩ ?_
      rintro _ _ w1 ⟨i, rfl, hI, rfl⟩
      obtain ⟨again_, again__h, h⟩ : ∃ again_ : Int → World → Prop, (∀ i' w', again_ i' w' → I i' w' ∧ μ i' w' < μ i w1) ∧ F_towpathlaw01_LeftTxns_L0 t_ l_ R again_ i w1 := ⟨_, fun _ _ h => h, hr i w1 hI⟩
      clear h0 hI
      unfold F_towpathlaw01_LeftTxns_L0 at h
      refine Zs c12_20 c12_26 ?_
      refine Zp c12_23 P4 [(0, .slice t_.ptr t_.len t_.cap), (1, .slice l_.ptr l_.len l_.cap), (5, .int .i64 i), (22, .bool (decide (i < ((l_.len : Nat) : Int))))] ?_
      refine Zc 22 (decide (i < ((l_.len : Nat) : Int))) c12_24 c12_25 (fun hb => ?_) (fun hb => ?_)
      · replace h := h.1 hb
        refine wpE_skip (by kernel_rfl) ?_
        change WpE _ _ c12_26 _ _ _
        refine Zs c12_27 c12_37 ?_
        refine Zb 1 c12_28 ?_
        refine Zs c12_29 c12_31 ?_
        refine wpE_drawregion (id := 6) (ops := r12_29) (by kernel_rfl) (by kernel_rfl) (by kernel_rfl) ?_
        refine qreg_run P2 2 [(0, [], Value.slice t_.ptr t_.len t_.cap), (1, [], Value.slice l_.ptr l_.len l_.cap), (5, [], Value.int .i64 i), (25, [], Value.slice t_.ptr t_.len t_.cap), (26, [], Value.int .i64 i)] (by kernel_rfl) (by kernel_rfl) ?_
        obtain ⟨hp_14, h⟩ := h
        refine qreg_conv [(0, [], Value.slice t_.ptr t_.len t_.cap), (1, [], Value.slice l_.ptr l_.len l_.cap), (5, [], Value.int .i64 i), (25, [], Value.slice (some ⟨(pblk t_.ptr), (poff t_.ptr), none⟩) t_.len t_.cap), (26, [], Value.int .i64 i)] (congrArg (fun pp => ([(0, [], Value.slice t_.ptr t_.len t_.cap), (1, [], Value.slice l_.ptr l_.len l_.cap), (5, [], Value.int .i64 i), (25, [], Value.slice pp t_.len t_.cap), (26, [], Value.int .i64 i)] : GEnv)) hp_14) ?_
        obtain ⟨h0, h1, h⟩ := h
        refine qreg_indexS (t := 22) (e := 52) (x := (Operand.tmp 25)) (ix := (Operand.tmp 26)) (b := (pblk t_.ptr)) (o := (poff t_.ptr)) (l := t_.len) (c := t_.cap) (k := .i64) (j := i) (ty := 0) (dst := some 27) (sz := 2) (by kernel_rfl) (by kernel_rfl) (by kernel_rfl) (by kernel_rfl) (by kernel_rfl) h0 h1 ?_
        refine qreg_run [] 3 [(0, [], Value.slice t_.ptr t_.len t_.cap), (1, [], Value.slice l_.ptr l_.len l_.cap), (5, [], Value.int .i64 i), (27, [], Value.pointer (some ⟨(pblk t_.ptr), (poff t_.ptr) + i.toNat * 2, none⟩))] (by kernel_rfl) (by kernel_rfl) ?_
        obtain ⟨v28, hc, h⟩ := h
        refine qreg_loadN (t := 52) (a := (Operand.tmp 27)) (b := (pblk t_.ptr)) (o := ((poff t_.ptr) + i.toNat * 2)) (ty := 52) (dst := some 28) [Value.int .i64 v28.Number, Value.slice v28.Writes.ptr v28.Writes.len v28.Writes.cap] (by kernel_rfl) (by kernel_rfl) (by kernel_rfl) (k := 2) (by kernel_rfl) (by kernel_rfl) hc ?_
        refine qreg_run P2 6 [(0, [], Value.slice t_.ptr t_.len t_.cap), (1, [], Value.slice l_.ptr l_.len l_.cap), (5, [], Value.int .i64 i), (28, [], Value.agg #[Value.int .i64 v28.Number, Value.slice v28.Writes.ptr v28.Writes.len v28.Writes.cap]), (29, [], Value.slice l_.ptr l_.len l_.cap), (30, [], Value.int .i64 i)] (by kernel_rfl) (by kernel_rfl) ?_
        obtain ⟨hp_15, h⟩ := h
        refine qreg_conv [(0, [], Value.slice t_.ptr t_.len t_.cap), (1, [], Value.slice l_.ptr l_.len l_.cap), (5, [], Value.int .i64 i), (28, [], Value.agg #[Value.int .i64 v28.Number, Value.slice v28.Writes.ptr v28.Writes.len v28.Writes.cap]), (29, [], Value.slice (some ⟨(pblk l_.ptr), (poff l_.ptr), none⟩) l_.len l_.cap), (30, [], Value.int .i64 i)] (congrArg (fun pp => ([(0, [], Value.slice t_.ptr t_.len t_.cap), (1, [], Value.slice l_.ptr l_.len l_.cap), (5, [], Value.int .i64 i), (28, [], Value.agg #[Value.int .i64 v28.Number, Value.slice v28.Writes.ptr v28.Writes.len v28.Writes.cap]), (29, [], Value.slice pp l_.len l_.cap), (30, [], Value.int .i64 i)] : GEnv)) hp_15) ?_
        obtain ⟨h0, h1, h⟩ := h
        refine qreg_indexS (t := 22) (e := 52) (x := (Operand.tmp 29)) (ix := (Operand.tmp 30)) (b := (pblk l_.ptr)) (o := (poff l_.ptr)) (l := l_.len) (c := l_.cap) (k := .i64) (j := i) (ty := 0) (dst := some 31) (sz := 2) (by kernel_rfl) (by kernel_rfl) (by kernel_rfl) (by kernel_rfl) (by kernel_rfl) h0 h1 ?_
        refine qreg_run [] 7 [(0, [], Value.slice t_.ptr t_.len t_.cap), (1, [], Value.slice l_.ptr l_.len l_.cap), (5, [], Value.int .i64 i), (28, [], Value.agg #[Value.int .i64 v28.Number, Value.slice v28.Writes.ptr v28.Writes.len v28.Writes.cap]), (31, [], Value.pointer (some ⟨(pblk l_.ptr), (poff l_.ptr) + i.toNat * 2, none⟩))] (by kernel_rfl) (by kernel_rfl) ?_
        obtain ⟨v32, hc, h⟩ := h
        refine qreg_loadN (t := 52) (a := (Operand.tmp 31)) (b := (pblk l_.ptr)) (o := ((poff l_.ptr) + i.toNat * 2)) (ty := 52) (dst := some 32) [Value.int .i64 v32.Number, Value.slice v32.Writes.ptr v32.Writes.len v32.Writes.cap] (by kernel_rfl) (by kernel_rfl) (by kernel_rfl) (k := 2) (by kernel_rfl) (by kernel_rfl) hc ?_
        refine qreg_run [] 8 [(0, [], Value.slice t_.ptr t_.len t_.cap), (1, [], Value.slice l_.ptr l_.len l_.cap), (5, [], Value.int .i64 i), (28, [], Value.agg #[Value.int .i64 v28.Number, Value.slice v28.Writes.ptr v28.Writes.len v28.Writes.cap]), (32, [], Value.agg #[Value.int .i64 v32.Number, Value.slice v32.Writes.ptr v32.Writes.len v32.Writes.cap])] (by kernel_rfl) (by kernel_rfl) ?_
        obtain ⟨v33, hq, h⟩ := h
        refine qreg_enter (op := (Op.call (Call.mk (Callee.value (Operand.func 48)) #[(Operand.tmp 28), (Operand.tmp 32)] #[52, 52]))) (ty := 4) (dst := some 33) 48 #[Value.agg #[Value.int .i64 v28.Number, Value.slice v28.Writes.ptr v28.Writes.len v28.Writes.cap], Value.agg #[Value.int .i64 v32.Number, Value.slice v32.Writes.ptr v32.Writes.len v32.Writes.cap]] (Value.bool v33) (by kernel_rfl) (fun ww => by kernel_rfl) (fun w' he => Calls.mono (hq w' he) (by rintro _ w'' ⟨_, rfl, rfl, hE⟩; exact ⟨rfl, hE⟩)) ?_
        clear hq
        refine qreg_run P1 10 [(0, [], Value.slice t_.ptr t_.len t_.cap), (1, [], Value.slice l_.ptr l_.len l_.cap), (5, [], Value.int .i64 i), (34, [], Value.bool (!v33))] (by kernel_rfl) (by kernel_rfl) ?_
        refine qreg_end [(0, Value.slice t_.ptr t_.len t_.cap), (1, Value.slice l_.ptr l_.len l_.cap), (5, Value.int .i64 i), (34, Value.bool (!v33))] (by kernel_rfl) (by kernel_rfl) (fun w3 hw => ?_)
        replace h := h w3 hw
        clear hw
        change WpE _ _ c12_31 _ _ _
        refine Zc 34 (!v33) c12_32 c12_36 (fun hb => ?_) (fun hb => ?_)
        · replace h := h.1 hb
          refine Zp c12_35 P1 [(4, .bool false)] ?_
          refine wpE_ret (by kernel_rfl) ?_
          repeat (first | refine seqQ_ret ?_ | refine blockQ_ret ?_ | refine loopQ_ret ?_ | refine cutQ_ret ?_)
          exact retS (rs := [(ResultVar.tmp 4)]) (v := Value.bool false) (by kernel_rfl) (⟨by kernel_rfl, trivial⟩) ⟨false, rfl, h⟩
        · replace h := h.2 hb
          refine wpE_skip (by kernel_rfl) ?_
          change WpE _ _ c12_37 _ _ _
          refine Zr r12_37 ?_
          refine Zf P3 [(0, .slice t_.ptr t_.len t_.cap), (1, .slice l_.ptr l_.len l_.cap), (5, .int .i64 (IntKind.i64.wrap (i + 1)))] ?_
          have hb_ := again__h _ _ h
          exact ⟨_, hb_.2, [(0, Value.slice t_.ptr t_.len t_.cap), (1, Value.slice l_.ptr l_.len l_.cap), (5, Value.int .i64 (IntKind.i64.wrap (i + 1)))], Sub.mk (by kernel_rfl), (IntKind.i64.wrap (i + 1)), rfl, hb_.1, rfl⟩
      · replace h := h.2 hb
        refine wpE_exit (id := 0) (by kernel_rfl) ?_
        change WpE _ _ c12_39 _ _ _
        refine Zt r12_40 c12_42 ?_
        refine Zn P4 4 [(1, [], .slice l_.ptr l_.len l_.cap), (35, [], .slice t_.ptr t_.len t_.cap), (38, [], .int .i64 (IntKind.i64.wrap (((l_.len : Nat) : Int) + 1)))] ?_
        obtain ⟨h0, h1, h⟩ := h
        refine reg_sliceHi (t := 22) (e := 52) (x := (Operand.tmp 35)) (hi := (Operand.tmp 38)) (p := t_.ptr) (l := t_.len) (c := t_.cap) (sz := 2) (k := .i64) (j := (IntKind.i64.wrap (((l_.len : Nat) : Int) + 1))) (ty := 22) (dst := some 39) (by kernel_rfl) (by kernel_rfl) (by kernel_rfl) (by kernel_rfl) (by kernel_rfl) h0 h1 ?_
        refine Zn P2 7 [(39, [], .slice t_.ptr ((IntKind.i64.wrap (((l_.len : Nat) : Int) + 1)).toNat) t_.cap), (41, [], .int .i64 ((l_.len : Nat) : Int))] ?_
        obtain ⟨hp_17, h⟩ := h
        refine Zv (fun pp => [(39, [], .slice pp ((IntKind.i64.wrap (((l_.len : Nat) : Int) + 1)).toNat) t_.cap), (41, [], .int .i64 ((l_.len : Nat) : Int))]) hp_17 ?_
        obtain ⟨h0, h1, h⟩ := h
        refine Zj 22 52 39 41 (pblk t_.ptr) (poff t_.ptr) ((IntKind.i64.wrap (((l_.len : Nat) : Int) + 1)).toNat) t_.cap ((l_.len : Nat) : Int) 2 42 0 h0 h1 ?_
        refine Zn [] 8 [(42, [], .pointer (some ⟨(pblk t_.ptr), (poff t_.ptr) + ((l_.len : Nat) : Int).toNat * 2, none⟩))] ?_
        obtain ⟨v43, hc, h⟩ := h
        refine reg_loadN (t := 52) (a := (Operand.tmp 42)) (b := (pblk t_.ptr)) (o := ((poff t_.ptr) + ((l_.len : Nat) : Int).toNat * 2)) (ty := 52) (dst := some 43) [Value.int .i64 v43.Number, Value.slice v43.Writes.ptr v43.Writes.len v43.Writes.cap] (by kernel_rfl) (by kernel_rfl) (by kernel_rfl) (k := 2) (by kernel_rfl) (by kernel_rfl) hc ?_
        refine Zn [] 9 [(43, [], .agg #[.int .i64 v43.Number, .slice v43.Writes.ptr v43.Writes.len v43.Writes.cap])] ?_
        refine Zw (some 6) (fun bb => .pointer (some ⟨bb, 0, none⟩)) (Obj.cells ([.int .i64 0, .slice none 0 0]).toArray ty_api_Txn (0, 0)) (fun b_ w4 hb hw => ?_)
        replace h := h b_ w4 hb hw
        clear hb hw
        refine Zn [] 10 [(6, [], .pointer (some ⟨b_, 0, none⟩)), (43, [], .agg #[.int .i64 v43.Number, .slice v43.Writes.ptr v43.Writes.len v43.Writes.cap])] ?_
        obtain ⟨hc, h⟩ := h
        refine Zo 52 6 43 b_ 0 2 [.int .i64 v43.Number, .slice v43.Writes.ptr v43.Writes.len v43.Writes.cap] hc (fun w5 hw => ?_)
        replace h := h w5 hw
        clear hw
        refine Ze [(6, .pointer (some ⟨b_, 0, none⟩))] ?_
        change WpE _ _ c12_42 _ _ _
        refine Zt r12_43 c12_45 ?_
        refine Zn P1 1 [(44, [], .pointer (some ⟨b_, 0, none⟩))] ?_
        obtain ⟨v45, hc, h⟩ := h
        refine Zl 3 44 b_ 0 3 45 hc ?_
        refine Zf P2 [(4, .bool (v45 == 7777))] ?_
        change WpE _ _ c12_45 _ _ _
        refine wpE_ret (by kernel_rfl) ?_
        repeat (first | refine seqQ_ret ?_ | refine blockQ_ret ?_ | refine loopQ_ret ?_ | refine cutQ_ret ?_)
        exact retS (rs := [(ResultVar.tmp 4)]) (v := Value.bool (v45 == 7777)) (by kernel_rfl) (⟨by kernel_rfl, trivial⟩) ⟨(v45 == 7777), rfl, h⟩
  · rintro e w' ⟨v, rfl, r0, rfl, h⟩; exact ⟨r0, rfl, h⟩

/-! ### (*towpath/towpathlaw01.Book).Txns (function 13) -/
noncomputable def c13_0 := (Tryz.f13.body).getD Code.skip
noncomputable def c13_1 := Code.l c13_0
noncomputable def c13_4 := Code.r c13_1
noncomputable def c13_5 := Code.l c13_4
noncomputable def c13_6 := Code.l c13_5
noncomputable def c13_7 := Code.l c13_6
noncomputable def c13_10 := Code.r c13_7
noncomputable def c13_11 := Code.l c13_10
noncomputable def c13_12 := Code.r c13_10
noncomputable def c13_13 := Code.r c13_6
noncomputable def c13_14 := Code.l c13_13
noncomputable def c13_15 := Code.l c13_14
noncomputable def r13_15 := Code.ops c13_15
noncomputable def c13_17 := Code.r c13_13
noncomputable def r13_17 := Code.ops c13_17
noncomputable def c13_19 := Code.r c13_0
noncomputable def r13_19 := Code.ops c13_19

theorem S_towpathlaw01_Book_Txns {b_ : Option Addr} {l_ : Slc} {w : World} {R : World → Prop} (h : F_towpathlaw01_Book_Txns b_ l_ R w) : C_towpathlaw01_Book_Txns b_ l_ w R := by
  unfold F_towpathlaw01_Book_Txns at h
  unfold C_towpathlaw01_Book_Txns
  refine Calls.mono (calls_of_wpE (args := [Value.pointer b_, Value.slice l_.ptr l_.len l_.cap]) (R := fun v w' => v = Value.tuple #[] ∧ R w') Tryz.func13 (c := c13_0) (by kernel_rfl) 20 (by kernel_rfl) (by kernel_rfl) [(0, Value.pointer b_), (1, Value.slice l_.ptr l_.len l_.cap)] (by kernel_rfl) ?_) ?_
  · refine Zs c13_1 c13_19 ?_
    refine Zp c13_4 P1 [(0, .pointer b_), (1, .slice l_.ptr l_.len l_.cap), (4, .int .i64 0)] ?_
    refine Zb 0 c13_5 ?_
    obtain ⟨I, μ, h0, hr⟩ := h
    refine wpE_loop (x := c13_6) (by kernel_rfl) (fun m l w => ∃ (i : Int), l = [(0, Value.pointer b_), (1, Value.slice l_.ptr l_.len l_.cap), (4, Value.int .i64 i)] ∧ I i w ∧ μ i w = m) (l' := [(0, Value.pointer b_), (1, Value.slice l_.ptr l_.len l_.cap), (4, Value.int .i64 0)]) (Sub.mk (by kernel_rfl)) ⟨0, rfl, h0, rfl⟩ ?_
    rintro _ _ w1 ⟨i, rfl, hI, rfl⟩
    obtain ⟨again_, again__h, h⟩ : ∃ again_ : Int → World → Prop, (∀ i' w', again_ i' w' → I i' w' ∧ μ i' w' < μ i w1) ∧ F_towpathlaw01_Book_Txns_L0 b_ l_ R again_ i w1 := ⟨_, fun _ _ h => h, hr i w1 hI⟩
    clear h0 hI
    unfold F_towpathlaw01_Book_Txns_L0 at h
    refine Zs c13_7 c13_13 ?_
    refine Zp c13_10 P4 [(0, .pointer b_), (1, .slice l_.ptr l_.len l_.cap), (4, .int .i64 i), (8, .bool (decide (i < ((l_.len : Nat) : Int))))] ?_
    refine Zc 8 (decide (i < ((l_.len : Nat) : Int))) c13_11 c13_12 (fun hb => ?_) (fun hb => ?_)
    · replace h := h.1 hb
      refine wpE_skip (by kernel_rfl) ?_
      change WpE _ _ c13_13 _ _ _
      refine Zs c13_14 c13_17 ?_
      refine Zb 1 c13_15 ?_
      refine Zr r13_15 ?_
      refine Zn P3 3 [(0, [], .pointer b_), (1, [], .slice l_.ptr l_.len l_.cap), (4, [], .int .i64 i), (11, [], .pointer b_), (12, [], .slice l_.ptr l_.len l_.cap), (13, [], .int .i64 i)] ?_
      obtain ⟨hp_3, h⟩ := h
      refine Zv (fun pp => [(0, [], .pointer b_), (1, [], .slice l_.ptr l_.len l_.cap), (4, [], .int .i64 i), (11, [], .pointer b_), (12, [], .slice pp l_.len l_.cap), (13, [], .int .i64 i)]) hp_3 ?_
      obtain ⟨h0, h1, h⟩ := h
      refine Zj 22 52 12 13 (pblk l_.ptr) (poff l_.ptr) l_.len l_.cap i 2 14 0 h0 h1 ?_
      refine Zn [] 4 [(0, [], .pointer b_), (1, [], .slice l_.ptr l_.len l_.cap), (4, [], .int .i64 i), (11, [], .pointer b_), (14, [], .pointer (some ⟨(pblk l_.ptr), (poff l_.ptr) + i.toNat * 2, none⟩))] ?_
      obtain ⟨v15, hc, h⟩ := h
      refine reg_loadN (t := 52) (a := (Operand.tmp 14)) (b := (pblk l_.ptr)) (o := ((poff l_.ptr) + i.toNat * 2)) (ty := 52) (dst := some 15) [Value.int .i64 v15.Number, Value.slice v15.Writes.ptr v15.Writes.len v15.Writes.cap] (by kernel_rfl) (by kernel_rfl) (by kernel_rfl) (k := 2) (by kernel_rfl) (by kernel_rfl) hc ?_
      refine Zn [] 5 [(0, [], .pointer b_), (1, [], .slice l_.ptr l_.len l_.cap), (4, [], .int .i64 i), (11, [], .pointer b_), (15, [], .agg #[.int .i64 v15.Number, .slice v15.Writes.ptr v15.Writes.len v15.Writes.cap])] ?_
      refine Zm 20 #[.pointer b_, .agg #[.int .i64 v15.Number, .slice v15.Writes.ptr v15.Writes.len v15.Writes.cap]] (some 16) (Calls.mono h ?_)
      rintro _ w2 ⟨rfl, h⟩
      refine ⟨_, rfl, ?_⟩
      refine Ze [(0, .pointer b_), (1, .slice l_.ptr l_.len l_.cap), (4, .int .i64 i)] ?_
      change WpE _ _ c13_17 _ _ _
      refine Zr r13_17 ?_
      refine Zf P3 [(0, .pointer b_), (1, .slice l_.ptr l_.len l_.cap), (4, .int .i64 (IntKind.i64.wrap (i + 1)))] ?_
      have hb_ := again__h _ _ h
      exact ⟨_, hb_.2, [(0, Value.pointer b_), (1, Value.slice l_.ptr l_.len l_.cap), (4, Value.int .i64 (IntKind.i64.wrap (i + 1)))], Sub.mk (by kernel_rfl), (IntKind.i64.wrap (i + 1)), rfl, hb_.1, rfl⟩
    · replace h := h.2 hb
      refine wpE_exit (id := 0) (by kernel_rfl) ?_
      change WpE _ _ c13_19 _ _ _
      refine Zr r13_19 ?_
      refine Zn P2 2 [(17, [], .pointer b_), (18, [], .slice l_.ptr l_.len l_.cap)] ?_
      refine Zm 49 #[.pointer b_, .slice l_.ptr l_.len l_.cap] (some 19) (Calls.mono h ?_)
      rintro _ w3 ⟨rfl, h⟩
      refine ⟨_, rfl, ?_⟩
      refine Ze [] ?_
      repeat (first | refine seqQ_exit ?_ | refine loopQ_exit ?_ | refine cutQ_exit ?_ | refine blockQ_hit ?_ | refine blockQ_miss (by kernel_rfl) ?_)
      refine retQ_normal ?_
      repeat (first | refine seqQ_ret ?_ | refine blockQ_ret ?_ | refine loopQ_ret ?_ | refine cutQ_ret ?_)
      exact retT (rs := []) (vs := []) (by kernel_rfl) (trivial) (by kernel_rfl) ⟨rfl, h⟩
  · rintro e w' ⟨v, rfl, rfl, h⟩; exact ⟨rfl, h⟩

/-! ### (*towpath/towpathlaw01.Book).Apart (function 14) -/
noncomputable def c14_0 := (Tryz.f14.body).getD Code.skip
noncomputable def c14_3 := Code.r c14_0
noncomputable def c14_4 := Code.l c14_3
noncomputable def r14_4 := Code.ops c14_4
noncomputable def c14_6 := Code.r c14_3
noncomputable def c14_7 := Code.l c14_6
noncomputable def r14_7 := Code.ops c14_7
noncomputable def c14_9 := Code.r c14_6
noncomputable def c14_10 := Code.l c14_9
noncomputable def r14_10 := Code.ops c14_10
noncomputable def c14_12 := Code.r c14_9
noncomputable def c14_13 := Code.l c14_12
noncomputable def r14_13 := Code.ops c14_13
noncomputable def c14_15 := Code.r c14_12
noncomputable def c14_16 := Code.l c14_15
noncomputable def r14_16 := Code.ops c14_16
noncomputable def c14_18 := Code.r c14_15
noncomputable def c14_19 := Code.l c14_18
noncomputable def r14_19 := Code.ops c14_19
noncomputable def c14_21 := Code.r c14_18
noncomputable def c14_22 := Code.l c14_21
noncomputable def r14_22 := Code.ops c14_22
noncomputable def c14_24 := Code.r c14_21
noncomputable def c14_25 := Code.l c14_24
noncomputable def r14_25 := Code.ops c14_25
noncomputable def c14_27 := Code.r c14_24
noncomputable def c14_28 := Code.l c14_27
noncomputable def r14_28 := Code.ops c14_28
noncomputable def c14_30 := Code.r c14_27
noncomputable def c14_31 := Code.l c14_30
noncomputable def r14_31 := Code.ops c14_31
noncomputable def c14_33 := Code.r c14_30
noncomputable def c14_34 := Code.l c14_33
noncomputable def r14_34 := Code.ops c14_34
noncomputable def c14_36 := Code.r c14_33
noncomputable def c14_37 := Code.l c14_36
noncomputable def r14_37 := Code.ops c14_37
noncomputable def c14_39 := Code.r c14_36
noncomputable def c14_40 := Code.l c14_39
noncomputable def r14_40 := Code.ops c14_40
noncomputable def c14_42 := Code.r c14_39
noncomputable def c14_43 := Code.l c14_42
noncomputable def r14_43 := Code.ops c14_43
noncomputable def c14_45 := Code.r c14_42
noncomputable def c14_46 := Code.l c14_45
noncomputable def r14_46 := Code.ops c14_46
noncomputable def c14_48 := Code.r c14_45
noncomputable def c14_49 := Code.l c14_48
noncomputable def r14_49 := Code.ops c14_49
noncomputable def c14_51 := Code.r c14_48
noncomputable def c14_52 := Code.l c14_51
noncomputable def r14_52 := Code.ops c14_52
noncomputable def c14_54 := Code.r c14_51
noncomputable def c14_55 := Code.l c14_54
noncomputable def r14_55 := Code.ops c14_55
noncomputable def c14_57 := Code.r c14_54
noncomputable def c14_58 := Code.l c14_57
noncomputable def r14_58 := Code.ops c14_58
noncomputable def c14_60 := Code.r c14_57
noncomputable def c14_61 := Code.l c14_60
noncomputable def r14_61 := Code.ops c14_61
noncomputable def c14_63 := Code.r c14_60
noncomputable def c14_64 := Code.l c14_63
noncomputable def r14_64 := Code.ops c14_64
noncomputable def c14_66 := Code.r c14_63
noncomputable def c14_67 := Code.l c14_66
noncomputable def r14_67 := Code.ops c14_67
noncomputable def c14_69 := Code.r c14_66
noncomputable def c14_70 := Code.l c14_69
noncomputable def r14_70 := Code.ops c14_70
noncomputable def c14_72 := Code.r c14_69

theorem S_towpathlaw01_Book_Apart {b_ : Option Addr} {w : World} {R : Bool → World → Prop} (h : F_towpathlaw01_Book_Apart b_ R w) : C_towpathlaw01_Book_Apart b_ w R := by
  unfold F_towpathlaw01_Book_Apart at h
  unfold C_towpathlaw01_Book_Apart
  refine Calls.mono (calls_of_wpE (args := [Value.pointer b_]) (R := fun v w' => ∃ (r0 : Bool), v = Value.bool r0 ∧ R r0 w') Tryz.func14 (c := c14_0) (by kernel_rfl) 89 (by kernel_rfl) (by kernel_rfl) [(0, Value.pointer b_)] (by kernel_rfl) ?_) ?_
  · refine Zp c14_3 P1 [(0, .pointer b_)] ?_
    refine Zt r14_4 c14_6 ?_
    refine Zn P1 1 [(0, [], .pointer b_), (3, [], .pointer b_)] ?_
    refine Zm 50 #[.pointer b_] (some 4) (Calls.mono h ?_)
    rintro _ w1 ⟨rfl, h⟩
    refine ⟨_, rfl, ?_⟩
    refine Ze [(0, .pointer b_)] ?_
    change WpE _ _ c14_6 _ _ _
    refine Zt r14_7 c14_9 ?_
    refine Zn P1 1 [(0, [], .pointer b_), (5, [], .pointer b_)] ?_
    refine Zm 51 #[.pointer b_] (some 6) (Calls.mono h ?_)
    rintro _ w2 ⟨rfl, h⟩
    refine ⟨_, rfl, ?_⟩
    refine Ze [(0, .pointer b_)] ?_
    change WpE _ _ c14_9 _ _ _
    refine Zt r14_10 c14_12 ?_
    refine Zn P1 1 [(0, [], .pointer b_), (7, [], .pointer b_)] ?_
    refine Zm 52 #[.pointer b_] (some 8) (Calls.mono h ?_)
    rintro _ w3 ⟨rfl, h⟩
    refine ⟨_, rfl, ?_⟩
    refine Ze [(0, .pointer b_)] ?_
    change WpE _ _ c14_12 _ _ _
    refine Zt r14_13 c14_15 ?_
    refine Zn P1 1 [(0, [], .pointer b_), (9, [], .pointer b_)] ?_
    refine Zm 53 #[.pointer b_] (some 10) (Calls.mono h ?_)
    rintro _ w4 ⟨rfl, h⟩
    refine ⟨_, rfl, ?_⟩
    refine Ze [(0, .pointer b_)] ?_
    change WpE _ _ c14_15 _ _ _
    refine Zt r14_16 c14_18 ?_
    refine Zn P1 1 [(0, [], .pointer b_), (11, [], .pointer b_)] ?_
    refine Zm 54 #[.pointer b_] (some 12) (Calls.mono h ?_)
    rintro _ w5 ⟨rfl, h⟩
    refine ⟨_, rfl, ?_⟩
    refine Ze [(0, .pointer b_)] ?_
    change WpE _ _ c14_18 _ _ _
    refine Zt r14_19 c14_21 ?_
    refine Zn P1 1 [(0, [], .pointer b_), (13, [], .pointer b_)] ?_
    refine Zm 55 #[.pointer b_] (some 14) (Calls.mono h ?_)
    rintro _ w6 ⟨rfl, h⟩
    refine ⟨_, rfl, ?_⟩
    refine Ze [(0, .pointer b_)] ?_
    change WpE _ _ c14_21 _ _ _
    refine Zt r14_22 c14_24 ?_
    refine Zn P1 1 [(0, [], .pointer b_), (15, [], .pointer b_)] ?_
    refine Zm 56 #[.pointer b_] (some 16) (Calls.mono h ?_)
    rintro _ w7 ⟨rfl, h⟩
    refine ⟨_, rfl, ?_⟩
    refine Ze [(0, .pointer b_)] ?_
    change WpE _ _ c14_24 _ _ _
    refine Zt r14_25 c14_27 ?_
    refine Zn P1 1 [(0, [], .pointer b_), (17, [], .pointer b_)] ?_
    refine Zm 57 #[.pointer b_] (some 18) (Calls.mono h ?_)
    rintro _ w8 ⟨rfl, h⟩
    refine ⟨_, rfl, ?_⟩
    refine Ze [(0, .pointer b_)] ?_
    change WpE _ _ c14_27 _ _ _
    refine Zt r14_28 c14_30 ?_
    refine Zn P1 1 [(0, [], .pointer b_), (19, [], .pointer b_)] ?_
    refine Zm 58 #[.pointer b_] (some 20) (Calls.mono h ?_)
    rintro _ w9 ⟨rfl, h⟩
    refine ⟨_, rfl, ?_⟩
    refine Ze [(0, .pointer b_)] ?_
    change WpE _ _ c14_30 _ _ _
    refine Zt r14_31 c14_33 ?_
    refine Zn P1 1 [(0, [], .pointer b_), (21, [], .pointer b_)] ?_
    refine Zm 59 #[.pointer b_] (some 22) (Calls.mono h ?_)
    rintro _ w10 ⟨rfl, h⟩
    refine ⟨_, rfl, ?_⟩
    refine Ze [(0, .pointer b_)] ?_
    change WpE _ _ c14_33 _ _ _
    refine Zt r14_34 c14_36 ?_
    refine Zn P1 1 [(0, [], .pointer b_), (23, [], .pointer b_)] ?_
    refine Zm 60 #[.pointer b_] (some 24) (Calls.mono h ?_)
    rintro _ w11 ⟨rfl, h⟩
    refine ⟨_, rfl, ?_⟩
    refine Ze [(0, .pointer b_)] ?_
    change WpE _ _ c14_36 _ _ _
    refine Zt r14_37 c14_39 ?_
    refine Zn P1 1 [(0, [], .pointer b_), (25, [], .pointer b_)] ?_
    refine Zm 61 #[.pointer b_] (some 26) (Calls.mono h ?_)
    rintro _ w12 ⟨rfl, h⟩
    refine ⟨_, rfl, ?_⟩
    refine Ze [(0, .pointer b_)] ?_
    change WpE _ _ c14_39 _ _ _
    refine Zt r14_40 c14_42 ?_
    refine Zn P1 1 [(0, [], .pointer b_), (27, [], .pointer b_)] ?_
    refine Zm 62 #[.pointer b_] (some 28) (Calls.mono h ?_)
    rintro _ w13 ⟨rfl, h⟩
    refine ⟨_, rfl, ?_⟩
    refine Ze [(0, .pointer b_)] ?_
    change WpE _ _ c14_42 _ _ _
    refine Zt r14_43 c14_45 ?_
    refine Zn P1 1 [(0, [], .pointer b_), (29, [], .pointer b_)] ?_
    refine Zm 63 #[.pointer b_] (some 30) (Calls.mono h ?_)
    rintro _ w14 ⟨rfl, h⟩
    refine ⟨_, rfl, ?_⟩
    refine Ze [(0, .pointer b_)] ?_
    change WpE _ _ c14_45 _ _ _
    refine Zt r14_46 c14_48 ?_
    refine Zn P1 1 [(0, [], .pointer b_), (31, [], .pointer b_)] ?_
    refine Zm 64 #[.pointer b_] (some 32) (Calls.mono h ?_)
    rintro _ w15 ⟨rfl, h⟩
    refine ⟨_, rfl, ?_⟩
    refine Ze [(0, .pointer b_)] ?_
    change WpE _ _ c14_48 _ _ _
    refine Zt r14_49 c14_51 ?_
    refine Zn P1 1 [(0, [], .pointer b_), (33, [], .pointer b_)] ?_
    refine Zm 65 #[.pointer b_] (some 34) (Calls.mono h ?_)
    rintro _ w16 ⟨rfl, h⟩
    refine ⟨_, rfl, ?_⟩
    refine Ze [(0, .pointer b_)] ?_
    change WpE _ _ c14_51 _ _ _
    refine Zt r14_52 c14_54 ?_
    refine Zn P1 1 [(0, [], .pointer b_), (35, [], .pointer b_)] ?_
    refine Zm 66 #[.pointer b_] (some 36) (Calls.mono h ?_)
    rintro _ w17 ⟨rfl, h⟩
    refine ⟨_, rfl, ?_⟩
    refine Ze [(0, .pointer b_)] ?_
    change WpE _ _ c14_54 _ _ _
    refine Zt r14_55 c14_57 ?_
    refine Zn P1 1 [(0, [], .pointer b_), (37, [], .pointer b_)] ?_
    refine Zm 67 #[.pointer b_] (some 38) (Calls.mono h ?_)
    rintro _ w18 ⟨rfl, h⟩
    refine ⟨_, rfl, ?_⟩
    refine Ze [(0, .pointer b_)] ?_
    change WpE _ _ c14_57 _ _ _
    refine Zt r14_58 c14_60 ?_
    refine Zn P1 1 [(0, [], .pointer b_), (39, [], .pointer b_)] ?_
    refine Zm 68 #[.pointer b_] (some 40) (Calls.mono h ?_)
    rintro _ w19 ⟨rfl, h⟩
    refine ⟨_, rfl, ?_⟩
    refine Ze [(0, .pointer b_)] ?_
    change WpE _ _ c14_60 _ _ _
    refine Zt r14_61 c14_63 ?_
    refine Zn P1 1 [(0, [], .pointer b_), (41, [], .pointer b_)] ?_
    refine Zm 69 #[.pointer b_] (some 42) (Calls.mono h ?_)
    rintro _ w20 ⟨rfl, h⟩
    refine ⟨_, rfl, ?_⟩
    refine Ze [(0, .pointer b_)] ?_
    change WpE _ _ c14_63 _ _ _
    refine Zt r14_64 c14_66 ?_
    refine Zn P1 1 [(0, [], .pointer b_), (43, [], .pointer b_)] ?_
    refine Zm 70 #[.pointer b_] (some 44) (Calls.mono h ?_)
    rintro _ w21 ⟨rfl, h⟩
    refine ⟨_, rfl, ?_⟩
    refine Ze [(0, .pointer b_)] ?_
    change WpE _ _ c14_66 _ _ _
    refine Zt r14_67 c14_69 ?_
    refine Zn P1 1 [(0, [], .pointer b_), (45, [], .pointer b_)] ?_
    refine Zm 71 #[.pointer b_] (some 46) (Calls.mono h ?_)
    rintro _ w22 ⟨rfl, h⟩
    refine ⟨_, rfl, ?_⟩
    refine Ze [(0, .pointer b_)] ?_
    change WpE _ _ c14_69 _ _ _
    refine Zt r14_70 c14_72 ?_
    refine Zn P1 1 [(0, [], .pointer b_), (47, [], .pointer b_)] ?_
    refine Zm 72 #[.pointer b_] (some 48) (Calls.mono h ?_)
    rintro _ w23 ⟨v48, rfl, h⟩
    refine ⟨_, rfl, ?_⟩
    refine Zn P2 4 [(0, [], .pointer b_), (49, [], .bool v48), (50, [(49, true)], .pointer b_)] ?_
    refine reg_split 49 v48 (by kernel_rfl) (fun hb => ?_) (fun hb => ?_)
    · replace h := h.1 hb
      refine Zn [] 4 [(0, [], .pointer b_), (49, [], .bool true), (50, [], .pointer b_)] ?_
      refine Zn [] 4 [(0, [], .pointer b_), (49, [], .bool true), (50, [], .pointer b_)] ?_
      refine Zm 73 #[.pointer b_] (some 51) (Calls.mono h ?_)
      rintro _ w24 ⟨v51, rfl, h⟩
      refine ⟨_, rfl, ?_⟩
      refine Zn P3 8 [(0, [], .pointer b_), (53, [], .bool v51), (54, [(53, true)], .pointer b_)] ?_
      refine reg_split 53 v51 (by kernel_rfl) (fun hb => ?_) (fun hb => ?_)
      · replace h := h.1 hb
        refine Zn [] 8 [(0, [], .pointer b_), (53, [], .bool true), (54, [], .pointer b_)] ?_
        refine Zn [] 8 [(0, [], .pointer b_), (53, [], .bool true), (54, [], .pointer b_)] ?_
        refine Zm 74 #[.pointer b_] (some 55) (Calls.mono h ?_)
        rintro _ w25 ⟨v55, rfl, h⟩
        refine ⟨_, rfl, ?_⟩
        refine Zn P3 12 [(0, [], .pointer b_), (57, [], .bool v55), (58, [(57, true)], .pointer b_)] ?_
        refine reg_split 57 v55 (by kernel_rfl) (fun hb => ?_) (fun hb => ?_)
        · replace h := h.1 hb
          refine Zn [] 12 [(0, [], .pointer b_), (57, [], .bool true), (58, [], .pointer b_)] ?_
          refine Zn [] 12 [(0, [], .pointer b_), (57, [], .bool true), (58, [], .pointer b_)] ?_
          refine Zm 75 #[.pointer b_] (some 59) (Calls.mono h ?_)
          rintro _ w26 ⟨v59, rfl, h⟩
          refine ⟨_, rfl, ?_⟩
          refine Zn P3 16 [(0, [], .pointer b_), (61, [], .bool v59), (62, [(61, true)], .pointer b_)] ?_
          refine reg_split 61 v59 (by kernel_rfl) (fun hb => ?_) (fun hb => ?_)
          · replace h := h.1 hb
            refine Zn [] 16 [(0, [], .pointer b_), (61, [], .bool true), (62, [], .pointer b_)] ?_
            refine Zn [] 16 [(0, [], .pointer b_), (61, [], .bool true), (62, [], .pointer b_)] ?_
            refine Zm 76 #[.pointer b_] (some 63) (Calls.mono h ?_)
            rintro _ w27 ⟨v63, rfl, h⟩
            refine ⟨_, rfl, ?_⟩
            refine Zn P3 20 [(0, [], .pointer b_), (65, [], .bool v63), (66, [(65, true)], .pointer b_)] ?_
            refine reg_split 65 v63 (by kernel_rfl) (fun hb => ?_) (fun hb => ?_)
            · replace h := h.1 hb
              refine Zn [] 20 [(0, [], .pointer b_), (65, [], .bool true), (66, [], .pointer b_)] ?_
              refine Zn [] 20 [(0, [], .pointer b_), (65, [], .bool true), (66, [], .pointer b_)] ?_
              refine Zm 77 #[.pointer b_] (some 67) (Calls.mono h ?_)
              rintro _ w28 ⟨v67, rfl, h⟩
              refine ⟨_, rfl, ?_⟩
              refine Zn P3 24 [(0, [], .pointer b_), (69, [], .bool v67), (70, [(69, true)], .pointer b_)] ?_
              refine reg_split 69 v67 (by kernel_rfl) (fun hb => ?_) (fun hb => ?_)
              · replace h := h.1 hb
                refine Zn [] 24 [(0, [], .pointer b_), (69, [], .bool true), (70, [], .pointer b_)] ?_
                refine Zn [] 24 [(0, [], .pointer b_), (69, [], .bool true), (70, [], .pointer b_)] ?_
                refine Zm 78 #[.pointer b_] (some 71) (Calls.mono h ?_)
                rintro _ w29 ⟨v71, rfl, h⟩
                refine ⟨_, rfl, ?_⟩
                refine Zn P3 28 [(0, [], .pointer b_), (73, [], .bool v71), (74, [(73, true)], .pointer b_)] ?_
                refine reg_split 73 v71 (by kernel_rfl) (fun hb => ?_) (fun hb => ?_)
                · replace h := h.1 hb
                  refine Zn [] 28 [(0, [], .pointer b_), (73, [], .bool true), (74, [], .pointer b_)] ?_
                  refine Zn [] 28 [(0, [], .pointer b_), (73, [], .bool true), (74, [], .pointer b_)] ?_
                  refine Zm 79 #[.pointer b_] (some 75) (Calls.mono h ?_)
                  rintro _ w30 ⟨v75, rfl, h⟩
                  refine ⟨_, rfl, ?_⟩
                  refine Zn P3 32 [(0, [], .pointer b_), (77, [], .bool v75), (78, [(77, true)], .pointer b_)] ?_
                  refine reg_split 77 v75 (by kernel_rfl) (fun hb => ?_) (fun hb => ?_)
                  · replace h := h.1 hb
                    refine Zn [] 32 [(0, [], .pointer b_), (77, [], .bool true), (78, [], .pointer b_)] ?_
                    refine Zn [] 32 [(0, [], .pointer b_), (77, [], .bool true), (78, [], .pointer b_)] ?_
                    refine Zm 80 #[.pointer b_] (some 79) (Calls.mono h ?_)
                    rintro _ w31 ⟨v79, rfl, h⟩
                    refine ⟨_, rfl, ?_⟩
                    refine Zn P3 36 [(0, [], .pointer b_), (81, [], .bool v79), (82, [(81, true)], .pointer b_)] ?_
                    refine reg_split 81 v79 (by kernel_rfl) (fun hb => ?_) (fun hb => ?_)
                    · replace h := h.1 hb
                      refine Zn [] 36 [(0, [], .pointer b_), (81, [], .bool true), (82, [], .pointer b_)] ?_
                      refine Zn [] 36 [(0, [], .pointer b_), (81, [], .bool true), (82, [], .pointer b_)] ?_
                      refine Zm 81 #[.pointer b_] (some 83) (Calls.mono h ?_)
                      rintro _ w32 ⟨v83, rfl, h⟩
                      refine ⟨_, rfl, ?_⟩
                      refine Zn P3 40 [(85, [], .bool v83), (86, [(85, true)], .pointer b_)] ?_
                      refine reg_split 85 v83 (by kernel_rfl) (fun hb => ?_) (fun hb => ?_)
                      · replace h := h.1 hb
                        refine Zn [] 40 [(85, [], .bool true), (86, [], .pointer b_)] ?_
                        refine Zn [] 40 [(85, [], .bool true), (86, [], .pointer b_)] ?_
                        refine Zm 82 #[.pointer b_] (some 87) (Calls.mono h ?_)
                        rintro _ w33 ⟨v87, rfl, h⟩
                        refine ⟨_, rfl, ?_⟩
                        refine Zf P2 [(2, .bool v87)] ?_
                        change WpE _ _ c14_72 _ _ _
                        refine wpE_ret (by kernel_rfl) ?_
                        repeat (first | refine seqQ_ret ?_ | refine blockQ_ret ?_ | refine loopQ_ret ?_ | refine cutQ_ret ?_)
                        exact retS (rs := [(ResultVar.tmp 2)]) (v := Value.bool v87) (by kernel_rfl) (⟨by kernel_rfl, trivial⟩) ⟨v87, rfl, h⟩
                      · replace h := h.2 hb
                        refine Zn [] 40 [(85, [], .bool false), (86, [], undef)] ?_
                        refine Zf [.skip, .plain, .plain] [(2, .bool false)] ?_
                        change WpE _ _ c14_72 _ _ _
                        refine wpE_ret (by kernel_rfl) ?_
                        repeat (first | refine seqQ_ret ?_ | refine blockQ_ret ?_ | refine loopQ_ret ?_ | refine cutQ_ret ?_)
                        exact retS (rs := [(ResultVar.tmp 2)]) (v := Value.bool false) (by kernel_rfl) (⟨by kernel_rfl, trivial⟩) ⟨false, rfl, h⟩
                    · replace h := h.2 hb
                      refine Zn [] 36 [(0, [], .pointer b_), (81, [], .bool false), (82, [], undef)] ?_
                      refine Zf [.skip, .plain, .plain, .skip, .skip, .plain, .plain] [(2, .bool false)] ?_
                      change WpE _ _ c14_72 _ _ _
                      refine wpE_ret (by kernel_rfl) ?_
                      repeat (first | refine seqQ_ret ?_ | refine blockQ_ret ?_ | refine loopQ_ret ?_ | refine cutQ_ret ?_)
                      exact retS (rs := [(ResultVar.tmp 2)]) (v := Value.bool false) (by kernel_rfl) (⟨by kernel_rfl, trivial⟩) ⟨false, rfl, h⟩
                  · replace h := h.2 hb
                    refine Zn [] 32 [(0, [], .pointer b_), (77, [], .bool false), (78, [], undef)] ?_
                    refine Zf [.skip, .plain, .plain, .skip, .skip, .plain, .plain, .skip, .skip, .plain, .plain] [(2, .bool false)] ?_
                    change WpE _ _ c14_72 _ _ _
                    refine wpE_ret (by kernel_rfl) ?_
                    repeat (first | refine seqQ_ret ?_ | refine blockQ_ret ?_ | refine loopQ_ret ?_ | refine cutQ_ret ?_)
                    exact retS (rs := [(ResultVar.tmp 2)]) (v := Value.bool false) (by kernel_rfl) (⟨by kernel_rfl, trivial⟩) ⟨false, rfl, h⟩
                · replace h := h.2 hb
                  refine Zn [] 28 [(0, [], .pointer b_), (73, [], .bool false), (74, [], undef)] ?_
                  refine Zf [.skip, .plain, .plain, .skip, .skip, .plain, .plain, .skip, .skip, .plain, .plain, .skip, .skip, .plain, .plain] [(2, .bool false)] ?_
                  change WpE _ _ c14_72 _ _ _
                  refine wpE_ret (by kernel_rfl) ?_
                  repeat (first | refine seqQ_ret ?_ | refine blockQ_ret ?_ | refine loopQ_ret ?_ | refine cutQ_ret ?_)
                  exact retS (rs := [(ResultVar.tmp 2)]) (v := Value.bool false) (by kernel_rfl) (⟨by kernel_rfl, trivial⟩) ⟨false, rfl, h⟩
              · replace h := h.2 hb
                refine Zn [] 24 [(0, [], .pointer b_), (69, [], .bool false), (70, [], undef)] ?_
                refine Zf [.skip, .plain, .plain, .skip, .skip, .plain, .plain, .skip, .skip, .plain, .plain, .skip, .skip, .plain, .plain, .skip, .skip, .plain, .plain] [(2, .bool false)] ?_
                change WpE _ _ c14_72 _ _ _
                refine wpE_ret (by kernel_rfl) ?_
                repeat (first | refine seqQ_ret ?_ | refine blockQ_ret ?_ | refine loopQ_ret ?_ | refine cutQ_ret ?_)
                exact retS (rs := [(ResultVar.tmp 2)]) (v := Value.bool false) (by kernel_rfl) (⟨by kernel_rfl, trivial⟩) ⟨false, rfl, h⟩
            · replace h := h.2 hb
              refine Zn [] 20 [(0, [], .pointer b_), (65, [], .bool false), (66, [], undef)] ?_
              refine Zf [.skip, .plain, .plain, .skip, .skip, .plain, .plain, .skip, .skip, .plain, .plain, .skip, .skip, .plain, .plain, .skip, .skip, .plain, .plain, .skip, .skip, .plain, .plain] [(2, .bool false)] ?_
              change WpE _ _ c14_72 _ _ _
              refine wpE_ret (by kernel_rfl) ?_
              repeat (first | refine seqQ_ret ?_ | refine blockQ_ret ?_ | refine loopQ_ret ?_ | refine cutQ_ret ?_)
              exact retS (rs := [(ResultVar.tmp 2)]) (v := Value.bool false) (by kernel_rfl) (⟨by kernel_rfl, trivial⟩) ⟨false, rfl, h⟩
          · replace h := h.2 hb
            refine Zn [] 16 [(0, [], .pointer b_), (61, [], .bool false), (62, [], undef)] ?_
            refine Zf [.skip, .plain, .plain, .skip, .skip, .plain, .plain, .skip, .skip, .plain, .plain, .skip, .skip, .plain, .plain, .skip, .skip, .plain, .plain, .skip, .skip, .plain, .plain, .skip, .skip, .plain, .plain] [(2, .bool false)] ?_
            change WpE _ _ c14_72 _ _ _
            refine wpE_ret (by kernel_rfl) ?_
            repeat (first | refine seqQ_ret ?_ | refine blockQ_ret ?_ | refine loopQ_ret ?_ | refine cutQ_ret ?_)
            exact retS (rs := [(ResultVar.tmp 2)]) (v := Value.bool false) (by kernel_rfl) (⟨by kernel_rfl, trivial⟩) ⟨false, rfl, h⟩
        · replace h := h.2 hb
          refine Zn [] 12 [(0, [], .pointer b_), (57, [], .bool false), (58, [], undef)] ?_
          refine Zf [.skip, .plain, .plain, .skip, .skip, .plain, .plain, .skip, .skip, .plain, .plain, .skip, .skip, .plain, .plain, .skip, .skip, .plain, .plain, .skip, .skip, .plain, .plain, .skip, .skip, .plain, .plain, .skip, .skip, .plain, .plain] [(2, .bool false)] ?_
          change WpE _ _ c14_72 _ _ _
          refine wpE_ret (by kernel_rfl) ?_
          repeat (first | refine seqQ_ret ?_ | refine blockQ_ret ?_ | refine loopQ_ret ?_ | refine cutQ_ret ?_)
          exact retS (rs := [(ResultVar.tmp 2)]) (v := Value.bool false) (by kernel_rfl) (⟨by kernel_rfl, trivial⟩) ⟨false, rfl, h⟩
      · replace h := h.2 hb
        refine Zn [] 8 [(0, [], .pointer b_), (53, [], .bool false), (54, [], undef)] ?_
        refine Zf [.skip, .plain, .plain, .skip, .skip, .plain, .plain, .skip, .skip, .plain, .plain, .skip, .skip, .plain, .plain, .skip, .skip, .plain, .plain, .skip, .skip, .plain, .plain, .skip, .skip, .plain, .plain, .skip, .skip, .plain, .plain, .skip, .skip, .plain, .plain] [(2, .bool false)] ?_
        change WpE _ _ c14_72 _ _ _
        refine wpE_ret (by kernel_rfl) ?_
        repeat (first | refine seqQ_ret ?_ | refine blockQ_ret ?_ | refine loopQ_ret ?_ | refine cutQ_ret ?_)
        exact retS (rs := [(ResultVar.tmp 2)]) (v := Value.bool false) (by kernel_rfl) (⟨by kernel_rfl, trivial⟩) ⟨false, rfl, h⟩
    · replace h := h.2 hb
      refine Zn [] 4 [(0, [], .pointer b_), (49, [], .bool false), (50, [], undef)] ?_
      refine Zf [.skip, .plain, .plain, .skip, .skip, .plain, .plain, .skip, .skip, .plain, .plain, .skip, .skip, .plain, .plain, .skip, .skip, .plain, .plain, .skip, .skip, .plain, .plain, .skip, .skip, .plain, .plain, .skip, .skip, .plain, .plain, .skip, .skip, .plain, .plain, .skip, .skip, .plain, .plain] [(2, .bool false)] ?_
      change WpE _ _ c14_72 _ _ _
      refine wpE_ret (by kernel_rfl) ?_
      repeat (first | refine seqQ_ret ?_ | refine blockQ_ret ?_ | refine loopQ_ret ?_ | refine cutQ_ret ?_)
      exact retS (rs := [(ResultVar.tmp 2)]) (v := Value.bool false) (by kernel_rfl) (⟨by kernel_rfl, trivial⟩) ⟨false, rfl, h⟩
  · rintro e w' ⟨v, rfl, r0, rfl, h⟩; exact ⟨r0, rfl, h⟩

/-! ### (*towpath/towpathlaw01.Book).Txn (function 20) -/
noncomputable def c20_0 := (Tryz.f20.body).getD Code.skip
noncomputable def c20_1 := Code.l c20_0
noncomputable def r20_1 := Code.ops c20_1
noncomputable def c20_3 := Code.r c20_0
noncomputable def r20_3 := Code.ops c20_3

theorem S_towpathlaw01_Book_Txn {b_ : Option Addr} {t_ : T_api_Txn} {w : World} {R : World → Prop} (h : F_towpathlaw01_Book_Txn b_ t_ R w) : C_towpathlaw01_Book_Txn b_ t_ w R := by
  unfold F_towpathlaw01_Book_Txn at h
  unfold C_towpathlaw01_Book_Txn
  refine Calls.mono (calls_of_wpE (args := [Value.pointer b_, Value.agg #[Value.int .i64 t_.Number, Value.slice t_.Writes.ptr t_.Writes.len t_.Writes.cap]]) (R := fun v w' => v = Value.tuple #[] ∧ R w') Tryz.func20 (c := c20_0) (by kernel_rfl) 8 (by kernel_rfl) (by kernel_rfl) [(0, Value.pointer b_), (1, Value.agg #[Value.int .i64 t_.Number, Value.slice t_.Writes.ptr t_.Writes.len t_.Writes.cap])] (by kernel_rfl) ?_) ?_
  · refine Zt r20_1 c20_3 ?_
    refine Zn [] 0 [(0, [], .pointer b_), (1, [], .agg #[.int .i64 t_.Number, .slice t_.Writes.ptr t_.Writes.len t_.Writes.cap])] ?_
    refine Zw (some 3) (fun bb => .pointer (some ⟨bb, 0, none⟩)) (Obj.cells ([.int .i64 t_.Number, .slice t_.Writes.ptr t_.Writes.len t_.Writes.cap]).toArray ty_api_Txn (0, 0)) (fun b_1 w1 hb hw => ?_)
    replace h := h b_1 w1 hb hw
    clear hb hw
    refine Ze [(0, .pointer b_), (3, .pointer (some ⟨b_1, 0, none⟩))] ?_
    change WpE _ _ c20_3 _ _ _
    refine Zr r20_3 ?_
    refine Zn P2 2 [(4, [], .pointer b_), (5, [], .pointer (some ⟨b_1, 1, none⟩))] ?_
    obtain ⟨v6, hc, h⟩ := h
    refine Zl 50 5 b_1 1 50 6 hc ?_
    refine Zn [] 3 [(4, [], .pointer b_), (6, [], .slice v6.ptr v6.len v6.cap)] ?_
    refine Zm 84 #[.pointer b_, .slice v6.ptr v6.len v6.cap] (some 7) (Calls.mono h ?_)
    rintro _ w2 ⟨rfl, h⟩
    refine ⟨_, rfl, ?_⟩
    refine Ze [] ?_
    repeat (first | refine seqQ_exit ?_ | refine loopQ_exit ?_ | refine cutQ_exit ?_ | refine blockQ_hit ?_ | refine blockQ_miss (by kernel_rfl) ?_)
    refine retQ_normal ?_
    repeat (first | refine seqQ_ret ?_ | refine blockQ_ret ?_ | refine loopQ_ret ?_ | refine cutQ_ret ?_)
    exact retT (rs := []) (vs := []) (by kernel_rfl) (trivial) (by kernel_rfl) ⟨rfl, h⟩
  · rintro e w' ⟨v, rfl, rfl, h⟩; exact ⟨rfl, h⟩

/-! ### towpath/towpathlaw01.SameBytes (function 36) -/
noncomputable def c36_0 := (Tryz.f36.body).getD Code.skip
noncomputable def c36_3 := Code.r c36_0
noncomputable def c36_4 := Code.l c36_3
noncomputable def c36_7 := Code.r c36_4
noncomputable def c36_8 := Code.l c36_7
noncomputable def c36_11 := Code.r c36_8
noncomputable def c36_12 := Code.r c36_7
noncomputable def c36_13 := Code.r c36_3
noncomputable def c36_14 := Code.l c36_13
noncomputable def c36_17 := Code.r c36_14
noncomputable def c36_18 := Code.l c36_17
noncomputable def c36_19 := Code.l c36_18
noncomputable def c36_20 := Code.l c36_19
noncomputable def c36_23 := Code.r c36_20
noncomputable def c36_24 := Code.l c36_23
noncomputable def c36_25 := Code.r c36_23
noncomputable def c36_26 := Code.r c36_19
noncomputable def c36_27 := Code.l c36_26
noncomputable def c36_28 := Code.l c36_27
noncomputable def c36_29 := Code.l c36_28
noncomputable def r36_29 := Code.ops c36_29
noncomputable def c36_31 := Code.r c36_28
noncomputable def c36_32 := Code.l c36_31
noncomputable def c36_35 := Code.r c36_32
noncomputable def c36_36 := Code.r c36_31
noncomputable def c36_37 := Code.r c36_26
noncomputable def r36_37 := Code.ops c36_37
noncomputable def c36_39 := Code.r c36_13
noncomputable def c36_42 := Code.r c36_39

theorem S_towpathlaw01_SameBytes {a_ : Slc} {b_ : Slc} {w : World} {R : Bool → World → Prop} (h : F_towpathlaw01_SameBytes a_ b_ R w) : C_towpathlaw01_SameBytes a_ b_ w R := by
  unfold F_towpathlaw01_SameBytes at h
  unfold C_towpathlaw01_SameBytes
  refine Calls.mono (calls_of_wpE (args := [Value.slice a_.ptr a_.len a_.cap, Value.slice b_.ptr b_.len b_.cap]) (R := fun v w' => ∃ (r0 : Bool), v = Value.bool r0 ∧ R r0 w') Tryz.func36 (c := c36_0) (by kernel_rfl) 26 (by kernel_rfl) (by kernel_rfl) [(0, Value.slice a_.ptr a_.len a_.cap), (1, Value.slice b_.ptr b_.len b_.cap)] (by kernel_rfl) ?_) ?_
  · refine Zp c36_3 P1 [(0, .slice a_.ptr a_.len a_.cap), (1, .slice b_.ptr b_.len b_.cap)] ?_
    refine Zs c36_4 c36_13 ?_
    refine Zp c36_7 (Pl 5) [(0, .slice a_.ptr a_.len a_.cap), (1, .slice b_.ptr b_.len b_.cap), (10, .bool (((a_.len : Nat) : Int) != ((b_.len : Nat) : Int)))] ?_
    refine Zc 10 (((a_.len : Nat) : Int) != ((b_.len : Nat) : Int)) c36_8 c36_12 (fun hb => ?_) (fun hb => ?_)
    · replace h := h.1 hb
      refine Zp c36_11 P1 [(4, .bool false)] ?_
      refine wpE_ret (by kernel_rfl) ?_
      repeat (first | refine seqQ_ret ?_ | refine blockQ_ret ?_ | refine loopQ_ret ?_ | refine cutQ_ret ?_)
      exact retS (rs := [(ResultVar.tmp 4)]) (v := Value.bool false) (by kernel_rfl) (⟨by kernel_rfl, trivial⟩) ⟨false, rfl, h⟩
    · replace h := h.2 hb
      refine wpE_skip (by kernel_rfl) ?_
      change WpE _ _ c36_13 _ _ _
      refine Zs c36_14 c36_39 ?_
      refine Zp c36_17 P1 [(0, .slice a_.ptr a_.len a_.cap), (1, .slice b_.ptr b_.len b_.cap), (5, .int .i64 0)] ?_
      refine Zb 0 c36_18 ?_
      obtain ⟨I, μ, h0, hr⟩ := h
      refine wpE_loop (x := c36_19) (by kernel_rfl) (fun m l w => ∃ (i : Int), l = [(0, Value.slice a_.ptr a_.len a_.cap), (1, Value.slice b_.ptr b_.len b_.cap), (5, Value.int .i64 i)] ∧ I i w ∧ μ i w = m) (l' := [(0, Value.slice a_.ptr a_.len a_.cap), (1, Value.slice b_.ptr b_.len b_.cap), (5, Value.int .i64 0)]) (Sub.mk (by kernel_rfl)) ⟨0, rfl, h0, rfl⟩ ?_
      rintro _ _ w1 ⟨i, rfl, hI, rfl⟩
      obtain ⟨again_, again__h, h⟩ : ∃ again_ : Int → World → Prop, (∀ i' w', again_ i' w' → I i' w' ∧ μ i' w' < μ i w1) ∧ F_towpathlaw01_SameBytes_L0 a_ b_ R again_ i w1 := ⟨_, fun _ _ h => h, hr i w1 hI⟩
      clear h0 hI
      unfold F_towpathlaw01_SameBytes_L0 at h
      refine Zs c36_20 c36_26 ?_
      refine Zp c36_23 P4 [(0, .slice a_.ptr a_.len a_.cap), (1, .slice b_.ptr b_.len b_.cap), (5, .int .i64 i), (14, .bool (decide (i < ((a_.len : Nat) : Int))))] ?_
      refine Zc 14 (decide (i < ((a_.len : Nat) : Int))) c36_24 c36_25 (fun hb => ?_) (fun hb => ?_)
      · replace h := h.1 hb
        refine wpE_skip (by kernel_rfl) ?_
        change WpE _ _ c36_26 _ _ _
        refine Zs c36_27 c36_37 ?_
        refine Zb 1 c36_28 ?_
        refine Zs c36_29 c36_31 ?_
        refine wpE_drawregion (id := 6) (ops := r36_29) (by kernel_rfl) (by kernel_rfl) (by kernel_rfl) ?_
        refine qreg_run P2 2 [(0, [], Value.slice a_.ptr a_.len a_.cap), (1, [], Value.slice b_.ptr b_.len b_.cap), (5, [], Value.int .i64 i), (17, [], Value.slice a_.ptr a_.len a_.cap), (18, [], Value.int .i64 i)] (by kernel_rfl) (by kernel_rfl) ?_
        obtain ⟨hp_14, h⟩ := h
        refine qreg_conv [(0, [], Value.slice a_.ptr a_.len a_.cap), (1, [], Value.slice b_.ptr b_.len b_.cap), (5, [], Value.int .i64 i), (17, [], Value.slice (some ⟨(pblk a_.ptr), (poff a_.ptr), none⟩) a_.len a_.cap), (18, [], Value.int .i64 i)] (congrArg (fun pp => ([(0, [], Value.slice a_.ptr a_.len a_.cap), (1, [], Value.slice b_.ptr b_.len b_.cap), (5, [], Value.int .i64 i), (17, [], Value.slice pp a_.len a_.cap), (18, [], Value.int .i64 i)] : GEnv)) hp_14) ?_
        obtain ⟨h0, h1, h⟩ := h
        refine qreg_indexS1 (t := 79) (e := 5) (x := (Operand.tmp 17)) (ix := (Operand.tmp 18)) (b := (pblk a_.ptr)) (o := (poff a_.ptr)) (l := a_.len) (c := a_.cap) (k := .i64) (j := i) (ty := 0) (dst := some 19) (by kernel_rfl) (by kernel_rfl) (by kernel_rfl) (by kernel_rfl) (by kernel_rfl) h0 h1 ?_
        refine qreg_run [] 3 [(0, [], Value.slice a_.ptr a_.len a_.cap), (1, [], Value.slice b_.ptr b_.len b_.cap), (5, [], Value.int .i64 i), (19, [], Value.pointer (some ⟨(pblk a_.ptr), (poff a_.ptr) + i.toNat, none⟩))] (by kernel_rfl) (by kernel_rfl) ?_
        obtain ⟨v20, hc, h⟩ := h
        refine qreg_load1 (t := 5) (a := (Operand.tmp 19)) (b := (pblk a_.ptr)) (o := ((poff a_.ptr) + i.toNat)) (ty := 5) (dst := some 20) (by kernel_rfl) (by kernel_rfl) (by kernel_rfl) hc ?_
        refine qreg_run P2 6 [(0, [], Value.slice a_.ptr a_.len a_.cap), (1, [], Value.slice b_.ptr b_.len b_.cap), (5, [], Value.int .i64 i), (20, [], Value.int .u8 v20), (21, [], Value.slice b_.ptr b_.len b_.cap), (22, [], Value.int .i64 i)] (by kernel_rfl) (by kernel_rfl) ?_
        obtain ⟨hp_15, h⟩ := h
        refine qreg_conv [(0, [], Value.slice a_.ptr a_.len a_.cap), (1, [], Value.slice b_.ptr b_.len b_.cap), (5, [], Value.int .i64 i), (20, [], Value.int .u8 v20), (21, [], Value.slice (some ⟨(pblk b_.ptr), (poff b_.ptr), none⟩) b_.len b_.cap), (22, [], Value.int .i64 i)] (congrArg (fun pp => ([(0, [], Value.slice a_.ptr a_.len a_.cap), (1, [], Value.slice b_.ptr b_.len b_.cap), (5, [], Value.int .i64 i), (20, [], Value.int .u8 v20), (21, [], Value.slice pp b_.len b_.cap), (22, [], Value.int .i64 i)] : GEnv)) hp_15) ?_
        obtain ⟨h0, h1, h⟩ := h
        refine qreg_indexS1 (t := 79) (e := 5) (x := (Operand.tmp 21)) (ix := (Operand.tmp 22)) (b := (pblk b_.ptr)) (o := (poff b_.ptr)) (l := b_.len) (c := b_.cap) (k := .i64) (j := i) (ty := 0) (dst := some 23) (by kernel_rfl) (by kernel_rfl) (by kernel_rfl) (by kernel_rfl) (by kernel_rfl) h0 h1 ?_
        refine qreg_run [] 7 [(0, [], Value.slice a_.ptr a_.len a_.cap), (1, [], Value.slice b_.ptr b_.len b_.cap), (5, [], Value.int .i64 i), (20, [], Value.int .u8 v20), (23, [], Value.pointer (some ⟨(pblk b_.ptr), (poff b_.ptr) + i.toNat, none⟩))] (by kernel_rfl) (by kernel_rfl) ?_
        obtain ⟨v24, hc, h⟩ := h
        refine qreg_load1 (t := 5) (a := (Operand.tmp 23)) (b := (pblk b_.ptr)) (o := ((poff b_.ptr) + i.toNat)) (ty := 5) (dst := some 24) (by kernel_rfl) (by kernel_rfl) (by kernel_rfl) hc ?_
        refine qreg_run P1 9 [(0, [], Value.slice a_.ptr a_.len a_.cap), (1, [], Value.slice b_.ptr b_.len b_.cap), (5, [], Value.int .i64 i), (25, [], Value.bool (v20 != v24))] (by kernel_rfl) (by kernel_rfl) ?_
        refine qreg_end [(0, Value.slice a_.ptr a_.len a_.cap), (1, Value.slice b_.ptr b_.len b_.cap), (5, Value.int .i64 i), (25, Value.bool (v20 != v24))] (by kernel_rfl) (by kernel_rfl) (fun w2 hw => ?_)
        replace h := h w2 hw
        clear hw
        change WpE _ _ c36_31 _ _ _
        refine Zc 25 (v20 != v24) c36_32 c36_36 (fun hb => ?_) (fun hb => ?_)
        · replace h := h.1 hb
          refine Zp c36_35 P1 [(4, .bool false)] ?_
          refine wpE_ret (by kernel_rfl) ?_
          repeat (first | refine seqQ_ret ?_ | refine blockQ_ret ?_ | refine loopQ_ret ?_ | refine cutQ_ret ?_)
          exact retS (rs := [(ResultVar.tmp 4)]) (v := Value.bool false) (by kernel_rfl) (⟨by kernel_rfl, trivial⟩) ⟨false, rfl, h⟩
        · replace h := h.2 hb
          refine wpE_skip (by kernel_rfl) ?_
          change WpE _ _ c36_37 _ _ _
          refine Zr r36_37 ?_
          refine Zf P3 [(0, .slice a_.ptr a_.len a_.cap), (1, .slice b_.ptr b_.len b_.cap), (5, .int .i64 (IntKind.i64.wrap (i + 1)))] ?_
          have hb_ := again__h _ _ h
          exact ⟨_, hb_.2, [(0, Value.slice a_.ptr a_.len a_.cap), (1, Value.slice b_.ptr b_.len b_.cap), (5, Value.int .i64 (IntKind.i64.wrap (i + 1)))], Sub.mk (by kernel_rfl), (IntKind.i64.wrap (i + 1)), rfl, hb_.1, rfl⟩
      · replace h := h.2 hb
        refine wpE_exit (id := 0) (by kernel_rfl) ?_
        change WpE _ _ c36_39 _ _ _
        refine Zp c36_42 P1 [(4, .bool true)] ?_
        refine wpE_ret (by kernel_rfl) ?_
        repeat (first | refine seqQ_ret ?_ | refine blockQ_ret ?_ | refine loopQ_ret ?_ | refine cutQ_ret ?_)
        exact retS (rs := [(ResultVar.tmp 4)]) (v := Value.bool true) (by kernel_rfl) (⟨by kernel_rfl, trivial⟩) ⟨true, rfl, h⟩
  · rintro e w' ⟨v, rfl, r0, rfl, h⟩; exact ⟨r0, rfl, h⟩

/-! ### (*towpath/towpathlaw01.Book).Bytes (function 37) -/
noncomputable def c37_0 := (Tryz.f37.body).getD Code.skip
noncomputable def r37_0 := Code.ops c37_0

theorem S_towpathlaw01_Book_Bytes {b_ : Option Addr} {l_ : Slc} {w : World} {R : World → Prop} (h : F_towpathlaw01_Book_Bytes b_ l_ R w) : C_towpathlaw01_Book_Bytes b_ l_ w R := by
  unfold F_towpathlaw01_Book_Bytes at h
  unfold C_towpathlaw01_Book_Bytes
  refine Calls.mono (calls_of_wpE (args := [Value.pointer b_, Value.slice l_.ptr l_.len l_.cap]) (R := fun v w' => v = Value.tuple #[] ∧ R w') Tryz.func37 (c := c37_0) (by kernel_rfl) 7 (by kernel_rfl) (by kernel_rfl) [(0, Value.pointer b_), (1, Value.slice l_.ptr l_.len l_.cap)] (by kernel_rfl) ?_) ?_
  · refine Zr r37_0 ?_
    refine Zn P2 2 [(4, [], .pointer b_), (5, [], .slice l_.ptr l_.len l_.cap)] ?_
    refine Zm 114 #[.pointer b_, .slice l_.ptr l_.len l_.cap] (some 6) (Calls.mono h ?_)
    rintro _ w1 ⟨rfl, h⟩
    refine ⟨_, rfl, ?_⟩
    refine Ze [] ?_
    repeat (first | refine seqQ_exit ?_ | refine loopQ_exit ?_ | refine cutQ_exit ?_ | refine blockQ_hit ?_ | refine blockQ_miss (by kernel_rfl) ?_)
    refine retQ_normal ?_
    repeat (first | refine seqQ_ret ?_ | refine blockQ_ret ?_ | refine loopQ_ret ?_ | refine cutQ_ret ?_)
    exact retT (rs := []) (vs := []) (by kernel_rfl) (trivial) (by kernel_rfl) ⟨rfl, h⟩
  · rintro e w' ⟨v, rfl, rfl, h⟩; exact ⟨rfl, h⟩

/-! ### towpath/towpathlaw01.TxnSize (function 43) -/
noncomputable def c43_0 := (Tryz.f43.body).getD Code.skip
noncomputable def c43_1 := Code.l c43_0
noncomputable def r43_1 := Code.ops c43_1
noncomputable def c43_3 := Code.r c43_0
noncomputable def c43_4 := Code.l c43_3
noncomputable def r43_4 := Code.ops c43_4
noncomputable def c43_6 := Code.r c43_3

theorem S_towpathlaw01_TxnSize {t_ : T_api_Txn} {w : World} {R : Int → World → Prop} (h : F_towpathlaw01_TxnSize t_ R w) : C_towpathlaw01_TxnSize t_ w R := by
  unfold F_towpathlaw01_TxnSize at h
  unfold C_towpathlaw01_TxnSize
  refine Calls.mono (calls_of_wpE (args := [Value.agg #[Value.int .i64 t_.Number, Value.slice t_.Writes.ptr t_.Writes.len t_.Writes.cap]]) (R := fun v w' => ∃ (r0 : Int), v = Value.int .i64 r0 ∧ R r0 w') Tryz.func43 (c := c43_0) (by kernel_rfl) 7 (by kernel_rfl) (by kernel_rfl) [(0, Value.agg #[Value.int .i64 t_.Number, Value.slice t_.Writes.ptr t_.Writes.len t_.Writes.cap])] (by kernel_rfl) ?_) ?_
  · refine Zt r43_1 c43_3 ?_
    refine Zn [] 0 [(0, [], .agg #[.int .i64 t_.Number, .slice t_.Writes.ptr t_.Writes.len t_.Writes.cap])] ?_
    refine Zw (some 1) (fun bb => .pointer (some ⟨bb, 0, none⟩)) (Obj.cells ([.int .i64 t_.Number, .slice t_.Writes.ptr t_.Writes.len t_.Writes.cap]).toArray ty_api_Txn (0, 0)) (fun b_ w1 hb hw => ?_)
    replace h := h b_ w1 hb hw
    clear hb hw
    refine Zf P1 [(1, .pointer (some ⟨b_, 0, none⟩))] ?_
    change WpE _ _ c43_3 _ _ _
    refine Zt r43_4 c43_6 ?_
    refine Zn P1 1 [(3, [], .pointer (some ⟨b_, 1, none⟩))] ?_
    obtain ⟨v4, hc, h⟩ := h
    refine Zl 50 3 b_ 1 50 4 hc ?_
    refine Zn [] 2 [(4, [], .slice v4.ptr v4.len v4.cap)] ?_
    refine Zm 120 #[.slice v4.ptr v4.len v4.cap] (some 5) (Calls.mono h ?_)
    rintro _ w2 ⟨v5, rfl, h⟩
    refine ⟨_, rfl, ?_⟩
    refine Zf P2 [(2, .int .i64 (IntKind.i64.wrap (1 + v5)))] ?_
    change WpE _ _ c43_6 _ _ _
    refine wpE_ret (by kernel_rfl) ?_
    repeat (first | refine seqQ_ret ?_ | refine blockQ_ret ?_ | refine loopQ_ret ?_ | refine cutQ_ret ?_)
    exact retS (rs := [(ResultVar.tmp 2)]) (v := Value.int .i64 (IntKind.i64.wrap (1 + v5))) (by kernel_rfl) (⟨by kernel_rfl, trivial⟩) ⟨(IntKind.i64.wrap (1 + v5)), rfl, h⟩
  · rintro e w' ⟨v, rfl, r0, rfl, h⟩; exact ⟨r0, rfl, h⟩
end Go.Proofs.YtpdegdnigcnjiaaGreatDoor
