/- WRITTEN BY PROGRAM (dec.py): for each Go function the clean formula F, the call's contract C, and the proof S that F gives C. -/
import Derived.Test.YtpdegdnigcnjiaaGreatDoorRows
import Derived.Test.YtpdegdnigcnjiaaGreatDoorGF
namespace Go.Proofs.YtpdegdnigcnjiaaGreatDoor
open Go
set_option linter.unusedVariables false
set_option maxRecDepth 100000
set_option maxHeartbeats 4000000

/-! ### towpath/towpathref06.Encode (function 34) -/
noncomputable def c34_0 := (Tryz.f34.body).getD Code.skip
noncomputable def c34_3 := Code.r c34_0
noncomputable def c34_4 := Code.l c34_3
noncomputable def r34_4 := Code.ops c34_4
noncomputable def c34_6 := Code.r c34_3
noncomputable def c34_7 := Code.l c34_6
noncomputable def c34_10 := Code.r c34_7
noncomputable def c34_11 := Code.l c34_10
noncomputable def c34_14 := Code.r c34_11
noncomputable def c34_15 := Code.r c34_10
noncomputable def c34_16 := Code.r c34_6
noncomputable def c34_19 := Code.r c34_16
noncomputable def c34_20 := Code.l c34_19
noncomputable def c34_23 := Code.r c34_20
noncomputable def c34_24 := Code.l c34_23
noncomputable def c34_25 := Code.l c34_24
noncomputable def c34_26 := Code.l c34_25
noncomputable def c34_29 := Code.r c34_26
noncomputable def c34_30 := Code.l c34_29
noncomputable def c34_31 := Code.r c34_29
noncomputable def c34_32 := Code.r c34_25
noncomputable def c34_33 := Code.l c34_32
noncomputable def c34_34 := Code.l c34_33
noncomputable def c34_35 := Code.l c34_34
noncomputable def r34_35 := Code.ops c34_35
noncomputable def c34_37 := Code.r c34_34
noncomputable def c34_38 := Code.l c34_37
noncomputable def r34_38 := Code.ops c34_38
noncomputable def c34_40 := Code.r c34_37
noncomputable def c34_41 := Code.l c34_40
noncomputable def r34_41 := Code.ops c34_41
noncomputable def c34_43 := Code.r c34_40
noncomputable def r34_43 := Code.ops c34_43
noncomputable def c34_45 := Code.r c34_32
noncomputable def r34_45 := Code.ops c34_45
noncomputable def c34_47 := Code.r c34_19
noncomputable def c34_50 := Code.r c34_47

theorem S_towpathref06_Encode {l_ : Slc} {w : World} {R : Slc → Int → World → Prop} (h : F_towpathref06_Encode l_ R w) : C_towpathref06_Encode l_ w R := by
  unfold F_towpathref06_Encode at h
  unfold C_towpathref06_Encode
  refine Calls.mono (calls_of_wpE (args := [Value.slice l_.ptr l_.len l_.cap]) (R := fun v w' => ∃ (r0 : Slc) (r1 : Int), v = Value.tuple #[Value.slice r0.ptr r0.len r0.cap, Value.int .i64 r1] ∧ R r0 r1 w') Tryz.func34 (c := c34_0) (by kernel_rfl) 44 (by kernel_rfl) (by kernel_rfl) [(0, Value.slice l_.ptr l_.len l_.cap)] (by kernel_rfl) ?_) ?_
  · refine Zp c34_3 P2 [(0, .slice l_.ptr l_.len l_.cap)] ?_
    refine Zt r34_4 c34_6 ?_
    refine Zn P1 1 [(0, [], .slice l_.ptr l_.len l_.cap), (11, [], .slice l_.ptr l_.len l_.cap)] ?_
    refine Zm 46 #[.slice l_.ptr l_.len l_.cap] (some 12) (Calls.mono h ?_)
    rintro _ w1 ⟨v12, rfl, h⟩
    refine ⟨_, rfl, ?_⟩
    refine Zf P1 [(0, .slice l_.ptr l_.len l_.cap), (4, .int .i64 v12)] ?_
    change WpE _ _ c34_6 _ _ _
    refine Zs c34_7 c34_16 ?_
    refine Zp c34_10 P2 [(0, .slice l_.ptr l_.len l_.cap), (4, .int .i64 v12), (14, .bool (v12 != 0))] ?_
    refine Zc 14 (v12 != 0) c34_11 c34_15 (fun hb => ?_) (fun hb => ?_)
    · replace h := h.1 hb
      refine Zp c34_14 P3 [(2, .slice none 0 0), (3, .int .i64 v12)] ?_
      refine wpE_ret (by kernel_rfl) ?_
      repeat (first | refine seqQ_ret ?_ | refine blockQ_ret ?_ | refine loopQ_ret ?_ | refine cutQ_ret ?_)
      exact retT (rs := [(ResultVar.tmp 2), (ResultVar.tmp 3)]) (vs := [Value.slice none 0 0, Value.int .i64 v12]) (by kernel_rfl) (⟨by kernel_rfl, ⟨by kernel_rfl, trivial⟩⟩) (by kernel_rfl) ⟨(Slc.mk none 0 0), v12, rfl, h⟩
    · replace h := h.2 hb
      refine wpE_skip (by kernel_rfl) ?_
      change WpE _ _ c34_16 _ _ _
      refine Zp c34_19 P1 [(0, .slice l_.ptr l_.len l_.cap), (5, .slice none 0 0)] ?_
      refine Zs c34_20 c34_47 ?_
      refine Zp c34_23 P1 [(0, .slice l_.ptr l_.len l_.cap), (5, .slice none 0 0), (6, .int .i64 0)] ?_
      refine Zb 0 c34_24 ?_
      obtain ⟨I, μ, h0, hr⟩ := h
      refine wpE_loop (x := c34_25) (by kernel_rfl) (fun m l w => ∃ (b_ : Slc) (i : Int), l = [(0, Value.slice l_.ptr l_.len l_.cap), (5, Value.slice b_.ptr b_.len b_.cap), (6, Value.int .i64 i)] ∧ I b_ i w ∧ μ b_ i w = m) (l' := [(0, Value.slice l_.ptr l_.len l_.cap), (5, Value.slice none 0 0), (6, Value.int .i64 0)]) (Sub.mk (by kernel_rfl)) ⟨(Slc.mk none 0 0), 0, rfl, h0, rfl⟩ ?_
      rintro _ _ w2 ⟨b_, i, rfl, hI, rfl⟩
      obtain ⟨again_, again__h, h⟩ : ∃ again_ : Slc → Int → World → Prop, (∀ b_' i' w', again_ b_' i' w' → I b_' i' w' ∧ μ b_' i' w' < μ b_ i w2) ∧ F_towpathref06_Encode_L0 l_ R again_ b_ i w2 := ⟨_, fun _ _ _ h => h, hr b_ i w2 hI⟩
      clear h0 hI
      unfold F_towpathref06_Encode_L0 at h
      refine Zs c34_26 c34_32 ?_
      refine Zp c34_29 P4 [(0, .slice l_.ptr l_.len l_.cap), (5, .slice b_.ptr b_.len b_.cap), (6, .int .i64 i), (19, .bool (decide (i < ((l_.len : Nat) : Int))))] ?_
      refine Zc 19 (decide (i < ((l_.len : Nat) : Int))) c34_30 c34_31 (fun hb => ?_) (fun hb => ?_)
      · replace h := h.1 hb
        refine wpE_skip (by kernel_rfl) ?_
        change WpE _ _ c34_32 _ _ _
        refine Zs c34_33 c34_45 ?_
        refine Zb 1 c34_34 ?_
        refine Zt r34_35 c34_37 ?_
        refine Zn P2 2 [(0, [], .slice l_.ptr l_.len l_.cap), (5, [], .slice b_.ptr b_.len b_.cap), (6, [], .int .i64 i), (23, [], .slice l_.ptr l_.len l_.cap), (24, [], .int .i64 i)] ?_
        obtain ⟨hp_7, h⟩ := h
        refine Zv (fun pp => [(0, [], .slice l_.ptr l_.len l_.cap), (5, [], .slice b_.ptr b_.len b_.cap), (6, [], .int .i64 i), (23, [], .slice pp l_.len l_.cap), (24, [], .int .i64 i)]) hp_7 ?_
        obtain ⟨h0, h1, h⟩ := h
        refine Zj 22 52 23 24 (pblk l_.ptr) (poff l_.ptr) l_.len l_.cap i 2 25 0 h0 h1 ?_
        refine Zn [] 3 [(0, [], .slice l_.ptr l_.len l_.cap), (5, [], .slice b_.ptr b_.len b_.cap), (6, [], .int .i64 i), (25, [], .pointer (some ⟨(pblk l_.ptr), (poff l_.ptr) + i.toNat * 2, none⟩))] ?_
        obtain ⟨v26, hc, h⟩ := h
        refine reg_loadN (t := 52) (a := (Operand.tmp 25)) (b := (pblk l_.ptr)) (o := ((poff l_.ptr) + i.toNat * 2)) (ty := 52) (dst := some 26) [Value.int .i64 v26.Number, Value.slice v26.Writes.ptr v26.Writes.len v26.Writes.cap] (by kernel_rfl) (by kernel_rfl) (by kernel_rfl) (k := 2) (by kernel_rfl) (by kernel_rfl) hc ?_
        refine Zn [] 4 [(0, [], .slice l_.ptr l_.len l_.cap), (5, [], .slice b_.ptr b_.len b_.cap), (6, [], .int .i64 i), (26, [], .agg #[.int .i64 v26.Number, .slice v26.Writes.ptr v26.Writes.len v26.Writes.cap])] ?_
        refine Zm 109 #[.agg #[.int .i64 v26.Number, .slice v26.Writes.ptr v26.Writes.len v26.Writes.cap]] (some 27) (Calls.mono h ?_)
        rintro _ w3 ⟨x, v27_1, rfl, h⟩
        refine ⟨_, rfl, ?_⟩
        refine Zf (Pl 5) [(0, .slice l_.ptr l_.len l_.cap), (5, .slice b_.ptr b_.len b_.cap), (6, .int .i64 i), (7, .slice x.ptr x.len x.cap)] ?_
        change WpE _ _ c34_37 _ _ _
        refine Zt r34_38 c34_40 ?_
        refine Zn P2 2 [(0, [], .slice l_.ptr l_.len l_.cap), (5, [], .slice b_.ptr b_.len b_.cap), (6, [], .int .i64 i), (7, [], .slice x.ptr x.len x.cap), (30, [], .slice b_.ptr b_.len b_.cap), (31, [], .slice x.ptr x.len x.cap)] ?_
        obtain ⟨str, hs, h⟩ := h
        refine reg_toString (t := 79) (d := 9) (e := 5) (x := (Operand.tmp 31)) (s := x) (ty := 9) (dst := some 32) (by kernel_rfl) (by kernel_rfl) (by kernel_rfl) (by kernel_rfl) (by kernel_rfl) hs ?_
        refine Zn [] 3 [(0, [], .slice l_.ptr l_.len l_.cap), (5, [], .slice b_.ptr b_.len b_.cap), (6, [], .int .i64 i), (7, [], .slice x.ptr x.len x.cap), (30, [], .slice b_.ptr b_.len b_.cap), (32, [], .string str)] ?_
        refine Zm 110 #[.slice b_.ptr b_.len b_.cap, .string str] (some 33) (Calls.mono h ?_)
        rintro _ w4 ⟨v33, rfl, h⟩
        refine ⟨_, rfl, ?_⟩
        refine Zf P1 [(0, .slice l_.ptr l_.len l_.cap), (5, .slice v33.ptr v33.len v33.cap), (6, .int .i64 i), (7, .slice x.ptr x.len x.cap)] ?_
        change WpE _ _ c34_40 _ _ _
        refine Zt r34_41 c34_43 ?_
        refine Zn P2 2 [(0, [], .slice l_.ptr l_.len l_.cap), (6, [], .int .i64 i), (35, [], .slice v33.ptr v33.len v33.cap), (36, [], .slice x.ptr x.len x.cap)] ?_
        refine Zm 112 #[.slice x.ptr x.len x.cap] (some 37) (Calls.mono h ?_)
        rintro _ w5 ⟨v37, rfl, h⟩
        refine ⟨_, rfl, ?_⟩
        refine Zn P1 4 [(0, [], .slice l_.ptr l_.len l_.cap), (6, [], .int .i64 i), (35, [], .slice v33.ptr v33.len v33.cap), (38, [], .int .u64 (IntKind.u64.wrap v37))] ?_
        refine Zm 111 #[.slice v33.ptr v33.len v33.cap, .int .u64 (IntKind.u64.wrap v37), .int .i64 4] (some 39) (Calls.mono h ?_)
        rintro _ w6 ⟨next, v39_1, rfl, h⟩
        refine ⟨_, rfl, ?_⟩
        refine Zf (Pl 5) [(0, .slice l_.ptr l_.len l_.cap), (6, .int .i64 i), (9, .slice next.ptr next.len next.cap)] ?_
        change WpE _ _ c34_43 _ _ _
        refine Zr r34_43 ?_
        refine Zf P2 [(0, .slice l_.ptr l_.len l_.cap), (5, .slice next.ptr next.len next.cap), (6, .int .i64 i)] ?_
        change WpE _ _ c34_45 _ _ _
        refine Zr r34_45 ?_
        refine Zf P3 [(0, .slice l_.ptr l_.len l_.cap), (5, .slice next.ptr next.len next.cap), (6, .int .i64 (IntKind.i64.wrap (i + 1)))] ?_
        have hb_ := again__h _ _ _ h
        exact ⟨_, hb_.2, [(0, Value.slice l_.ptr l_.len l_.cap), (5, Value.slice next.ptr next.len next.cap), (6, Value.int .i64 (IntKind.i64.wrap (i + 1)))], Sub.mk (by kernel_rfl), next, (IntKind.i64.wrap (i + 1)), rfl, hb_.1, rfl⟩
      · replace h := h.2 hb
        refine wpE_exit (id := 0) (by kernel_rfl) ?_
        change WpE _ _ c34_47 _ _ _
        refine Zp c34_50 P3 [(2, .slice b_.ptr b_.len b_.cap), (3, .int .i64 0)] ?_
        refine wpE_ret (by kernel_rfl) ?_
        repeat (first | refine seqQ_ret ?_ | refine blockQ_ret ?_ | refine loopQ_ret ?_ | refine cutQ_ret ?_)
        exact retT (rs := [(ResultVar.tmp 2), (ResultVar.tmp 3)]) (vs := [Value.slice b_.ptr b_.len b_.cap, Value.int .i64 0]) (by kernel_rfl) (⟨by kernel_rfl, ⟨by kernel_rfl, trivial⟩⟩) (by kernel_rfl) ⟨b_, 0, rfl, h⟩
  · rintro e w' ⟨v, rfl, r0, r1, rfl, h⟩; exact ⟨r0, r1, rfl, h⟩

/-! ### towpath/towpathref06.Check (function 46) -/
noncomputable def c46_0 := (Tryz.f46.body).getD Code.skip
noncomputable def c46_3 := Code.r c46_0
noncomputable def c46_4 := Code.l c46_3
noncomputable def c46_7 := Code.r c46_4
noncomputable def c46_8 := Code.l c46_7
noncomputable def c46_9 := Code.l c46_8
noncomputable def c46_10 := Code.l c46_9
noncomputable def c46_13 := Code.r c46_10
noncomputable def c46_14 := Code.l c46_13
noncomputable def c46_15 := Code.r c46_13
noncomputable def c46_16 := Code.r c46_9
noncomputable def c46_17 := Code.l c46_16
noncomputable def c46_18 := Code.l c46_17
noncomputable def c46_19 := Code.l c46_18
noncomputable def c46_20 := Code.l c46_19
noncomputable def r46_20 := Code.ops c46_20
noncomputable def c46_22 := Code.r c46_19
noncomputable def c46_23 := Code.l c46_22
noncomputable def c46_26 := Code.r c46_23
noncomputable def c46_27 := Code.r c46_22
noncomputable def c46_28 := Code.r c46_18
noncomputable def c46_29 := Code.l c46_28
noncomputable def r46_29 := Code.ops c46_29
noncomputable def c46_31 := Code.r c46_28
noncomputable def c46_32 := Code.l c46_31
noncomputable def c46_35 := Code.r c46_32
noncomputable def c46_36 := Code.r c46_31
noncomputable def c46_37 := Code.r c46_16
noncomputable def r46_37 := Code.ops c46_37
noncomputable def c46_39 := Code.r c46_3
noncomputable def c46_42 := Code.r c46_39

theorem S_towpathref06_Check {l_ : Slc} {w : World} {R : Int → World → Prop} (h : F_towpathref06_Check l_ R w) : C_towpathref06_Check l_ w R := by
  unfold F_towpathref06_Check at h
  unfold C_towpathref06_Check
  refine Calls.mono (calls_of_wpE (args := [Value.slice l_.ptr l_.len l_.cap]) (R := fun v w' => ∃ (r0 : Int), v = Value.int .i64 r0 ∧ R r0 w') Tryz.func46 (c := c46_0) (by kernel_rfl) 24 (by kernel_rfl) (by kernel_rfl) [(0, Value.slice l_.ptr l_.len l_.cap)] (by kernel_rfl) ?_) ?_
  · refine Zp c46_3 P1 [(0, .slice l_.ptr l_.len l_.cap)] ?_
    refine Zs c46_4 c46_39 ?_
    refine Zp c46_7 P1 [(0, .slice l_.ptr l_.len l_.cap), (3, .int .i64 0)] ?_
    refine Zb 0 c46_8 ?_
    obtain ⟨I, μ, h0, hr⟩ := h
    refine wpE_loop (x := c46_9) (by kernel_rfl) (fun m l w => ∃ (i : Int), l = [(0, Value.slice l_.ptr l_.len l_.cap), (3, Value.int .i64 i)] ∧ I i w ∧ μ i w = m) (l' := [(0, Value.slice l_.ptr l_.len l_.cap), (3, Value.int .i64 0)]) (Sub.mk (by kernel_rfl)) ⟨0, rfl, h0, rfl⟩ ?_
    rintro _ _ w1 ⟨i, rfl, hI, rfl⟩
    obtain ⟨again_, again__h, h⟩ : ∃ again_ : Int → World → Prop, (∀ i' w', again_ i' w' → I i' w' ∧ μ i' w' < μ i w1) ∧ F_towpathref06_Check_L0 l_ R again_ i w1 := ⟨_, fun _ _ h => h, hr i w1 hI⟩
    clear h0 hI
    unfold F_towpathref06_Check_L0 at h
    refine Zs c46_10 c46_16 ?_
    refine Zp c46_13 P4 [(0, .slice l_.ptr l_.len l_.cap), (3, .int .i64 i), (7, .bool (decide (i < ((l_.len : Nat) : Int))))] ?_
    refine Zc 7 (decide (i < ((l_.len : Nat) : Int))) c46_14 c46_15 (fun hb => ?_) (fun hb => ?_)
    · replace h := h.1 hb
      refine wpE_skip (by kernel_rfl) ?_
      change WpE _ _ c46_16 _ _ _
      refine Zs c46_17 c46_37 ?_
      refine Zb 1 c46_18 ?_
      refine Zs c46_19 c46_28 ?_
      refine Zt r46_20 c46_22 ?_
      refine Zn P2 2 [(0, [], .slice l_.ptr l_.len l_.cap), (3, [], .int .i64 i), (10, [], .slice l_.ptr l_.len l_.cap), (11, [], .int .i64 i)] ?_
      obtain ⟨hp_21, h⟩ := h
      refine Zv (fun pp => [(0, [], .slice l_.ptr l_.len l_.cap), (3, [], .int .i64 i), (10, [], .slice pp l_.len l_.cap), (11, [], .int .i64 i)]) hp_21 ?_
      obtain ⟨h0, h1, h⟩ := h
      refine Zj 22 52 10 11 (pblk l_.ptr) (poff l_.ptr) l_.len l_.cap i 2 12 0 h0 h1 ?_
      refine Zn [] 3 [(0, [], .slice l_.ptr l_.len l_.cap), (3, [], .int .i64 i), (12, [], .pointer (some ⟨(pblk l_.ptr), (poff l_.ptr) + i.toNat * 2, none⟩))] ?_
      obtain ⟨v13, hc, h⟩ := h
      refine reg_loadN (t := 52) (a := (Operand.tmp 12)) (b := (pblk l_.ptr)) (o := ((poff l_.ptr) + i.toNat * 2)) (ty := 52) (dst := some 13) [Value.int .i64 v13.Number, Value.slice v13.Writes.ptr v13.Writes.len v13.Writes.cap] (by kernel_rfl) (by kernel_rfl) (by kernel_rfl) (k := 2) (by kernel_rfl) (by kernel_rfl) hc ?_
      refine Zn [] 4 [(0, [], .slice l_.ptr l_.len l_.cap), (3, [], .int .i64 i), (13, [], .agg #[.int .i64 v13.Number, .slice v13.Writes.ptr v13.Writes.len v13.Writes.cap])] ?_
      refine Zm 123 #[.agg #[.int .i64 v13.Number, .slice v13.Writes.ptr v13.Writes.len v13.Writes.cap]] (some 14) (Calls.mono h ?_)
      rintro _ w2 ⟨v14, rfl, h⟩
      refine ⟨_, rfl, ?_⟩
      refine Zf P1 [(0, .slice l_.ptr l_.len l_.cap), (3, .int .i64 i), (15, .bool (v14 != 0))] ?_
      change WpE _ _ c46_22 _ _ _
      refine Zc 15 (v14 != 0) c46_23 c46_27 (fun hb => ?_) (fun hb => ?_)
      · replace h := h.1 hb
        refine Zp c46_26 P1 [(2, .int .i64 1)] ?_
        refine wpE_ret (by kernel_rfl) ?_
        repeat (first | refine seqQ_ret ?_ | refine blockQ_ret ?_ | refine loopQ_ret ?_ | refine cutQ_ret ?_)
        exact retS (rs := [(ResultVar.tmp 2)]) (v := Value.int .i64 1) (by kernel_rfl) (⟨by kernel_rfl, trivial⟩) ⟨1, rfl, h⟩
      · replace h := h.2 hb
        refine wpE_skip (by kernel_rfl) ?_
        change WpE _ _ c46_28 _ _ _
        refine Zt r46_29 c46_31 ?_
        refine Zn P2 2 [(0, [], .slice l_.ptr l_.len l_.cap), (3, [], .int .i64 i), (16, [], .slice l_.ptr l_.len l_.cap), (17, [], .int .i64 i)] ?_
        obtain ⟨hp_23, h⟩ := h
        refine Zv (fun pp => [(0, [], .slice l_.ptr l_.len l_.cap), (3, [], .int .i64 i), (16, [], .slice pp l_.len l_.cap), (17, [], .int .i64 i)]) hp_23 ?_
        obtain ⟨h0, h1, h⟩ := h
        refine Zj 22 52 16 17 (pblk l_.ptr) (poff l_.ptr) l_.len l_.cap i 2 18 0 h0 h1 ?_
        refine Zn P1 4 [(0, [], .slice l_.ptr l_.len l_.cap), (3, [], .int .i64 i), (19, [], .pointer (some ⟨(pblk l_.ptr), (poff l_.ptr) + i.toNat * 2, none⟩))] ?_
        obtain ⟨v20, hc, h⟩ := h
        refine Zl 3 19 (pblk l_.ptr) ((poff l_.ptr) + i.toNat * 2) 3 20 hc ?_
        refine Zf P3 [(0, .slice l_.ptr l_.len l_.cap), (3, .int .i64 i), (23, .bool (v20 != (IntKind.i64.wrap (i + 1))))] ?_
        change WpE _ _ c46_31 _ _ _
        refine Zc 23 (v20 != (IntKind.i64.wrap (i + 1))) c46_32 c46_36 (fun hb => ?_) (fun hb => ?_)
        · replace h := h.1 hb
          refine Zp c46_35 P1 [(2, .int .i64 6)] ?_
          refine wpE_ret (by kernel_rfl) ?_
          repeat (first | refine seqQ_ret ?_ | refine blockQ_ret ?_ | refine loopQ_ret ?_ | refine cutQ_ret ?_)
          exact retS (rs := [(ResultVar.tmp 2)]) (v := Value.int .i64 6) (by kernel_rfl) (⟨by kernel_rfl, trivial⟩) ⟨6, rfl, h⟩
        · replace h := h.2 hb
          refine wpE_skip (by kernel_rfl) ?_
          change WpE _ _ c46_37 _ _ _
          refine Zr r46_37 ?_
          refine Zf P3 [(0, .slice l_.ptr l_.len l_.cap), (3, .int .i64 (IntKind.i64.wrap (i + 1)))] ?_
          have hb_ := again__h _ _ h
          exact ⟨_, hb_.2, [(0, Value.slice l_.ptr l_.len l_.cap), (3, Value.int .i64 (IntKind.i64.wrap (i + 1)))], Sub.mk (by kernel_rfl), (IntKind.i64.wrap (i + 1)), rfl, hb_.1, rfl⟩
    · replace h := h.2 hb
      refine wpE_exit (id := 0) (by kernel_rfl) ?_
      change WpE _ _ c46_39 _ _ _
      refine Zp c46_42 P1 [(2, .int .i64 0)] ?_
      refine wpE_ret (by kernel_rfl) ?_
      repeat (first | refine seqQ_ret ?_ | refine blockQ_ret ?_ | refine loopQ_ret ?_ | refine cutQ_ret ?_)
      exact retS (rs := [(ResultVar.tmp 2)]) (v := Value.int .i64 0) (by kernel_rfl) (⟨by kernel_rfl, trivial⟩) ⟨0, rfl, h⟩
  · rintro e w' ⟨v, rfl, r0, rfl, h⟩; exact ⟨r0, rfl, h⟩
end Go.Proofs.YtpdegdnigcnjiaaGreatDoor
