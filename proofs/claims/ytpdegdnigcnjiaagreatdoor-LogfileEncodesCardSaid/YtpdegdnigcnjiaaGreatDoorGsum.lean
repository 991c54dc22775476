/- WRITTEN BY PROGRAM (dec.py): for each Go function the clean formula F, the call's contract C, and the proof S that F gives C. -/
import Derived.Test.YtpdegdnigcnjiaaGreatDoorRows
import Derived.Test.YtpdegdnigcnjiaaGreatDoorGF
namespace Go.Proofs.YtpdegdnigcnjiaaGreatDoor
open Go
set_option linter.unusedVariables false
set_option maxRecDepth 100000
set_option maxHeartbeats 4000000

/-! ### towpath/sum.CRC (function 107) -/
noncomputable def c107_0 := (Tryz.f107.body).getD Code.skip
noncomputable def c107_3 := Code.r c107_0
noncomputable def c107_4 := Code.l c107_3
noncomputable def r107_4 := Code.ops c107_4
noncomputable def c107_6 := Code.r c107_3

theorem S_sum_CRC {b_ : Slc} {w : World} {R : Int → World → Prop} (h : F_sum_CRC b_ R w) : C_sum_CRC b_ w R := by
  unfold F_sum_CRC at h
  unfold C_sum_CRC
  refine Calls.mono (calls_of_wpE (args := [Value.slice b_.ptr b_.len b_.cap]) (R := fun v w' => ∃ (r0 : Int), v = Value.int .u32 r0 ∧ R r0 w') Tryz.func107 (c := c107_0) (by kernel_rfl) 5 (by kernel_rfl) (by kernel_rfl) [(0, Value.slice b_.ptr b_.len b_.cap)] (by kernel_rfl) ?_) ?_
  · refine Zp c107_3 P1 [(0, .slice b_.ptr b_.len b_.cap)] ?_
    refine Zt r107_4 c107_6 ?_
    refine Zn P1 1 [(3, [], .slice b_.ptr b_.len b_.cap)] ?_
    refine Zm 166 #[.int .u32 0, .slice b_.ptr b_.len b_.cap] (some 4) (Calls.mono h ?_)
    rintro _ w1 ⟨v4, rfl, h⟩
    refine ⟨_, rfl, ?_⟩
    refine Zf P1 [(2, .int .u32 v4)] ?_
    change WpE _ _ c107_6 _ _ _
    refine wpE_ret (by kernel_rfl) ?_
    repeat (first | refine seqQ_ret ?_ | refine blockQ_ret ?_ | refine loopQ_ret ?_ | refine cutQ_ret ?_)
    exact retS (rs := [(ResultVar.tmp 2)]) (v := Value.int .u32 v4) (by kernel_rfl) (⟨by kernel_rfl, trivial⟩) ⟨v4, rfl, h⟩
  · rintro e w' ⟨v, rfl, r0, rfl, h⟩; exact ⟨r0, rfl, h⟩

/-! ### towpath/sum.More (function 166) -/
noncomputable def c166_0 := (Tryz.f166.body).getD Code.skip
noncomputable def c166_3 := Code.r c166_0
noncomputable def c166_4 := Code.l c166_3
noncomputable def r166_4 := Code.ops c166_4
noncomputable def c166_6 := Code.r c166_3
noncomputable def c166_9 := Code.r c166_6
noncomputable def c166_10 := Code.l c166_9
noncomputable def c166_13 := Code.r c166_10
noncomputable def c166_14 := Code.l c166_13
noncomputable def c166_15 := Code.l c166_14
noncomputable def c166_18 := Code.r c166_15
noncomputable def c166_19 := Code.l c166_18
noncomputable def c166_20 := Code.l c166_19
noncomputable def c166_21 := Code.r c166_19
noncomputable def c166_22 := Code.r c166_18
noncomputable def c166_23 := Code.l c166_22
noncomputable def c166_24 := Code.l c166_23
noncomputable def c166_25 := Code.l c166_24
noncomputable def r166_25 := Code.ops c166_25
noncomputable def c166_27 := Code.r c166_24
noncomputable def r166_27 := Code.ops c166_27
noncomputable def c166_29 := Code.r c166_22
noncomputable def r166_29 := Code.ops c166_29
noncomputable def c166_31 := Code.r c166_9
noncomputable def c166_34 := Code.r c166_31

theorem S_sum_More {sum : Int} {b_ : Slc} {w : World} {R : Int → World → Prop} (h : F_sum_More sum b_ R w) : C_sum_More sum b_ w R := by
  unfold F_sum_More at h
  unfold C_sum_More
  refine Calls.mono (calls_of_wpE (args := [Value.int .u32 sum, Value.slice b_.ptr b_.len b_.cap]) (R := fun v w' => ∃ (r0 : Int), v = Value.int .u32 r0 ∧ R r0 w') Tryz.func166 (c := c166_0) (by kernel_rfl) 30 (by kernel_rfl) (by kernel_rfl) [(0, Value.int .u32 sum), (1, Value.slice b_.ptr b_.len b_.cap)] (by kernel_rfl) ?_) ?_
  · refine Zp c166_3 P1 [(0, .int .u32 sum), (1, .slice b_.ptr b_.len b_.cap)] ?_
    refine Zt r166_4 c166_6 ?_
    refine Zn [] 0 [(0, [], .int .u32 sum), (1, [], .slice b_.ptr b_.len b_.cap)] ?_
    refine Zm 199 #[] (some 9) (Calls.mono h ?_)
    rintro _ w1 ⟨v9, hl_v9_0, rfl, h⟩
    refine ⟨_, rfl, ?_⟩
    replace h := h hl_v9_0
    refine Zn [] 1 [(0, [], .int .u32 sum), (1, [], .slice b_.ptr b_.len b_.cap), (9, [], .agg (List.map (.int .u32) v9).toArray)] ?_
    refine Zw (some 5) (fun bb => .pointer (some ⟨bb, 0, none⟩)) (Obj.cells ((List.map (.int .u32) (List.replicate 256 0))).toArray ty_256_uint32 (0, 0)) (fun b_1 w2 hb hw => ?_)
    replace h := h b_1 w2 hb hw
    clear hb hw
    refine Zn [] 2 [(0, [], .int .u32 sum), (1, [], .slice b_.ptr b_.len b_.cap), (5, [], .pointer (some ⟨b_1, 0, none⟩)), (9, [], .agg (List.map (.int .u32) v9).toArray)] ?_
    obtain ⟨hc, h⟩ := h
    refine reg_store (t := 237) (a := (Operand.tmp 5)) (x := (Operand.tmp 9)) (b := b_1) (o := 0) (ty := 0) (dst := none) (List.map (Value.int .u32) v9) (by kernel_rfl) (by kernel_rfl) (by kernel_rfl) (k := 256) (by kernel_rfl) (by simp [*]) (by simp [oneCells, oneCell, List.all_eq_true]) hc (fun w3 hw => ?_)
    replace h := h w3 hw
    clear hw
    refine Ze [(0, .int .u32 sum), (1, .slice b_.ptr b_.len b_.cap), (5, .pointer (some ⟨b_1, 0, none⟩))] ?_
    change WpE _ _ c166_6 _ _ _
    refine Zp c166_9 P3 [(1, .slice b_.ptr b_.len b_.cap), (5, .pointer (some ⟨b_1, 0, none⟩)), (6, .int .u32 (bxor .u32 (IntKind.max .u32) sum))] ?_
    refine Zs c166_10 c166_31 ?_
    refine Zp c166_13 P3 [(5, .pointer (some ⟨b_1, 0, none⟩)), (6, .int .u32 (bxor .u32 (IntKind.max .u32) sum)), (12, .slice b_.ptr b_.len b_.cap), (13, .int .i64 ((b_.len : Nat) : Int)), (14, .int .i64 0)] ?_
    refine Zb 0 c166_14 ?_
    obtain ⟨I, μ, h0, hr⟩ := h
    refine wpE_loop (x := c166_15) (by kernel_rfl) (fun m l w => ∃ (c : Int) (t14 : Int), l = [(5, Value.pointer (some ⟨b_1, 0, none⟩)), (6, Value.int .u32 c), (12, Value.slice b_.ptr b_.len b_.cap), (13, Value.int .i64 ((b_.len : Nat) : Int)), (14, Value.int .i64 t14)] ∧ I c t14 w ∧ μ c t14 w = m) (l' := [(5, Value.pointer (some ⟨b_1, 0, none⟩)), (6, Value.int .u32 (bxor .u32 (IntKind.max .u32) sum)), (12, Value.slice b_.ptr b_.len b_.cap), (13, Value.int .i64 ((b_.len : Nat) : Int)), (14, Value.int .i64 0)]) (Sub.mk (by kernel_rfl)) ⟨(bxor .u32 (IntKind.max .u32) sum), 0, rfl, h0, rfl⟩ ?_
    rintro _ _ w4 ⟨c, t14, rfl, hI, rfl⟩
    obtain ⟨again_, again__h, h⟩ : ∃ again_ : Int → Int → World → Prop, (∀ c' t14' w', again_ c' t14' w' → I c' t14' w' ∧ μ c' t14' w' < μ c t14 w4) ∧ F_sum_More_L0 b_ R b_1 again_ c t14 w4 := ⟨_, fun _ _ _ h => h, hr c t14 w4 hI⟩
    clear h0 hI
    unfold F_sum_More_L0 at h
    refine Zp c166_18 P1 [(5, .pointer (some ⟨b_1, 0, none⟩)), (6, .int .u32 c), (12, .slice b_.ptr b_.len b_.cap), (13, .int .i64 ((b_.len : Nat) : Int)), (14, .int .i64 t14), (15, .bool (decide (t14 < ((b_.len : Nat) : Int))))] ?_
    refine Zs c166_19 c166_22 ?_
    refine Zc 15 (decide (t14 < ((b_.len : Nat) : Int))) c166_20 c166_21 (fun hb => ?_) (fun hb => ?_)
    · replace h := h.1 hb
      refine wpE_skip (by kernel_rfl) ?_
      change WpE _ _ c166_22 _ _ _
      refine Zs c166_23 c166_29 ?_
      refine Zb 1 c166_24 ?_
      refine Zt r166_25 c166_27 ?_
      refine Zn [] 0 [(5, [], .pointer (some ⟨b_1, 0, none⟩)), (6, [], .int .u32 c), (12, [], .slice b_.ptr b_.len b_.cap), (13, [], .int .i64 ((b_.len : Nat) : Int)), (14, [], .int .i64 t14)] ?_
      obtain ⟨hp_7, h⟩ := h
      refine Zv (fun pp => [(5, [], .pointer (some ⟨b_1, 0, none⟩)), (6, [], .int .u32 c), (12, [], .slice pp b_.len b_.cap), (13, [], .int .i64 ((b_.len : Nat) : Int)), (14, [], .int .i64 t14)]) hp_7 ?_
      obtain ⟨h0, h1, h⟩ := h
      refine Zi 79 5 12 14 (pblk b_.ptr) (poff b_.ptr) b_.len b_.cap t14 16 0 h0 h1 ?_
      refine Zn [] 1 [(5, [], .pointer (some ⟨b_1, 0, none⟩)), (6, [], .int .u32 c), (12, [], .slice (some ⟨(pblk b_.ptr), (poff b_.ptr), none⟩) b_.len b_.cap), (13, [], .int .i64 ((b_.len : Nat) : Int)), (14, [], .int .i64 t14), (16, [], .pointer (some ⟨(pblk b_.ptr), (poff b_.ptr) + t14.toNat, none⟩))] ?_
      obtain ⟨x, hc, h⟩ := h
      refine Zl 5 16 (pblk b_.ptr) ((poff b_.ptr) + t14.toNat) 5 17 hc ?_
      refine Zn P1 3 [(5, [], .pointer (some ⟨b_1, 0, none⟩)), (6, [], .int .u32 c), (8, [], .int .u8 x), (12, [], .slice (some ⟨(pblk b_.ptr), (poff b_.ptr), none⟩) b_.len b_.cap), (13, [], .int .i64 ((b_.len : Nat) : Int)), (14, [], .int .i64 t14)] ?_
      refine Zv (fun pp => [(5, [], .pointer (some ⟨b_1, 0, none⟩)), (6, [], .int .u32 c), (8, [], .int .u8 x), (12, [], .slice pp b_.len b_.cap), (13, [], .int .i64 ((b_.len : Nat) : Int)), (14, [], .int .i64 t14)]) hp_7.symm ?_
      refine Ze [(5, .pointer (some ⟨b_1, 0, none⟩)), (6, .int .u32 c), (8, .int .u8 x), (12, .slice b_.ptr b_.len b_.cap), (13, .int .i64 ((b_.len : Nat) : Int)), (14, .int .i64 t14)] ?_
      change WpE _ _ c166_27 _ _ _
      refine Zr r166_27 ?_
      refine Zn P4 4 [(5, [], .pointer (some ⟨b_1, 0, none⟩)), (6, [], .int .u32 c), (12, [], .slice b_.ptr b_.len b_.cap), (13, [], .int .i64 ((b_.len : Nat) : Int)), (14, [], .int .i64 t14), (21, [], .int .u8 (bxor .u8 (IntKind.u8.wrap c) x))] ?_
      obtain ⟨h0, h1, h⟩ := h
      refine reg_indexA1 (t := 237) (e := 118) (x := (Operand.tmp 5)) (ix := (Operand.tmp 21)) (b := b_1) (o := 0) (len := 256) (k := .u8) (j := (bxor .u8 (IntKind.u8.wrap c) x)) (ty := 0) (dst := some 22) (by kernel_rfl) (by kernel_rfl) (by kernel_rfl) (by kernel_rfl) (by kernel_rfl) h0 h1 ?_
      refine Zn [] 5 [(5, [], .pointer (some ⟨b_1, 0, none⟩)), (6, [], .int .u32 c), (12, [], .slice b_.ptr b_.len b_.cap), (13, [], .int .i64 ((b_.len : Nat) : Int)), (14, [], .int .i64 t14), (22, [], .pointer (some ⟨b_1, 0 + (bxor .u8 (IntKind.u8.wrap c) x).toNat, none⟩))] ?_
      obtain ⟨v23, hc, h⟩ := h
      refine Zl 118 22 b_1 (0 + (bxor .u8 (IntKind.u8.wrap c) x).toNat) 118 23 hc ?_
      refine Zf P4 [(5, .pointer (some ⟨b_1, 0, none⟩)), (6, .int .u32 (bxor .u32 v23 (Int.fdiv c (2 ^ 8)))), (12, .slice b_.ptr b_.len b_.cap), (13, .int .i64 ((b_.len : Nat) : Int)), (14, .int .i64 t14)] ?_
      change WpE _ _ c166_29 _ _ _
      refine Zr r166_29 ?_
      refine Zf P2 [(5, .pointer (some ⟨b_1, 0, none⟩)), (6, .int .u32 (bxor .u32 v23 (Int.fdiv c (2 ^ 8)))), (12, .slice b_.ptr b_.len b_.cap), (13, .int .i64 ((b_.len : Nat) : Int)), (14, .int .i64 (IntKind.i64.wrap (t14 + 1)))] ?_
      have hb_ := again__h _ _ _ h
      exact ⟨_, hb_.2, [(5, Value.pointer (some ⟨b_1, 0, none⟩)), (6, Value.int .u32 (bxor .u32 v23 (Int.fdiv c (2 ^ 8)))), (12, Value.slice b_.ptr b_.len b_.cap), (13, Value.int .i64 ((b_.len : Nat) : Int)), (14, Value.int .i64 (IntKind.i64.wrap (t14 + 1)))], Sub.mk (by kernel_rfl), (bxor .u32 v23 (Int.fdiv c (2 ^ 8))), (IntKind.i64.wrap (t14 + 1)), rfl, hb_.1, rfl⟩
    · replace h := h.2 hb
      refine wpE_exit (id := 0) (by kernel_rfl) ?_
      change WpE _ _ c166_31 _ _ _
      refine Zp c166_34 P3 [(4, .int .u32 (bxor .u32 (IntKind.max .u32) c))] ?_
      refine wpE_ret (by kernel_rfl) ?_
      repeat (first | refine seqQ_ret ?_ | refine blockQ_ret ?_ | refine loopQ_ret ?_ | refine cutQ_ret ?_)
      exact retS (rs := [(ResultVar.tmp 4)]) (v := Value.int .u32 (bxor .u32 (IntKind.max .u32) c)) (by kernel_rfl) (⟨by kernel_rfl, trivial⟩) ⟨(bxor .u32 (IntKind.max .u32) c), rfl, h⟩
  · rintro e w' ⟨v, rfl, r0, rfl, h⟩; exact ⟨r0, rfl, h⟩

/-! ### towpath/sum.table (function 199) -/
noncomputable def c199_0 := (Tryz.f199.body).getD Code.skip
noncomputable def c199_1 := Code.l c199_0
noncomputable def r199_1 := Code.ops c199_1
noncomputable def c199_3 := Code.r c199_0
noncomputable def c199_4 := Code.l c199_3
noncomputable def r199_4 := Code.ops c199_4
noncomputable def c199_6 := Code.r c199_3
noncomputable def c199_7 := Code.l c199_6
noncomputable def c199_10 := Code.r c199_7
noncomputable def c199_11 := Code.l c199_10
noncomputable def c199_12 := Code.l c199_11
noncomputable def c199_15 := Code.r c199_12
noncomputable def c199_16 := Code.l c199_15
noncomputable def c199_17 := Code.l c199_16
noncomputable def c199_18 := Code.r c199_16
noncomputable def c199_19 := Code.r c199_15
noncomputable def c199_20 := Code.l c199_19
noncomputable def c199_21 := Code.l c199_20
noncomputable def c199_24 := Code.r c199_21
noncomputable def c199_27 := Code.r c199_24
noncomputable def c199_28 := Code.l c199_27
noncomputable def c199_31 := Code.r c199_28
noncomputable def c199_32 := Code.l c199_31
noncomputable def c199_33 := Code.l c199_32
noncomputable def c199_36 := Code.r c199_33
noncomputable def c199_37 := Code.l c199_36
noncomputable def c199_38 := Code.l c199_37
noncomputable def c199_39 := Code.r c199_37
noncomputable def c199_40 := Code.r c199_36
noncomputable def c199_41 := Code.l c199_40
noncomputable def c199_42 := Code.l c199_41
noncomputable def r199_42 := Code.ops c199_42
noncomputable def c199_44 := Code.r c199_40
noncomputable def r199_44 := Code.ops c199_44
noncomputable def c199_46 := Code.r c199_27
noncomputable def r199_46 := Code.ops c199_46
noncomputable def c199_48 := Code.r c199_19
noncomputable def r199_48 := Code.ops c199_48
noncomputable def c199_50 := Code.r c199_6
noncomputable def c199_51 := Code.l c199_50
noncomputable def r199_51 := Code.ops c199_51
noncomputable def c199_53 := Code.r c199_50

theorem S_sum_table {w : World} {R : List Int → World → Prop} (h : F_sum_table R w) : C_sum_table w R := by
  unfold F_sum_table at h
  unfold C_sum_table
  refine Calls.mono (calls_of_wpE (args := []) (R := fun v w' => ∃ (r0 : List Int), r0.length = 256 ∧ v = Value.agg (List.map (Value.int .u32) r0).toArray ∧ R r0 w') Tryz.func199 (c := c199_0) (by kernel_rfl) 24 (by kernel_rfl) (by kernel_rfl) [] (by kernel_rfl) ?_) ?_
  · refine Zt r199_1 c199_3 ?_
    refine Zn [] 0 [] ?_
    refine Zw (some 0) (fun bb => .pointer (some ⟨bb, 0, none⟩)) (Obj.cells ((List.map (.int .u32) (List.replicate 256 0))).toArray ty_256_uint32 (0, 0)) (fun b_ w1 hb hw => ?_)
    replace h := h b_ w1 hb hw
    clear hb hw
    refine Ze [(0, .pointer (some ⟨b_, 0, none⟩))] ?_
    change WpE _ _ c199_3 _ _ _
    refine Zt r199_4 c199_6 ?_
    refine Zn [] 0 [(0, [], .pointer (some ⟨b_, 0, none⟩))] ?_
    refine Zw (some 1) (fun bb => .pointer (some ⟨bb, 0, none⟩)) (Obj.cells ((List.map (.int .u32) (List.replicate 256 0))).toArray ty_256_uint32 (0, 0)) (fun b_1 w2 hb hw => ?_)
    replace h := h b_1 w2 hb hw
    clear hb hw
    refine Ze [(0, .pointer (some ⟨b_, 0, none⟩)), (1, .pointer (some ⟨b_1, 0, none⟩))] ?_
    change WpE _ _ c199_6 _ _ _
    refine Zs c199_7 c199_50 ?_
    refine Zp c199_10 P1 [(0, .pointer (some ⟨b_, 0, none⟩)), (1, .pointer (some ⟨b_1, 0, none⟩)), (4, .int .i64 0)] ?_
    refine Zb 0 c199_11 ?_
    obtain ⟨I, μ, h0, hr⟩ := h
    refine wpE_loop (x := c199_12) (by kernel_rfl) (fun m l w => ∃ (t4 : Int), l = [(0, Value.pointer (some ⟨b_, 0, none⟩)), (1, Value.pointer (some ⟨b_1, 0, none⟩)), (4, Value.int .i64 t4)] ∧ I t4 w ∧ μ t4 w = m) (l' := [(0, Value.pointer (some ⟨b_, 0, none⟩)), (1, Value.pointer (some ⟨b_1, 0, none⟩)), (4, Value.int .i64 0)]) (Sub.mk (by kernel_rfl)) ⟨0, rfl, h0, rfl⟩ ?_
    rintro _ _ w3 ⟨t4, rfl, hI, rfl⟩
    obtain ⟨again_, again__h, h⟩ : ∃ again_ : Int → World → Prop, (∀ t4' w', again_ t4' w' → I t4' w' ∧ μ t4' w' < μ t4 w3) ∧ F_sum_table_L0 R b_ b_1 again_ t4 w3 := ⟨_, fun _ _ h => h, hr t4 w3 hI⟩
    clear h0 hI
    unfold F_sum_table_L0 at h
    refine Zp c199_15 P1 [(0, .pointer (some ⟨b_, 0, none⟩)), (1, .pointer (some ⟨b_1, 0, none⟩)), (4, .int .i64 t4), (5, .bool (decide (t4 < 256)))] ?_
    refine Zs c199_16 c199_19 ?_
    refine Zc 5 (decide (t4 < 256)) c199_17 c199_18 (fun hb => ?_) (fun hb => ?_)
    · replace h := h.1 hb
      refine wpE_skip (by kernel_rfl) ?_
      change WpE _ _ c199_19 _ _ _
      refine Zs c199_20 c199_48 ?_
      refine Zb 1 c199_21 ?_
      refine Zp c199_24 P2 [(0, .pointer (some ⟨b_, 0, none⟩)), (1, .pointer (some ⟨b_1, 0, none⟩)), (2, .int .i64 t4), (4, .int .i64 t4)] ?_
      refine Zp c199_27 P3 [(0, .pointer (some ⟨b_, 0, none⟩)), (1, .pointer (some ⟨b_1, 0, none⟩)), (2, .int .i64 t4), (3, .int .u32 (IntKind.u32.wrap t4)), (4, .int .i64 t4)] ?_
      refine Zs c199_28 c199_46 ?_
      refine Zp c199_31 P1 [(0, .pointer (some ⟨b_, 0, none⟩)), (1, .pointer (some ⟨b_1, 0, none⟩)), (2, .int .i64 t4), (3, .int .u32 (IntKind.u32.wrap t4)), (4, .int .i64 t4), (9, .int .i64 0)] ?_
      refine Zb 2 c199_32 ?_
      obtain ⟨I, μ, h0, hr⟩ := h
      refine wpE_loop (x := c199_33) (by kernel_rfl) (fun m l w => ∃ (c : Int) (t9 : Int), l = [(0, Value.pointer (some ⟨b_, 0, none⟩)), (1, Value.pointer (some ⟨b_1, 0, none⟩)), (2, Value.int .i64 t4), (3, Value.int .u32 c), (4, Value.int .i64 t4), (9, Value.int .i64 t9)] ∧ I c t9 w ∧ μ c t9 w = m) (l' := [(0, Value.pointer (some ⟨b_, 0, none⟩)), (1, Value.pointer (some ⟨b_1, 0, none⟩)), (2, Value.int .i64 t4), (3, Value.int .u32 (IntKind.u32.wrap t4)), (4, Value.int .i64 t4), (9, Value.int .i64 0)]) (Sub.mk (by kernel_rfl)) ⟨(IntKind.u32.wrap t4), 0, rfl, h0, rfl⟩ ?_
      rintro _ _ w4 ⟨c, t9, rfl, hI, rfl⟩
      obtain ⟨again_1, again_1_h, h⟩ : ∃ again_1 : Int → Int → World → Prop, (∀ c' t9' w', again_1 c' t9' w' → I c' t9' w' ∧ μ c' t9' w' < μ c t9 w4) ∧ F_sum_table_L1 b_1 t4 again_ again_1 c t9 w4 := ⟨_, fun _ _ _ h => h, hr c t9 w4 hI⟩
      clear h0 hI
      unfold F_sum_table_L1 at h
      refine Zp c199_36 P1 [(0, .pointer (some ⟨b_, 0, none⟩)), (1, .pointer (some ⟨b_1, 0, none⟩)), (2, .int .i64 t4), (3, .int .u32 c), (4, .int .i64 t4), (9, .int .i64 t9), (10, .bool (decide (t9 < 8)))] ?_
      refine Zs c199_37 c199_40 ?_
      refine Zc 10 (decide (t9 < 8)) c199_38 c199_39 (fun hb => ?_) (fun hb => ?_)
      · replace h := h.1 hb
        refine wpE_skip (by kernel_rfl) ?_
        change WpE _ _ c199_40 _ _ _
        refine Zs c199_41 c199_44 ?_
        refine Zb 3 c199_42 ?_
        refine Zr r199_42 ?_
        refine Zf (Pl 8) [(0, .pointer (some ⟨b_, 0, none⟩)), (1, .pointer (some ⟨b_1, 0, none⟩)), (2, .int .i64 t4), (3, .int .u32 (bxor .u32 (Int.fdiv c (2 ^ 1)) (band .u32 2197175160 (IntKind.u32.wrap (0 - (band .u32 c 1)))))), (4, .int .i64 t4), (9, .int .i64 t9)] ?_
        change WpE _ _ c199_44 _ _ _
        refine Zr r199_44 ?_
        refine Zf P2 [(0, .pointer (some ⟨b_, 0, none⟩)), (1, .pointer (some ⟨b_1, 0, none⟩)), (2, .int .i64 t4), (3, .int .u32 (bxor .u32 (Int.fdiv c (2 ^ 1)) (band .u32 2197175160 (IntKind.u32.wrap (0 - (band .u32 c 1)))))), (4, .int .i64 t4), (9, .int .i64 (IntKind.i64.wrap (t9 + 1)))] ?_
        have hb_ := again_1_h _ _ _ h
        exact ⟨_, hb_.2, [(0, Value.pointer (some ⟨b_, 0, none⟩)), (1, Value.pointer (some ⟨b_1, 0, none⟩)), (2, Value.int .i64 t4), (3, Value.int .u32 (bxor .u32 (Int.fdiv c (2 ^ 1)) (band .u32 2197175160 (IntKind.u32.wrap (0 - (band .u32 c 1)))))), (4, Value.int .i64 t4), (9, Value.int .i64 (IntKind.i64.wrap (t9 + 1)))], Sub.mk (by kernel_rfl), (bxor .u32 (Int.fdiv c (2 ^ 1)) (band .u32 2197175160 (IntKind.u32.wrap (0 - (band .u32 c 1))))), (IntKind.i64.wrap (t9 + 1)), rfl, hb_.1, rfl⟩
      · replace h := h.2 hb
        refine wpE_exit (id := 2) (by kernel_rfl) ?_
        change WpE _ _ c199_46 _ _ _
        refine Zr r199_46 ?_
        refine Zn P2 2 [(0, [], .pointer (some ⟨b_, 0, none⟩)), (1, [], .pointer (some ⟨b_1, 0, none⟩)), (4, [], .int .i64 t4), (19, [], .int .i64 t4), (20, [], .int .u32 c)] ?_
        obtain ⟨h0, h1, h⟩ := h
        refine reg_indexA1 (t := 237) (e := 118) (x := (Operand.tmp 1)) (ix := (Operand.tmp 19)) (b := b_1) (o := 0) (len := 256) (k := .i64) (j := t4) (ty := 0) (dst := some 21) (by kernel_rfl) (by kernel_rfl) (by kernel_rfl) (by kernel_rfl) (by kernel_rfl) h0 h1 ?_
        refine Zn [] 3 [(0, [], .pointer (some ⟨b_, 0, none⟩)), (1, [], .pointer (some ⟨b_1, 0, none⟩)), (4, [], .int .i64 t4), (20, [], .int .u32 c), (21, [], .pointer (some ⟨b_1, 0 + t4.toNat, none⟩))] ?_
        obtain ⟨hc, h⟩ := h
        refine Zo 118 21 20 b_1 (0 + t4.toNat) 1 [.int .u32 c] hc (fun w5 hw => ?_)
        replace h := h w5 hw
        clear hw
        refine Ze [(0, .pointer (some ⟨b_, 0, none⟩)), (1, .pointer (some ⟨b_1, 0, none⟩)), (4, .int .i64 t4)] ?_
        change WpE _ _ c199_48 _ _ _
        refine Zr r199_48 ?_
        refine Zf P2 [(0, .pointer (some ⟨b_, 0, none⟩)), (1, .pointer (some ⟨b_1, 0, none⟩)), (4, .int .i64 (IntKind.i64.wrap (t4 + 1)))] ?_
        have hb_ := again__h _ _ h
        exact ⟨_, hb_.2, [(0, Value.pointer (some ⟨b_, 0, none⟩)), (1, Value.pointer (some ⟨b_1, 0, none⟩)), (4, Value.int .i64 (IntKind.i64.wrap (t4 + 1)))], Sub.mk (by kernel_rfl), (IntKind.i64.wrap (t4 + 1)), rfl, hb_.1, rfl⟩
    · replace h := h.2 hb
      refine wpE_exit (id := 0) (by kernel_rfl) ?_
      change WpE _ _ c199_50 _ _ _
      refine Zt r199_51 c199_53 ?_
      refine Zn [] 0 [(0, [], .pointer (some ⟨b_, 0, none⟩)), (1, [], .pointer (some ⟨b_1, 0, none⟩))] ?_
      obtain ⟨v23, hl_v23_0, hc, h⟩ := h
      refine reg_loadN (t := 237) (a := (Operand.tmp 1)) (b := b_1) (o := 0) (ty := 237) (dst := some 23) (List.map (Value.int .u32) v23) (by kernel_rfl) (by kernel_rfl) (by kernel_rfl) (k := 256) (by kernel_rfl) (by simp [hl_v23_0]) hc ?_
      refine Zn [] 1 [(0, [], .pointer (some ⟨b_, 0, none⟩)), (23, [], .agg (List.map (.int .u32) v23).toArray)] ?_
      obtain ⟨hc, h⟩ := h
      refine reg_store (t := 237) (a := (Operand.tmp 0)) (x := (Operand.tmp 23)) (b := b_) (o := 0) (ty := 0) (dst := none) (List.map (Value.int .u32) v23) (by kernel_rfl) (by kernel_rfl) (by kernel_rfl) (k := 256) (by kernel_rfl) (by simp [*]) (by simp [oneCells, oneCell, List.all_eq_true]) hc (fun w6 hw => ?_)
      replace h := h w6 hw
      clear hw
      refine Ze [(0, .pointer (some ⟨b_, 0, none⟩))] ?_
      change WpE _ _ c199_53 _ _ _
      refine wpE_ret (by kernel_rfl) ?_
      obtain ⟨res, hl_res_0, hc_res, h⟩ := h
      repeat (first | refine seqQ_ret ?_ | refine blockQ_ret ?_ | refine loopQ_ret ?_ | refine cutQ_ret ?_)
      exact retS (rs := [(ResultVar.cell 0 237)]) (v := Value.agg (List.map (Value.int .u32) res).toArray) (by kernel_rfl) (⟨b_, 0, (List.map (Value.int .u32) res), by kernel_rfl, hc_res, (sizeP_of (k := 256) (by kernel_rfl) (by simp [hl_res_0])), .inl ⟨by kernel_rfl, rfl⟩, trivial⟩) ⟨res, (by simp [*]), rfl, h⟩
  · rintro e w' ⟨v, rfl, r0, hl0, rfl, h⟩; exact ⟨r0, hl0, rfl, h⟩
end Go.Proofs.YtpdegdnigcnjiaaGreatDoor
