/- WRITTEN BY PROGRAM (dec.py): for each Go function the clean formula F, the call's contract C, and the proof S that F gives C. -/
import Derived.Test.YtpdegdnigcnjiaaGreatDoorRows
import Derived.Test.YtpdegdnigcnjiaaGreatDoorGF
namespace Go.Proofs.YtpdegdnigcnjiaaGreatDoor
open Go
set_option linter.unusedVariables false
set_option maxRecDepth 100000
set_option maxHeartbeats 4000000
noncomputable section

/-! ### towpath/sum.CRC (function 107) -/
def c107_0 := cb_ Tryz.f107
def c107_3 := cr_ c107_0
def c107_4 := cl_ c107_3
def r107_4 := co_ c107_4
def c107_6 := cr_ c107_3

theorem S_sum_CRC {b_ : Slc} {w : World} {R : Int → World → Prop} (h : F_sum_CRC b_ R w) : C_sum_CRC b_ w R := by
 unfold F_sum_CRC at h
 unfold C_sum_CRC
 refine Calls.mono (calls_of_wpE (args := [sv_ b_]) (R := fun v w' => ∃ (r0 : Int), v = Value.int .u32 r0 ∧ R r0 w') Tryz.func107 (c := c107_0) (by kernel_rfl) 5 (by kernel_rfl) (by kernel_rfl) [(0, sv_ b_)] (by kernel_rfl) ?_) ?_
 · refine Zp c107_3 P1 [(0, sv_ b_)] ?_
   refine Zt r107_4 c107_6 ?_
   refine Zn P1 1 [(3, [], sv_ b_)] ?_
   refine Zm 166 #[.int .u32 0, sv_ b_] (some 4) (Calls.mono h ?_)
   rintro _ w1 ⟨v4, rfl, h⟩
   refine ⟨_, rfl, ?_⟩
   refine Zf P1 [(2, .int .u32 v4)] ?_
   change WpE _ _ c107_6 _ _ _
   refine wpE_ret (by kernel_rfl) ?_
   repeat (first | refine seqQ_ret ?_ | refine blockQ_ret ?_ | refine loopQ_ret ?_ | refine cutQ_ret ?_)
   exact retS (rs := [(ResultVar.tmp 2)]) (v := Value.int .u32 v4) (by kernel_rfl) (⟨by kernel_rfl, trivial⟩) ⟨v4, rfl, h⟩
 · rintro e w' ⟨v, rfl, r0, rfl, h⟩; exact ⟨r0, rfl, h⟩

/-! ### towpath/sum.More (function 166) -/
def c166_0 := cb_ Tryz.f166
def c166_3 := cr_ c166_0
def c166_4 := cl_ c166_3
def r166_4 := co_ c166_4
def c166_6 := cr_ c166_3
def c166_9 := cr_ c166_6
def c166_10 := cl_ c166_9
def c166_13 := cr_ c166_10
def c166_14 := cl_ c166_13
def c166_15 := cl_ c166_14
def c166_18 := cr_ c166_15
def c166_19 := cl_ c166_18
def c166_20 := cl_ c166_19
def c166_21 := cr_ c166_19
def c166_22 := cr_ c166_18
def c166_23 := cl_ c166_22
def c166_24 := cl_ c166_23
def c166_25 := cl_ c166_24
def r166_25 := co_ c166_25
def c166_27 := cr_ c166_24
def r166_27 := co_ c166_27
def c166_29 := cr_ c166_22
def r166_29 := co_ c166_29
def c166_31 := cr_ c166_9
def c166_34 := cr_ c166_31

theorem S_sum_More {sum : Int} {b_ : Slc} {w : World} {R : Int → World → Prop} (h : F_sum_More sum b_ R w) : C_sum_More sum b_ w R := by
 unfold F_sum_More at h
 unfold C_sum_More
 refine Calls.mono (calls_of_wpE (args := [Value.int .u32 sum, sv_ b_]) (R := fun v w' => ∃ (r0 : Int), v = Value.int .u32 r0 ∧ R r0 w') Tryz.func166 (c := c166_0) (by kernel_rfl) 30 (by kernel_rfl) (by kernel_rfl) [(0, Value.int .u32 sum), (1, sv_ b_)] (by kernel_rfl) ?_) ?_
 · refine Zp c166_3 P1 [(0, .int .u32 sum), (1, sv_ b_)] ?_
   refine Zt r166_4 c166_6 ?_
   refine Zn [] 0 [(0, [], .int .u32 sum), (1, [], sv_ b_)] ?_
   refine Zm 199 #[] (some 9) (Calls.mono h ?_)
   rintro _ w1 ⟨v9, hl_v9_0, rfl, h⟩
   refine ⟨_, rfl, ?_⟩
   replace h := h hl_v9_0
   refine Zn [] 1 [(0, [], .int .u32 sum), (1, [], sv_ b_), (9, [], .agg (List.map (.int .u32) v9).toArray)] ?_
   refine Zw (some 5) (fun bb => pv_ bb) (Obj.cells ((List.map (.int .u32) (List.replicate 256 0))).toArray ty_256_uint32 (0, 0)) (fun b_1 w2 hb hw => ?_)
   replace h := h b_1 w2 hb hw
   clear hb hw
   refine Zn [] 2 [(0, [], .int .u32 sum), (1, [], sv_ b_), (5, [], pv_ b_1), (9, [], .agg (List.map (.int .u32) v9).toArray)] ?_
   obtain ⟨hc, h⟩ := h
   refine reg_store (t := 237) (a := (Operand.tmp 5)) (x := (Operand.tmp 9)) (b := b_1) (o := 0) (ty := 0) (dst := none) (List.map (Value.int .u32) v9) (by kernel_rfl) (by kernel_rfl) (by kernel_rfl) (k := 256) (by kernel_rfl) (by simp [*]) (by simp [oneCells, oneCell, List.all_eq_true]) hc (fun w3 hw => ?_)
   replace h := h w3 hw
   clear hw
   refine Ze [(0, .int .u32 sum), (1, sv_ b_), (5, pv_ b_1)] ?_
   change WpE _ _ c166_6 _ _ _
   refine Zp c166_9 P3 [(1, sv_ b_), (5, pv_ b_1), (6, .int .u32 (bxor .u32 (IntKind.max .u32) sum))] ?_
   refine Zs c166_10 c166_31 ?_
   refine Zp c166_13 P3 [(5, pv_ b_1), (6, .int .u32 (bxor .u32 (IntKind.max .u32) sum)), (12, sv_ b_), (13, .int .i64 ((b_.len : Nat) : Int)), (14, .int .i64 0)] ?_
   refine Zb 0 c166_14 ?_
   obtain ⟨I, μ, h0, hr⟩ := h
   refine wpE_loop (x := c166_15) (by kernel_rfl) (fun m l w => ∃ (c : Int) (t14 : Int), l = [(5, pv_ b_1), (6, Value.int .u32 c), (12, sv_ b_), (13, Value.int .i64 ((b_.len : Nat) : Int)), (14, Value.int .i64 t14)] ∧ I c t14 w ∧ μ c t14 w = m) (l' := [(5, pv_ b_1), (6, Value.int .u32 (bxor .u32 (IntKind.max .u32) sum)), (12, sv_ b_), (13, Value.int .i64 ((b_.len : Nat) : Int)), (14, Value.int .i64 0)]) (Sub.mk (by kernel_rfl)) ⟨(bxor .u32 (IntKind.max .u32) sum), 0, rfl, h0, rfl⟩ ?_
   rintro _ _ w4 ⟨c, t14, rfl, hI, rfl⟩
   obtain ⟨again_, again__h, h⟩ : ∃ again_ : Int → Int → World → Prop, (∀ c' t14' w', again_ c' t14' w' → I c' t14' w' ∧ μ c' t14' w' < μ c t14 w4) ∧ F_sum_More_L0 b_ R b_1 again_ c t14 w4 := ⟨_, fun _ _ _ h => h, hr c t14 w4 hI⟩
   clear h0 hI
   unfold F_sum_More_L0 at h
   refine Zp c166_18 P1 [(5, pv_ b_1), (6, .int .u32 c), (12, sv_ b_), (13, .int .i64 ((b_.len : Nat) : Int)), (14, .int .i64 t14), (15, .bool (decide (t14 < ((b_.len : Nat) : Int))))] ?_
   refine Zs c166_19 c166_22 ?_
   refine Zc 15 (decide (t14 < ((b_.len : Nat) : Int))) c166_20 c166_21 (fun hb => ?_) (fun hb => ?_)
   · replace h := h.1 hb
     refine wpE_skip (by kernel_rfl) ?_
     change WpE _ _ c166_22 _ _ _
     refine Zs c166_23 c166_29 ?_
     refine Zb 1 c166_24 ?_
     refine Zt r166_25 c166_27 ?_
     refine Zn [] 0 [(5, [], pv_ b_1), (6, [], .int .u32 c), (12, [], sv_ b_), (13, [], .int .i64 ((b_.len : Nat) : Int)), (14, [], .int .i64 t14)] ?_
     obtain ⟨hp_7, h⟩ := h
     refine Zv (fun pp => [(5, [], pv_ b_1), (6, [], .int .u32 c), (12, [], .slice pp b_.len b_.cap), (13, [], .int .i64 ((b_.len : Nat) : Int)), (14, [], .int .i64 t14)]) hp_7 ?_
     obtain ⟨h0, h1, h⟩ := h
     refine Zi 79 5 12 14 (pblk b_.ptr) (poff b_.ptr) b_.len b_.cap t14 16 0 h0 h1 ?_
     refine Zn [] 1 [(5, [], pv_ b_1), (6, [], .int .u32 c), (12, [], .slice (some ⟨(pblk b_.ptr), (poff b_.ptr), none⟩) b_.len b_.cap), (13, [], .int .i64 ((b_.len : Nat) : Int)), (14, [], .int .i64 t14), (16, [], .pointer (some ⟨(pblk b_.ptr), (poff b_.ptr) + t14.toNat, none⟩))] ?_
     obtain ⟨x, hc, h⟩ := h
     refine Zl 5 16 (pblk b_.ptr) ((poff b_.ptr) + t14.toNat) 5 17 hc ?_
     refine Zn P1 3 [(5, [], pv_ b_1), (6, [], .int .u32 c), (8, [], .int .u8 x), (12, [], .slice (some ⟨(pblk b_.ptr), (poff b_.ptr), none⟩) b_.len b_.cap), (13, [], .int .i64 ((b_.len : Nat) : Int)), (14, [], .int .i64 t14)] ?_
     refine Zv (fun pp => [(5, [], pv_ b_1), (6, [], .int .u32 c), (8, [], .int .u8 x), (12, [], .slice pp b_.len b_.cap), (13, [], .int .i64 ((b_.len : Nat) : Int)), (14, [], .int .i64 t14)]) hp_7.symm ?_
     refine Ze [(5, pv_ b_1), (6, .int .u32 c), (8, .int .u8 x), (12, sv_ b_), (13, .int .i64 ((b_.len : Nat) : Int)), (14, .int .i64 t14)] ?_
     change WpE _ _ c166_27 _ _ _
     refine Zr r166_27 ?_
     refine Zn P4 4 [(5, [], pv_ b_1), (6, [], .int .u32 c), (12, [], sv_ b_), (13, [], .int .i64 ((b_.len : Nat) : Int)), (14, [], .int .i64 t14), (21, [], .int .u8 (bxor .u8 (IntKind.u8.wrap c) x))] ?_
     obtain ⟨h0, h1, h⟩ := h
     refine reg_indexA1 (t := 237) (e := 118) (x := (Operand.tmp 5)) (ix := (Operand.tmp 21)) (b := b_1) (o := 0) (len := 256) (k := .u8) (j := (bxor .u8 (IntKind.u8.wrap c) x)) (ty := 0) (dst := some 22) (by kernel_rfl) (by kernel_rfl) (by kernel_rfl) (by kernel_rfl) (by kernel_rfl) h0 h1 ?_
     refine Zn [] 5 [(5, [], pv_ b_1), (6, [], .int .u32 c), (12, [], sv_ b_), (13, [], .int .i64 ((b_.len : Nat) : Int)), (14, [], .int .i64 t14), (22, [], .pointer (some ⟨b_1, 0 + (bxor .u8 (IntKind.u8.wrap c) x).toNat, none⟩))] ?_
     obtain ⟨v23, hc, h⟩ := h
     refine Zl 118 22 b_1 (0 + (bxor .u8 (IntKind.u8.wrap c) x).toNat) 118 23 hc ?_
     refine Zf P4 [(5, pv_ b_1), (6, .int .u32 (bxor .u32 v23 (Int.fdiv c (2 ^ 8)))), (12, sv_ b_), (13, .int .i64 ((b_.len : Nat) : Int)), (14, .int .i64 t14)] ?_
     change WpE _ _ c166_29 _ _ _
     refine Zr r166_29 ?_
     refine Zf P2 [(5, pv_ b_1), (6, .int .u32 (bxor .u32 v23 (Int.fdiv c (2 ^ 8)))), (12, sv_ b_), (13, .int .i64 ((b_.len : Nat) : Int)), (14, .int .i64 (IntKind.i64.wrap (t14 + 1)))] ?_
     have hb_ := again__h _ _ _ h
     exact ⟨_, hb_.2, [(5, pv_ b_1), (6, Value.int .u32 (bxor .u32 v23 (Int.fdiv c (2 ^ 8)))), (12, sv_ b_), (13, Value.int .i64 ((b_.len : Nat) : Int)), (14, Value.int .i64 (IntKind.i64.wrap (t14 + 1)))], Sub.mk (by kernel_rfl), (bxor .u32 v23 (Int.fdiv c (2 ^ 8))), (IntKind.i64.wrap (t14 + 1)), rfl, hb_.1, rfl⟩
   · replace h := h.2 hb
     refine wpE_exit (id := 0) (by kernel_rfl) ?_
     change WpE _ _ c166_31 _ _ _
     refine Zp c166_34 P3 [(4, .int .u32 (bxor .u32 (IntKind.max .u32) c))] ?_
     refine wpE_ret (by kernel_rfl) ?_
     repeat (first | refine seqQ_ret ?_ | refine blockQ_ret ?_ | refine loopQ_ret ?_ | refine cutQ_ret ?_)
     exact retS (rs := [(ResultVar.tmp 4)]) (v := Value.int .u32 (bxor .u32 (IntKind.max .u32) c)) (by kernel_rfl) (⟨by kernel_rfl, trivial⟩) ⟨(bxor .u32 (IntKind.max .u32) c), rfl, h⟩
 · rintro e w' ⟨v, rfl, r0, rfl, h⟩; exact ⟨r0, rfl, h⟩

/-! ### towpath/sum.table (function 199) -/
def c199_0 := cb_ Tryz.f199
def c199_1 := cl_ c199_0
def r199_1 := co_ c199_1
def c199_3 := cr_ c199_0
def c199_4 := cl_ c199_3
def r199_4 := co_ c199_4
def c199_6 := cr_ c199_3
def c199_7 := cl_ c199_6
def c199_10 := cr_ c199_7
def c199_11 := cl_ c199_10
def c199_12 := cl_ c199_11
def c199_15 := cr_ c199_12
def c199_16 := cl_ c199_15
def c199_17 := cl_ c199_16
def c199_18 := cr_ c199_16
def c199_19 := cr_ c199_15
def c199_20 := cl_ c199_19
def c199_21 := cl_ c199_20
def c199_24 := cr_ c199_21
def c199_27 := cr_ c199_24
def c199_28 := cl_ c199_27
def c199_31 := cr_ c199_28
def c199_32 := cl_ c199_31
def c199_33 := cl_ c199_32
def c199_36 := cr_ c199_33
def c199_37 := cl_ c199_36
def c199_38 := cl_ c199_37
def c199_39 := cr_ c199_37
def c199_40 := cr_ c199_36
def c199_41 := cl_ c199_40
def c199_42 := cl_ c199_41
def r199_42 := co_ c199_42
def c199_44 := cr_ c199_40
def r199_44 := co_ c199_44
def c199_46 := cr_ c199_27
def r199_46 := co_ c199_46
def c199_48 := cr_ c199_19
def r199_48 := co_ c199_48
def c199_50 := cr_ c199_6
def c199_51 := cl_ c199_50
def r199_51 := co_ c199_51
def c199_53 := cr_ c199_50

theorem S_sum_table {w : World} {R : List Int → World → Prop} (h : F_sum_table R w) : C_sum_table w R := by
 unfold F_sum_table at h
 unfold C_sum_table
 refine Calls.mono (calls_of_wpE (args := []) (R := fun v w' => ∃ (r0 : List Int), r0.length = 256 ∧ v = Value.agg (List.map (Value.int .u32) r0).toArray ∧ R r0 w') Tryz.func199 (c := c199_0) (by kernel_rfl) 24 (by kernel_rfl) (by kernel_rfl) [] (by kernel_rfl) ?_) ?_
 · refine Zt r199_1 c199_3 ?_
   refine Zn [] 0 [] ?_
   refine Zw (some 0) (fun bb => pv_ bb) (Obj.cells ((List.map (.int .u32) (List.replicate 256 0))).toArray ty_256_uint32 (0, 0)) (fun b_ w1 hb hw => ?_)
   replace h := h b_ w1 hb hw
   clear hb hw
   refine Ze [(0, pv_ b_)] ?_
   change WpE _ _ c199_3 _ _ _
   refine Zt r199_4 c199_6 ?_
   refine Zn [] 0 [(0, [], pv_ b_)] ?_
   refine Zw (some 1) (fun bb => pv_ bb) (Obj.cells ((List.map (.int .u32) (List.replicate 256 0))).toArray ty_256_uint32 (0, 0)) (fun b_1 w2 hb hw => ?_)
   replace h := h b_1 w2 hb hw
   clear hb hw
   refine Ze [(0, pv_ b_), (1, pv_ b_1)] ?_
   change WpE _ _ c199_6 _ _ _
   refine Zs c199_7 c199_50 ?_
   refine Zp c199_10 P1 [(0, pv_ b_), (1, pv_ b_1), (4, .int .i64 0)] ?_
   refine Zb 0 c199_11 ?_
   obtain ⟨I, μ, h0, hr⟩ := h
   refine wpE_loop (x := c199_12) (by kernel_rfl) (fun m l w => ∃ (t4 : Int), l = [(0, pv_ b_), (1, pv_ b_1), (4, Value.int .i64 t4)] ∧ I t4 w ∧ μ t4 w = m) (l' := [(0, pv_ b_), (1, pv_ b_1), (4, Value.int .i64 0)]) (Sub.mk (by kernel_rfl)) ⟨0, rfl, h0, rfl⟩ ?_
   rintro _ _ w3 ⟨t4, rfl, hI, rfl⟩
   obtain ⟨again_, again__h, h⟩ : ∃ again_ : Int → World → Prop, (∀ t4' w', again_ t4' w' → I t4' w' ∧ μ t4' w' < μ t4 w3) ∧ F_sum_table_L0 R b_ b_1 again_ t4 w3 := ⟨_, fun _ _ h => h, hr t4 w3 hI⟩
   clear h0 hI
   unfold F_sum_table_L0 at h
   refine Zp c199_15 P1 [(0, pv_ b_), (1, pv_ b_1), (4, .int .i64 t4), (5, .bool (decide (t4 < 256)))] ?_
   refine Zs c199_16 c199_19 ?_
   refine Zc 5 (decide (t4 < 256)) c199_17 c199_18 (fun hb => ?_) (fun hb => ?_)
   · replace h := h.1 hb
     refine wpE_skip (by kernel_rfl) ?_
     change WpE _ _ c199_19 _ _ _
     refine Zs c199_20 c199_48 ?_
     refine Zb 1 c199_21 ?_
     refine Zp c199_24 P2 [(0, pv_ b_), (1, pv_ b_1), (2, .int .i64 t4), (4, .int .i64 t4)] ?_
     refine Zp c199_27 P3 [(0, pv_ b_), (1, pv_ b_1), (2, .int .i64 t4), (3, .int .u32 (IntKind.u32.wrap t4)), (4, .int .i64 t4)] ?_
     refine Zs c199_28 c199_46 ?_
     refine Zp c199_31 P1 [(0, pv_ b_), (1, pv_ b_1), (2, .int .i64 t4), (3, .int .u32 (IntKind.u32.wrap t4)), (4, .int .i64 t4), (9, .int .i64 0)] ?_
     refine Zb 2 c199_32 ?_
     obtain ⟨I, μ, h0, hr⟩ := h
     refine wpE_loop (x := c199_33) (by kernel_rfl) (fun m l w => ∃ (c : Int) (t9 : Int), l = [(0, pv_ b_), (1, pv_ b_1), (2, Value.int .i64 t4), (3, Value.int .u32 c), (4, Value.int .i64 t4), (9, Value.int .i64 t9)] ∧ I c t9 w ∧ μ c t9 w = m) (l' := [(0, pv_ b_), (1, pv_ b_1), (2, Value.int .i64 t4), (3, Value.int .u32 (IntKind.u32.wrap t4)), (4, Value.int .i64 t4), (9, Value.int .i64 0)]) (Sub.mk (by kernel_rfl)) ⟨(IntKind.u32.wrap t4), 0, rfl, h0, rfl⟩ ?_
     rintro _ _ w4 ⟨c, t9, rfl, hI, rfl⟩
     obtain ⟨again_1, again_1_h, h⟩ : ∃ again_1 : Int → Int → World → Prop, (∀ c' t9' w', again_1 c' t9' w' → I c' t9' w' ∧ μ c' t9' w' < μ c t9 w4) ∧ F_sum_table_L1 b_1 t4 again_ again_1 c t9 w4 := ⟨_, fun _ _ _ h => h, hr c t9 w4 hI⟩
     clear h0 hI
     unfold F_sum_table_L1 at h
     refine Zp c199_36 P1 [(0, pv_ b_), (1, pv_ b_1), (2, .int .i64 t4), (3, .int .u32 c), (4, .int .i64 t4), (9, .int .i64 t9), (10, .bool (decide (t9 < 8)))] ?_
     refine Zs c199_37 c199_40 ?_
     refine Zc 10 (decide (t9 < 8)) c199_38 c199_39 (fun hb => ?_) (fun hb => ?_)
     · replace h := h.1 hb
       refine wpE_skip (by kernel_rfl) ?_
       change WpE _ _ c199_40 _ _ _
       refine Zs c199_41 c199_44 ?_
       refine Zb 3 c199_42 ?_
       refine Zr r199_42 ?_
       refine Zf (Pl 8) [(0, pv_ b_), (1, pv_ b_1), (2, .int .i64 t4), (3, .int .u32 (bxor .u32 (Int.fdiv c (2 ^ 1)) (band .u32 2197175160 (IntKind.u32.wrap (0 - (band .u32 c 1)))))), (4, .int .i64 t4), (9, .int .i64 t9)] ?_
       change WpE _ _ c199_44 _ _ _
       refine Zr r199_44 ?_
       refine Zf P2 [(0, pv_ b_), (1, pv_ b_1), (2, .int .i64 t4), (3, .int .u32 (bxor .u32 (Int.fdiv c (2 ^ 1)) (band .u32 2197175160 (IntKind.u32.wrap (0 - (band .u32 c 1)))))), (4, .int .i64 t4), (9, .int .i64 (IntKind.i64.wrap (t9 + 1)))] ?_
       have hb_ := again_1_h _ _ _ h
       exact ⟨_, hb_.2, [(0, pv_ b_), (1, pv_ b_1), (2, Value.int .i64 t4), (3, Value.int .u32 (bxor .u32 (Int.fdiv c (2 ^ 1)) (band .u32 2197175160 (IntKind.u32.wrap (0 - (band .u32 c 1)))))), (4, Value.int .i64 t4), (9, Value.int .i64 (IntKind.i64.wrap (t9 + 1)))], Sub.mk (by kernel_rfl), (bxor .u32 (Int.fdiv c (2 ^ 1)) (band .u32 2197175160 (IntKind.u32.wrap (0 - (band .u32 c 1))))), (IntKind.i64.wrap (t9 + 1)), rfl, hb_.1, rfl⟩
     · replace h := h.2 hb
       refine wpE_exit (id := 2) (by kernel_rfl) ?_
       change WpE _ _ c199_46 _ _ _
       refine Zr r199_46 ?_
       refine Zn P2 2 [(0, [], pv_ b_), (1, [], pv_ b_1), (4, [], .int .i64 t4), (19, [], .int .i64 t4), (20, [], .int .u32 c)] ?_
       obtain ⟨h0, h1, h⟩ := h
       refine reg_indexA1 (t := 237) (e := 118) (x := (Operand.tmp 1)) (ix := (Operand.tmp 19)) (b := b_1) (o := 0) (len := 256) (k := .i64) (j := t4) (ty := 0) (dst := some 21) (by kernel_rfl) (by kernel_rfl) (by kernel_rfl) (by kernel_rfl) (by kernel_rfl) h0 h1 ?_
       refine Zn [] 3 [(0, [], pv_ b_), (1, [], pv_ b_1), (4, [], .int .i64 t4), (20, [], .int .u32 c), (21, [], .pointer (some ⟨b_1, 0 + t4.toNat, none⟩))] ?_
       obtain ⟨hc, h⟩ := h
       refine Zo 118 21 20 b_1 (0 + t4.toNat) 1 [.int .u32 c] hc (fun w5 hw => ?_)
       replace h := h w5 hw
       clear hw
       refine Ze [(0, pv_ b_), (1, pv_ b_1), (4, .int .i64 t4)] ?_
       change WpE _ _ c199_48 _ _ _
       refine Zr r199_48 ?_
       refine Zf P2 [(0, pv_ b_), (1, pv_ b_1), (4, .int .i64 (IntKind.i64.wrap (t4 + 1)))] ?_
       have hb_ := again__h _ _ h
       exact ⟨_, hb_.2, [(0, pv_ b_), (1, pv_ b_1), (4, Value.int .i64 (IntKind.i64.wrap (t4 + 1)))], Sub.mk (by kernel_rfl), (IntKind.i64.wrap (t4 + 1)), rfl, hb_.1, rfl⟩
   · replace h := h.2 hb
     refine wpE_exit (id := 0) (by kernel_rfl) ?_
     change WpE _ _ c199_50 _ _ _
     refine Zt r199_51 c199_53 ?_
     refine Zn [] 0 [(0, [], pv_ b_), (1, [], pv_ b_1)] ?_
     obtain ⟨v23, hl_v23_0, hc, h⟩ := h
     refine reg_loadN (t := 237) (a := (Operand.tmp 1)) (b := b_1) (o := 0) (ty := 237) (dst := some 23) (List.map (Value.int .u32) v23) (by kernel_rfl) (by kernel_rfl) (by kernel_rfl) (k := 256) (by kernel_rfl) (by simp [hl_v23_0]) hc ?_
     refine Zn [] 1 [(0, [], pv_ b_), (23, [], .agg (List.map (.int .u32) v23).toArray)] ?_
     obtain ⟨hc, h⟩ := h
     refine reg_store (t := 237) (a := (Operand.tmp 0)) (x := (Operand.tmp 23)) (b := b_) (o := 0) (ty := 0) (dst := none) (List.map (Value.int .u32) v23) (by kernel_rfl) (by kernel_rfl) (by kernel_rfl) (k := 256) (by kernel_rfl) (by simp [*]) (by simp [oneCells, oneCell, List.all_eq_true]) hc (fun w6 hw => ?_)
     replace h := h w6 hw
     clear hw
     refine Ze [(0, pv_ b_)] ?_
     change WpE _ _ c199_53 _ _ _
     refine wpE_ret (by kernel_rfl) ?_
     obtain ⟨res, hl_res_0, hc_res, h⟩ := h
     repeat (first | refine seqQ_ret ?_ | refine blockQ_ret ?_ | refine loopQ_ret ?_ | refine cutQ_ret ?_)
     exact retS (rs := [(ResultVar.cell 0 237)]) (v := Value.agg (List.map (Value.int .u32) res).toArray) (by kernel_rfl) (⟨b_, 0, (List.map (Value.int .u32) res), by kernel_rfl, hc_res, (sizeP_of (k := 256) (by kernel_rfl) (by simp [hl_res_0])), .inl ⟨by kernel_rfl, rfl⟩, trivial⟩) ⟨res, (by simp [*]), rfl, h⟩
 · rintro e w' ⟨v, rfl, r0, hl0, rfl, h⟩; exact ⟨r0, hl0, rfl, h⟩
end
end Go.Proofs.YtpdegdnigcnjiaaGreatDoor
