/- WRITTEN BY PROGRAM (dec.py): for each Go function the clean formula F, the call's contract C, and the proof S that F gives C. -/
import Derived.Test.YtpdegdnigcnjiaaGreatDoorRows
import Derived.Test.YtpdegdnigcnjiaaGreatDoorGF
namespace Go.Proofs.YtpdegdnigcnjiaaGreatDoor
open Go
set_option linter.unusedVariables false
set_option maxRecDepth 100000
set_option maxHeartbeats 4000000
noncomputable section

/-! ### towpath/towpathref03.CRC (function 112) -/
def c112_0 := cb_ Tryz.f112
def c112_3 := cr_ c112_0
def c112_4 := cl_ c112_3
def r112_4 := co_ c112_4
def c112_6 := cr_ c112_3

theorem S_towpathref03_CRC {b_ : Slc} {w : World} {R : Int → World → Prop} (h : F_towpathref03_CRC b_ R w) : C_towpathref03_CRC b_ w R := by
 unfold F_towpathref03_CRC at h
 unfold C_towpathref03_CRC
 refine Calls.mono (calls_of_wpE (args := [sv_ b_]) (R := fun v w' => ∃ (r0 : Int), v = Value.int .u32 r0 ∧ R r0 w') Tryz.func112 (c := c112_0) (by kernel_rfl) 5 (by kernel_rfl) (by kernel_rfl) [(0, sv_ b_)] (by kernel_rfl) ?_) ?_
 · refine Zp c112_3 P1 [(0, sv_ b_)] ?_
   refine Zt r112_4 c112_6 ?_
   refine Zn P1 1 [(3, [], sv_ b_)] ?_
   refine Zm 170 #[.int .u32 0, sv_ b_] (some 4) (Calls.mono h ?_)
   rintro _ w1 ⟨v4, rfl, h⟩
   refine ⟨_, rfl, ?_⟩
   refine Zf P1 [(2, .int .u32 v4)] ?_
   change WpE _ _ c112_6 _ _ _
   refine wpE_ret (by kernel_rfl) ?_
   repeat (first | refine seqQ_ret ?_ | refine blockQ_ret ?_ | refine loopQ_ret ?_ | refine cutQ_ret ?_)
   exact retS (rs := [(ResultVar.tmp 2)]) (v := Value.int .u32 v4) (by kernel_rfl) (⟨by kernel_rfl, trivial⟩) ⟨v4, rfl, h⟩
 · rintro e w' ⟨v, rfl, r0, rfl, h⟩; exact ⟨r0, rfl, h⟩

/-! ### towpath/towpathref03.More (function 170) -/
def c170_0 := cb_ Tryz.f170
def c170_3 := cr_ c170_0
def c170_6 := cr_ c170_3
def c170_7 := cl_ c170_6
def c170_10 := cr_ c170_7
def c170_11 := cl_ c170_10
def c170_12 := cl_ c170_11
def c170_13 := cl_ c170_12
def c170_16 := cr_ c170_13
def c170_17 := cl_ c170_16
def c170_18 := cr_ c170_16
def c170_19 := cr_ c170_12
def c170_20 := cl_ c170_19
def c170_21 := cl_ c170_20
def c170_22 := cl_ c170_21
def r170_22 := co_ c170_22
def c170_24 := cr_ c170_21
def c170_27 := cr_ c170_24
def c170_28 := cl_ c170_27
def c170_29 := cl_ c170_28
def c170_30 := cl_ c170_29
def c170_33 := cr_ c170_30
def c170_34 := cl_ c170_33
def c170_35 := cr_ c170_33
def c170_36 := cr_ c170_29
def c170_37 := cl_ c170_36
def c170_38 := cl_ c170_37
def c170_41 := cr_ c170_38
def c170_44 := cr_ c170_41
def c170_47 := cr_ c170_44
def c170_48 := cl_ c170_47
def r170_48 := co_ c170_48
def c170_50 := cr_ c170_47
def c170_51 := cr_ c170_36
def r170_51 := co_ c170_51
def c170_53 := cr_ c170_19
def r170_53 := co_ c170_53
def c170_55 := cr_ c170_6
def c170_58 := cr_ c170_55

theorem S_towpathref03_More {sum : Int} {b_ : Slc} {w : World} {R : Int → World → Prop} (h : F_towpathref03_More sum b_ R w) : C_towpathref03_More sum b_ w R := by
 unfold F_towpathref03_More at h
 unfold C_towpathref03_More
 refine Calls.mono (calls_of_wpE (args := [Value.int .u32 sum, sv_ b_]) (R := fun v w' => ∃ (r0 : Int), v = Value.int .u32 r0 ∧ R r0 w') Tryz.func170 (c := c170_0) (by kernel_rfl) 38 (by kernel_rfl) (by kernel_rfl) [(0, Value.int .u32 sum), (1, sv_ b_)] (by kernel_rfl) ?_) ?_
 · refine Zp c170_3 P1 [(0, .int .u32 sum), (1, sv_ b_)] ?_
   refine Zp c170_6 P3 [(1, sv_ b_), (5, .int .u32 (IntKind.u32.wrap (4294967295 - sum)))] ?_
   refine Zs c170_7 c170_55 ?_
   refine Zp c170_10 P1 [(1, sv_ b_), (5, .int .u32 (IntKind.u32.wrap (4294967295 - sum))), (6, .int .i64 0)] ?_
   refine Zb 0 c170_11 ?_
   obtain ⟨I, μ, h0, hr⟩ := h
   refine wpE_loop (x := c170_12) (by kernel_rfl) (fun m l w => ∃ (c : Int) (i : Int), l = [(1, sv_ b_), (5, Value.int .u32 c), (6, Value.int .i64 i)] ∧ I c i w ∧ μ c i w = m) (l' := [(1, sv_ b_), (5, Value.int .u32 (IntKind.u32.wrap (4294967295 - sum))), (6, Value.int .i64 0)]) (Sub.mk (by kernel_rfl)) ⟨(IntKind.u32.wrap (4294967295 - sum)), 0, rfl, h0, rfl⟩ ?_
   rintro _ _ w1 ⟨c, i, rfl, hI, rfl⟩
   obtain ⟨again_, again__h, h⟩ : ∃ again_ : Int → Int → World → Prop, (∀ c' i' w', again_ c' i' w' → I c' i' w' ∧ μ c' i' w' < μ c i w1) ∧ F_towpathref03_More_L0 b_ R again_ c i w1 := ⟨_, fun _ _ _ h => h, hr c i w1 hI⟩
   clear h0 hI
   unfold F_towpathref03_More_L0 at h
   refine Zs c170_13 c170_19 ?_
   refine Zp c170_16 P4 [(1, sv_ b_), (5, .int .u32 c), (6, .int .i64 i), (14, .bool (decide (i < ((b_.len : Nat) : Int))))] ?_
   refine Zc 14 (decide (i < ((b_.len : Nat) : Int))) c170_17 c170_18 (fun hb => ?_) (fun hb => ?_)
   · replace h := h.1 hb
     refine wpE_skip (by kernel_rfl) ?_
     change WpE _ _ c170_19 _ _ _
     refine Zs c170_20 c170_53 ?_
     refine Zb 1 c170_21 ?_
     refine Zt r170_22 c170_24 ?_
     refine Zn P3 3 [(1, [], sv_ b_), (5, [], .int .u32 c), (6, [], .int .i64 i), (17, [], .int .u32 c), (18, [], sv_ b_), (19, [], .int .i64 i)] ?_
     obtain ⟨hp_7, h⟩ := h
     refine Zv (fun pp => [(1, [], sv_ b_), (5, [], .int .u32 c), (6, [], .int .i64 i), (17, [], .int .u32 c), (18, [], .slice pp b_.len b_.cap), (19, [], .int .i64 i)]) hp_7 ?_
     obtain ⟨h0, h1, h⟩ := h
     refine Zi 79 5 18 19 (pblk b_.ptr) (poff b_.ptr) b_.len b_.cap i 20 0 h0 h1 ?_
     refine Zn [] 4 [(1, [], sv_ b_), (5, [], .int .u32 c), (6, [], .int .i64 i), (17, [], .int .u32 c), (20, [], .pointer (some ⟨(pblk b_.ptr), (poff b_.ptr) + i.toNat, none⟩))] ?_
     obtain ⟨v21, hc, h⟩ := h
     refine Zl 5 20 (pblk b_.ptr) ((poff b_.ptr) + i.toNat) 5 21 hc ?_
     refine Zf P3 [(1, sv_ b_), (5, .int .u32 (bxor .u32 c (IntKind.u32.wrap v21))), (6, .int .i64 i)] ?_
     change WpE _ _ c170_24 _ _ _
     refine Zp c170_27 P1 [(1, sv_ b_), (5, .int .u32 (bxor .u32 c (IntKind.u32.wrap v21))), (6, .int .i64 i), (7, .int .i64 0)] ?_
     refine Zb 2 c170_28 ?_
     obtain ⟨I, μ, h0, hr⟩ := h
     refine wpE_loop (x := c170_29) (by kernel_rfl) (fun m l w => ∃ (c1 : Int) (k : Int), l = [(1, sv_ b_), (5, Value.int .u32 c1), (6, Value.int .i64 i), (7, Value.int .i64 k)] ∧ I c1 k w ∧ μ c1 k w = m) (l' := [(1, sv_ b_), (5, Value.int .u32 (bxor .u32 c (IntKind.u32.wrap v21))), (6, Value.int .i64 i), (7, Value.int .i64 0)]) (Sub.mk (by kernel_rfl)) ⟨(bxor .u32 c (IntKind.u32.wrap v21)), 0, rfl, h0, rfl⟩ ?_
     rintro _ _ w2 ⟨c1, k, rfl, hI, rfl⟩
     obtain ⟨again_1, again_1_h, h⟩ : ∃ again_1 : Int → Int → World → Prop, (∀ c1' k' w', again_1 c1' k' w' → I c1' k' w' ∧ μ c1' k' w' < μ c1 k w2) ∧ F_towpathref03_More_L1 i again_ again_1 c1 k w2 := ⟨_, fun _ _ _ h => h, hr c1 k w2 hI⟩
     clear h0 hI
     unfold F_towpathref03_More_L1 at h
     refine Zs c170_30 c170_36 ?_
     refine Zp c170_33 P2 [(1, sv_ b_), (5, .int .u32 c1), (6, .int .i64 i), (7, .int .i64 k), (25, .bool (decide (k < 8)))] ?_
     refine Zc 25 (decide (k < 8)) c170_34 c170_35 (fun hb => ?_) (fun hb => ?_)
     · replace h := h.1 hb
       refine wpE_skip (by kernel_rfl) ?_
       change WpE _ _ c170_36 _ _ _
       refine wpE_seq_cut (x := c170_37) (y := c170_51) (by kernel_rfl) (fun l w => ∃ (c2 : Int), l = [(1, sv_ b_), (5, Value.int .u32 c2), (6, Value.int .i64 i), (7, Value.int .i64 k)] ∧ F_towpathref03_More_k2 k again_1 c2 w) ?_ ?_
       · refine Zb 3 c170_38 ?_
         refine Zp c170_41 P4 [(1, sv_ b_), (5, .int .u32 c1), (6, .int .i64 i), (7, .int .i64 k), (8, .bool ((Int.tmod c1 2) == 1))] ?_
         refine Zp c170_44 P3 [(1, sv_ b_), (5, .int .u32 (IntKind.u32.wrap (Int.tdiv c1 2))), (6, .int .i64 i), (7, .int .i64 k), (8, .bool ((Int.tmod c1 2) == 1))] ?_
         refine Zp c170_47 P1 [(1, sv_ b_), (5, .int .u32 (IntKind.u32.wrap (Int.tdiv c1 2))), (6, .int .i64 i), (7, .int .i64 k), (33, .bool ((Int.tmod c1 2) == 1))] ?_
         refine Zc 33 ((Int.tmod c1 2) == 1) c170_48 c170_50 (fun hb => ?_) (fun hb => ?_)
         · replace h := h.1 hb
           refine Zr r170_48 ?_
           refine Zf P3 [(1, sv_ b_), (5, .int .u32 (bxor .u32 (IntKind.u32.wrap (Int.tdiv c1 2)) 2197175160)), (6, .int .i64 i), (7, .int .i64 k)] ?_
           exact ⟨[(1, sv_ b_), (5, Value.int .u32 (bxor .u32 (IntKind.u32.wrap (Int.tdiv c1 2)) 2197175160)), (6, Value.int .i64 i), (7, Value.int .i64 k)], Sub.mk (by kernel_rfl), (bxor .u32 (IntKind.u32.wrap (Int.tdiv c1 2)) 2197175160), rfl, h⟩
         · replace h := h.2 hb
           refine wpE_skip (by kernel_rfl) ?_
           exact ⟨[(1, sv_ b_), (5, Value.int .u32 (IntKind.u32.wrap (Int.tdiv c1 2))), (6, Value.int .i64 i), (7, Value.int .i64 k)], Sub.mk (by kernel_rfl), (IntKind.u32.wrap (Int.tdiv c1 2)), rfl, h⟩
       · rintro _ w3 ⟨c2, rfl, h⟩
         unfold F_towpathref03_More_k2 at h
         refine Zr r170_51 ?_
         refine Zf P3 [(1, sv_ b_), (5, .int .u32 c2), (6, .int .i64 i), (7, .int .i64 (IntKind.i64.wrap (k + 1)))] ?_
         have hb_ := again_1_h _ _ _ h
         exact ⟨_, hb_.2, [(1, sv_ b_), (5, Value.int .u32 c2), (6, Value.int .i64 i), (7, Value.int .i64 (IntKind.i64.wrap (k + 1)))], Sub.mk (by kernel_rfl), c2, (IntKind.i64.wrap (k + 1)), rfl, hb_.1, rfl⟩
     · replace h := h.2 hb
       refine wpE_exit (id := 2) (by kernel_rfl) ?_
       change WpE _ _ c170_53 _ _ _
       refine Zr r170_53 ?_
       refine Zf P3 [(1, sv_ b_), (5, .int .u32 c1), (6, .int .i64 (IntKind.i64.wrap (i + 1)))] ?_
       have hb_ := again__h _ _ _ h
       exact ⟨_, hb_.2, [(1, sv_ b_), (5, Value.int .u32 c1), (6, Value.int .i64 (IntKind.i64.wrap (i + 1)))], Sub.mk (by kernel_rfl), c1, (IntKind.i64.wrap (i + 1)), rfl, hb_.1, rfl⟩
   · replace h := h.2 hb
     refine wpE_exit (id := 0) (by kernel_rfl) ?_
     change WpE _ _ c170_55 _ _ _
     refine Zp c170_58 P3 [(4, .int .u32 (IntKind.u32.wrap (4294967295 - c)))] ?_
     refine wpE_ret (by kernel_rfl) ?_
     repeat (first | refine seqQ_ret ?_ | refine blockQ_ret ?_ | refine loopQ_ret ?_ | refine cutQ_ret ?_)
     exact retS (rs := [(ResultVar.tmp 4)]) (v := Value.int .u32 (IntKind.u32.wrap (4294967295 - c))) (by kernel_rfl) (⟨by kernel_rfl, trivial⟩) ⟨(IntKind.u32.wrap (4294967295 - c)), rfl, h⟩
 · rintro e w' ⟨v, rfl, r0, rfl, h⟩; exact ⟨r0, rfl, h⟩
end
end Go.Proofs.YtpdegdnigcnjiaaGreatDoor
