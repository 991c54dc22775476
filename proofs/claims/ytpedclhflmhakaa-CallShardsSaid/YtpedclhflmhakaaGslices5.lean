/- WRITTEN BY PROGRAM (dec.py): for each Go function the clean formula F, the call's contract C, and the proof S that F gives C. -/
import Derived.Test.YtpedclhflmhakaaRows
import Derived.Test.YtpedclhflmhakaaGF
namespace Go.Proofs.Ytpedclhflmhakaa
open Go
set_option linter.unusedVariables false
set_option maxRecDepth 100000
set_option maxHeartbeats 4000000
noncomputable section

/-! ### slices.rotateCmpFunc[towpath/api.Held] (function 138) -/
def c138_0 := cb_ Try.f138
def c138_3 := cr_ c138_0
def c138_6 := cr_ c138_3
def c138_7 := cl_ c138_6
def c138_8 := cl_ c138_7
def c138_9 := cl_ c138_8
def c138_10 := cl_ c138_9
def c138_13 := cr_ c138_10
def c138_14 := cl_ c138_13
def c138_15 := cr_ c138_13
def c138_16 := cr_ c138_9
def c138_17 := cl_ c138_16
def c138_20 := cr_ c138_17
def c138_21 := cl_ c138_20
def c138_22 := cl_ c138_21
def r138_22 := co_ c138_22
def c138_24 := cr_ c138_21
def r138_24 := co_ c138_24
def c138_26 := cr_ c138_20
def c138_27 := cl_ c138_26
def r138_27 := co_ c138_27
def c138_29 := cr_ c138_26
def r138_29 := co_ c138_29
def c138_31 := cr_ c138_6
def r138_31 := co_ c138_31

theorem S_slices_rotateCmpFunc_api_Held {data : Slc} {a_ : Int} {m_ : Int} {b_ : Int} {cmp : Value} {w : World} {R : World → Prop} (h : F_slices_rotateCmpFunc_api_Held data a_ m_ b_ cmp R w) : C_slices_rotateCmpFunc_api_Held data a_ m_ b_ cmp w R := by
 unfold F_slices_rotateCmpFunc_api_Held at h
 unfold C_slices_rotateCmpFunc_api_Held
 refine Calls.mono (calls_of_wpE (args := [sv_ data, Value.int .i64 a_, Value.int .i64 m_, Value.int .i64 b_, cmp]) (R := fun v w' => v = Value.tuple #[] ∧ R w') Try.func138 (c := c138_0) (by kernel_rfl) 58 (by kernel_rfl) (by kernel_rfl) [(0, sv_ data), (1, Value.int .i64 a_), (2, Value.int .i64 m_), (3, Value.int .i64 b_), (4, cmp)] (by kernel_rfl) ?_) ?_
 · refine Zp c138_3 P4 [(0, sv_ data), (2, .int .i64 m_), (3, .int .i64 b_), (4, cmp), (10, .int .i64 (IntKind.i64.wrap (m_ - a_)))] ?_
   refine Zp c138_6 P4 [(0, sv_ data), (2, .int .i64 m_), (4, cmp), (10, .int .i64 (IntKind.i64.wrap (m_ - a_))), (11, .int .i64 (IntKind.i64.wrap (b_ - m_)))] ?_
   refine Zs c138_7 c138_31 ?_
   refine Zb 0 c138_8 ?_
   obtain ⟨I, μ, h0, hr⟩ := h
   refine wpE_loop (x := c138_9) (by kernel_rfl) (fun m l w => ∃ (i : Int) (j : Int), l = [(0, sv_ data), (2, Value.int .i64 m_), (4, cmp), (10, Value.int .i64 i), (11, Value.int .i64 j)] ∧ I i j w ∧ μ i j w = m) (l' := [(0, sv_ data), (2, Value.int .i64 m_), (4, cmp), (10, Value.int .i64 (IntKind.i64.wrap (m_ - a_))), (11, Value.int .i64 (IntKind.i64.wrap (b_ - m_)))]) (Sub.mk (by kernel_rfl)) ⟨(IntKind.i64.wrap (m_ - a_)), (IntKind.i64.wrap (b_ - m_)), rfl, h0, rfl⟩ ?_
   rintro _ _ w1 ⟨i, j, rfl, hI, rfl⟩
   obtain ⟨again_, again__h, h⟩ : ∃ again_ : Int → Int → World → Prop, (∀ i' j' w', again_ i' j' w' → I i' j' w' ∧ μ i' j' w' < μ i j w1) ∧ F_slices_rotateCmpFunc_api_Held_L0 data m_ cmp R again_ i j w1 := ⟨_, fun _ _ _ h => h, hr i j w1 hI⟩
   clear h0 hI
   unfold F_slices_rotateCmpFunc_api_Held_L0 at h
   refine Zs c138_10 c138_16 ?_
   refine Zp c138_13 P3 [(0, sv_ data), (2, .int .i64 m_), (4, cmp), (10, .int .i64 i), (11, .int .i64 j), (20, .bool (i != j))] ?_
   refine Zc 20 (i != j) c138_14 c138_15 (fun hb => ?_) (fun hb => ?_)
   · replace h := h.1 hb
     refine wpE_skip (by kernel_rfl) ?_
     change WpE _ _ c138_16 _ _ _
     refine Zb 1 c138_17 ?_
     refine Zp c138_20 P3 [(0, sv_ data), (2, .int .i64 m_), (4, cmp), (10, .int .i64 i), (11, .int .i64 j), (23, .bool (decide (i > j)))] ?_
     refine Zc 23 (decide (i > j)) c138_21 c138_26 (fun hb => ?_) (fun hb => ?_)
     · replace h := h.1 hb
       refine Zt r138_22 c138_24 ?_
       refine Zn (Pl 7) 7 [(0, [], sv_ data), (2, [], .int .i64 m_), (4, [], cmp), (10, [], .int .i64 i), (11, [], .int .i64 j), (24, [], sv_ data), (27, [], .int .i64 (IntKind.i64.wrap (m_ - i))), (28, [], .int .i64 m_), (29, [], .int .i64 j), (30, [], cmp)] ?_
       refine Zm 141 #[sv_ data, .int .i64 (IntKind.i64.wrap (m_ - i)), .int .i64 m_, .int .i64 j, cmp] (some 31) (Calls.mono h ?_)
       rintro _ w2 ⟨rfl, h⟩
       refine ⟨_, rfl, ?_⟩
       refine Ze [(0, sv_ data), (2, .int .i64 m_), (4, cmp), (10, .int .i64 i), (11, .int .i64 j)] ?_
       change WpE _ _ c138_24 _ _ _
       refine Zr r138_24 ?_
       refine Zf P4 [(0, sv_ data), (2, .int .i64 m_), (4, cmp), (10, .int .i64 (IntKind.i64.wrap (i - j))), (11, .int .i64 j)] ?_
       have hb_ := again__h _ _ _ h
       exact ⟨_, hb_.2, [(0, sv_ data), (2, Value.int .i64 m_), (4, cmp), (10, Value.int .i64 (IntKind.i64.wrap (i - j))), (11, Value.int .i64 j)], Sub.mk (by kernel_rfl), (IntKind.i64.wrap (i - j)), j, rfl, hb_.1, rfl⟩
     · replace h := h.2 hb
       refine Zt r138_27 c138_29 ?_
       refine Zn (Pl 11) 11 [(0, [], sv_ data), (2, [], .int .i64 m_), (4, [], cmp), (10, [], .int .i64 i), (11, [], .int .i64 j), (35, [], sv_ data), (38, [], .int .i64 (IntKind.i64.wrap (m_ - i))), (43, [], .int .i64 (IntKind.i64.wrap ((IntKind.i64.wrap (m_ + j)) - i))), (44, [], .int .i64 i), (45, [], cmp)] ?_
       refine Zm 141 #[sv_ data, .int .i64 (IntKind.i64.wrap (m_ - i)), .int .i64 (IntKind.i64.wrap ((IntKind.i64.wrap (m_ + j)) - i)), .int .i64 i, cmp] (some 46) (Calls.mono h ?_)
       rintro _ w3 ⟨rfl, h⟩
       refine ⟨_, rfl, ?_⟩
       refine Ze [(0, sv_ data), (2, .int .i64 m_), (4, cmp), (10, .int .i64 i), (11, .int .i64 j)] ?_
       change WpE _ _ c138_29 _ _ _
       refine Zr r138_29 ?_
       refine Zf P4 [(0, sv_ data), (2, .int .i64 m_), (4, cmp), (10, .int .i64 i), (11, .int .i64 (IntKind.i64.wrap (j - i)))] ?_
       have hb_ := again__h _ _ _ h
       exact ⟨_, hb_.2, [(0, sv_ data), (2, Value.int .i64 m_), (4, cmp), (10, Value.int .i64 i), (11, Value.int .i64 (IntKind.i64.wrap (j - i)))], Sub.mk (by kernel_rfl), i, (IntKind.i64.wrap (j - i)), rfl, hb_.1, rfl⟩
   · replace h := h.2 hb
     refine wpE_exit (id := 0) (by kernel_rfl) ?_
     change WpE _ _ c138_31 _ _ _
     refine Zr r138_31 ?_
     refine Zn (Pl 7) 7 [(50, [], sv_ data), (53, [], .int .i64 (IntKind.i64.wrap (m_ - i))), (54, [], .int .i64 m_), (55, [], .int .i64 i), (56, [], cmp)] ?_
     refine Zm 141 #[sv_ data, .int .i64 (IntKind.i64.wrap (m_ - i)), .int .i64 m_, .int .i64 i, cmp] (some 57) (Calls.mono h ?_)
     rintro _ w4 ⟨rfl, h⟩
     refine ⟨_, rfl, ?_⟩
     refine Ze [] ?_
     repeat (first | refine seqQ_exit ?_ | refine loopQ_exit ?_ | refine cutQ_exit ?_ | refine blockQ_hit ?_ | refine blockQ_miss (by kernel_rfl) ?_)
     refine retQ_normal ?_
     repeat (first | refine seqQ_ret ?_ | refine blockQ_ret ?_ | refine loopQ_ret ?_ | refine cutQ_ret ?_)
     exact retT (rs := []) (vs := []) (by kernel_rfl) (trivial) (by kernel_rfl) ⟨rfl, h⟩
 · rintro e w' ⟨v, rfl, rfl, h⟩; exact ⟨rfl, h⟩

/-! ### slices.rotateCmpFunc[towpath/api.Entry] (function 140) -/
def c140_0 := cb_ Try.f140
def c140_3 := cr_ c140_0
def c140_6 := cr_ c140_3
def c140_7 := cl_ c140_6
def c140_8 := cl_ c140_7
def c140_9 := cl_ c140_8
def c140_10 := cl_ c140_9
def c140_13 := cr_ c140_10
def c140_14 := cl_ c140_13
def c140_15 := cr_ c140_13
def c140_16 := cr_ c140_9
def c140_17 := cl_ c140_16
def c140_20 := cr_ c140_17
def c140_21 := cl_ c140_20
def c140_22 := cl_ c140_21
def r140_22 := co_ c140_22
def c140_24 := cr_ c140_21
def r140_24 := co_ c140_24
def c140_26 := cr_ c140_20
def c140_27 := cl_ c140_26
def r140_27 := co_ c140_27
def c140_29 := cr_ c140_26
def r140_29 := co_ c140_29
def c140_31 := cr_ c140_6
def r140_31 := co_ c140_31

theorem S_slices_rotateCmpFunc_api_Entry {data : Slc} {a_ : Int} {m_ : Int} {b_ : Int} {cmp : Value} {w : World} {R : World → Prop} (h : F_slices_rotateCmpFunc_api_Entry data a_ m_ b_ cmp R w) : C_slices_rotateCmpFunc_api_Entry data a_ m_ b_ cmp w R := by
 unfold F_slices_rotateCmpFunc_api_Entry at h
 unfold C_slices_rotateCmpFunc_api_Entry
 refine Calls.mono (calls_of_wpE (args := [sv_ data, Value.int .i64 a_, Value.int .i64 m_, Value.int .i64 b_, cmp]) (R := fun v w' => v = Value.tuple #[] ∧ R w') Try.func140 (c := c140_0) (by kernel_rfl) 58 (by kernel_rfl) (by kernel_rfl) [(0, sv_ data), (1, Value.int .i64 a_), (2, Value.int .i64 m_), (3, Value.int .i64 b_), (4, cmp)] (by kernel_rfl) ?_) ?_
 · refine Zp c140_3 P4 [(0, sv_ data), (2, .int .i64 m_), (3, .int .i64 b_), (4, cmp), (10, .int .i64 (IntKind.i64.wrap (m_ - a_)))] ?_
   refine Zp c140_6 P4 [(0, sv_ data), (2, .int .i64 m_), (4, cmp), (10, .int .i64 (IntKind.i64.wrap (m_ - a_))), (11, .int .i64 (IntKind.i64.wrap (b_ - m_)))] ?_
   refine Zs c140_7 c140_31 ?_
   refine Zb 0 c140_8 ?_
   obtain ⟨I, μ, h0, hr⟩ := h
   refine wpE_loop (x := c140_9) (by kernel_rfl) (fun m l w => ∃ (i : Int) (j : Int), l = [(0, sv_ data), (2, Value.int .i64 m_), (4, cmp), (10, Value.int .i64 i), (11, Value.int .i64 j)] ∧ I i j w ∧ μ i j w = m) (l' := [(0, sv_ data), (2, Value.int .i64 m_), (4, cmp), (10, Value.int .i64 (IntKind.i64.wrap (m_ - a_))), (11, Value.int .i64 (IntKind.i64.wrap (b_ - m_)))]) (Sub.mk (by kernel_rfl)) ⟨(IntKind.i64.wrap (m_ - a_)), (IntKind.i64.wrap (b_ - m_)), rfl, h0, rfl⟩ ?_
   rintro _ _ w1 ⟨i, j, rfl, hI, rfl⟩
   obtain ⟨again_, again__h, h⟩ : ∃ again_ : Int → Int → World → Prop, (∀ i' j' w', again_ i' j' w' → I i' j' w' ∧ μ i' j' w' < μ i j w1) ∧ F_slices_rotateCmpFunc_api_Entry_L0 data m_ cmp R again_ i j w1 := ⟨_, fun _ _ _ h => h, hr i j w1 hI⟩
   clear h0 hI
   unfold F_slices_rotateCmpFunc_api_Entry_L0 at h
   refine Zs c140_10 c140_16 ?_
   refine Zp c140_13 P3 [(0, sv_ data), (2, .int .i64 m_), (4, cmp), (10, .int .i64 i), (11, .int .i64 j), (20, .bool (i != j))] ?_
   refine Zc 20 (i != j) c140_14 c140_15 (fun hb => ?_) (fun hb => ?_)
   · replace h := h.1 hb
     refine wpE_skip (by kernel_rfl) ?_
     change WpE _ _ c140_16 _ _ _
     refine Zb 1 c140_17 ?_
     refine Zp c140_20 P3 [(0, sv_ data), (2, .int .i64 m_), (4, cmp), (10, .int .i64 i), (11, .int .i64 j), (23, .bool (decide (i > j)))] ?_
     refine Zc 23 (decide (i > j)) c140_21 c140_26 (fun hb => ?_) (fun hb => ?_)
     · replace h := h.1 hb
       refine Zt r140_22 c140_24 ?_
       refine Zn (Pl 7) 7 [(0, [], sv_ data), (2, [], .int .i64 m_), (4, [], cmp), (10, [], .int .i64 i), (11, [], .int .i64 j), (24, [], sv_ data), (27, [], .int .i64 (IntKind.i64.wrap (m_ - i))), (28, [], .int .i64 m_), (29, [], .int .i64 j), (30, [], cmp)] ?_
       refine Zm 142 #[sv_ data, .int .i64 (IntKind.i64.wrap (m_ - i)), .int .i64 m_, .int .i64 j, cmp] (some 31) (Calls.mono h ?_)
       rintro _ w2 ⟨rfl, h⟩
       refine ⟨_, rfl, ?_⟩
       refine Ze [(0, sv_ data), (2, .int .i64 m_), (4, cmp), (10, .int .i64 i), (11, .int .i64 j)] ?_
       change WpE _ _ c140_24 _ _ _
       refine Zr r140_24 ?_
       refine Zf P4 [(0, sv_ data), (2, .int .i64 m_), (4, cmp), (10, .int .i64 (IntKind.i64.wrap (i - j))), (11, .int .i64 j)] ?_
       have hb_ := again__h _ _ _ h
       exact ⟨_, hb_.2, [(0, sv_ data), (2, Value.int .i64 m_), (4, cmp), (10, Value.int .i64 (IntKind.i64.wrap (i - j))), (11, Value.int .i64 j)], Sub.mk (by kernel_rfl), (IntKind.i64.wrap (i - j)), j, rfl, hb_.1, rfl⟩
     · replace h := h.2 hb
       refine Zt r140_27 c140_29 ?_
       refine Zn (Pl 11) 11 [(0, [], sv_ data), (2, [], .int .i64 m_), (4, [], cmp), (10, [], .int .i64 i), (11, [], .int .i64 j), (35, [], sv_ data), (38, [], .int .i64 (IntKind.i64.wrap (m_ - i))), (43, [], .int .i64 (IntKind.i64.wrap ((IntKind.i64.wrap (m_ + j)) - i))), (44, [], .int .i64 i), (45, [], cmp)] ?_
       refine Zm 142 #[sv_ data, .int .i64 (IntKind.i64.wrap (m_ - i)), .int .i64 (IntKind.i64.wrap ((IntKind.i64.wrap (m_ + j)) - i)), .int .i64 i, cmp] (some 46) (Calls.mono h ?_)
       rintro _ w3 ⟨rfl, h⟩
       refine ⟨_, rfl, ?_⟩
       refine Ze [(0, sv_ data), (2, .int .i64 m_), (4, cmp), (10, .int .i64 i), (11, .int .i64 j)] ?_
       change WpE _ _ c140_29 _ _ _
       refine Zr r140_29 ?_
       refine Zf P4 [(0, sv_ data), (2, .int .i64 m_), (4, cmp), (10, .int .i64 i), (11, .int .i64 (IntKind.i64.wrap (j - i)))] ?_
       have hb_ := again__h _ _ _ h
       exact ⟨_, hb_.2, [(0, sv_ data), (2, Value.int .i64 m_), (4, cmp), (10, Value.int .i64 i), (11, Value.int .i64 (IntKind.i64.wrap (j - i)))], Sub.mk (by kernel_rfl), i, (IntKind.i64.wrap (j - i)), rfl, hb_.1, rfl⟩
   · replace h := h.2 hb
     refine wpE_exit (id := 0) (by kernel_rfl) ?_
     change WpE _ _ c140_31 _ _ _
     refine Zr r140_31 ?_
     refine Zn (Pl 7) 7 [(50, [], sv_ data), (53, [], .int .i64 (IntKind.i64.wrap (m_ - i))), (54, [], .int .i64 m_), (55, [], .int .i64 i), (56, [], cmp)] ?_
     refine Zm 142 #[sv_ data, .int .i64 (IntKind.i64.wrap (m_ - i)), .int .i64 m_, .int .i64 i, cmp] (some 57) (Calls.mono h ?_)
     rintro _ w4 ⟨rfl, h⟩
     refine ⟨_, rfl, ?_⟩
     refine Ze [] ?_
     repeat (first | refine seqQ_exit ?_ | refine loopQ_exit ?_ | refine cutQ_exit ?_ | refine blockQ_hit ?_ | refine blockQ_miss (by kernel_rfl) ?_)
     refine retQ_normal ?_
     repeat (first | refine seqQ_ret ?_ | refine blockQ_ret ?_ | refine loopQ_ret ?_ | refine cutQ_ret ?_)
     exact retT (rs := []) (vs := []) (by kernel_rfl) (trivial) (by kernel_rfl) ⟨rfl, h⟩
 · rintro e w' ⟨v, rfl, rfl, h⟩; exact ⟨rfl, h⟩

/-! ### slices.swapRangeCmpFunc[towpath/api.Held] (function 141) -/
def c141_0 := cb_ Try.f141
def c141_3 := cr_ c141_0
def c141_4 := cl_ c141_3
def c141_5 := cl_ c141_4
def c141_6 := cl_ c141_5
def c141_9 := cr_ c141_6
def c141_10 := cl_ c141_9
def c141_11 := cr_ c141_9
def c141_12 := cr_ c141_5
def c141_13 := cl_ c141_12
def c141_14 := cl_ c141_13
def r141_14 := co_ c141_14
def c141_16 := cr_ c141_12
def r141_16 := co_ c141_16
def o_slices_swapRangeCmpFunc_api_Held_14 : List Nat := [0, 1, 2, 3, 4, 5, 6, 7, 8, 9, 10, 11, 12, 13, 14, 15, 16, 17, 18, 19, 20, 21, 22, 23]

theorem S_slices_swapRangeCmpFunc_api_Held {data : Slc} {a_ : Int} {b_ : Int} {n_ : Int} {cmp : Value} {w : World} {R : World → Prop} (h : F_slices_swapRangeCmpFunc_api_Held data a_ b_ n_ cmp R w) : C_slices_swapRangeCmpFunc_api_Held data a_ b_ n_ cmp w R := by
 unfold F_slices_swapRangeCmpFunc_api_Held at h
 unfold C_slices_swapRangeCmpFunc_api_Held
 refine Calls.mono (calls_of_wpE (args := [sv_ data, Value.int .i64 a_, Value.int .i64 b_, Value.int .i64 n_, cmp]) (R := fun v w' => v = Value.tuple #[] ∧ R w') Try.func141 (c := c141_0) (by kernel_rfl) 38 (by kernel_rfl) (by kernel_rfl) [(0, sv_ data), (1, Value.int .i64 a_), (2, Value.int .i64 b_), (3, Value.int .i64 n_), (4, cmp)] (by kernel_rfl) ?_) ?_
 · refine Zp c141_3 P1 [(0, sv_ data), (1, .int .i64 a_), (2, .int .i64 b_), (3, .int .i64 n_), (10, .int .i64 0)] ?_
   refine Zb 0 c141_4 ?_
   obtain ⟨I, μ, h0, hr⟩ := h
   refine wpE_loop (x := c141_5) (by kernel_rfl) (fun m l w => ∃ (i : Int), l = [(0, sv_ data), (1, Value.int .i64 a_), (2, Value.int .i64 b_), (3, Value.int .i64 n_), (10, Value.int .i64 i)] ∧ I i w ∧ μ i w = m) (l' := [(0, sv_ data), (1, Value.int .i64 a_), (2, Value.int .i64 b_), (3, Value.int .i64 n_), (10, Value.int .i64 0)]) (Sub.mk (by kernel_rfl)) ⟨0, rfl, h0, rfl⟩ ?_
   rintro _ _ w1 ⟨i, rfl, hI, rfl⟩
   obtain ⟨again_, again__h, h⟩ : ∃ again_ : Int → World → Prop, (∀ i' w', again_ i' w' → I i' w' ∧ μ i' w' < μ i w1) ∧ F_slices_swapRangeCmpFunc_api_Held_L0 data a_ b_ n_ R again_ i w1 := ⟨_, fun _ _ h => h, hr i w1 hI⟩
   clear h0 hI
   unfold F_slices_swapRangeCmpFunc_api_Held_L0 at h
   refine Zs c141_6 c141_12 ?_
   refine Zp c141_9 P3 [(0, sv_ data), (1, .int .i64 a_), (2, .int .i64 b_), (3, .int .i64 n_), (10, .int .i64 i), (13, .bool (decide (i < n_)))] ?_
   refine Zc 13 (decide (i < n_)) c141_10 c141_11 (fun hb => ?_) (fun hb => ?_)
   · replace h := h.1 hb
     refine wpE_skip (by kernel_rfl) ?_
     change WpE _ _ c141_12 _ _ _
     refine Zs c141_13 c141_16 ?_
     refine Zb 1 c141_14 ?_
     refine wpE_mixregion (id := 3) (ops := r141_14) o_slices_swapRangeCmpFunc_api_Held_14 (by kernel_rfl) (by kernel_rfl) (by kernel_rfl) (by kernel_rfl) (fun w2 hw => ?_)
     replace h := h w2 hw
     clear hw
     refine mreg_run [.plain, .plain, .plain, .plain, .plain, .plain, .plain, .plain, .plain, .plain, .plain, .plain] 12 [(0, [], sv_ data), (1, [], Value.int .i64 a_), (2, [], Value.int .i64 b_), (3, [], Value.int .i64 n_), (10, [], Value.int .i64 i), (16, [], sv_ data), (19, [], Value.int .i64 (IntKind.i64.wrap (a_ + i))), (20, [], sv_ data), (23, [], Value.int .i64 (IntKind.i64.wrap (b_ + i))), (24, [], sv_ data), (27, [], Value.int .i64 (IntKind.i64.wrap (b_ + i)))] (by kernel_rfl) (by kernel_rfl) ?_
     obtain ⟨hp_4, h⟩ := h
     refine mreg_conv [(0, [], sv_ data), (1, [], Value.int .i64 a_), (2, [], Value.int .i64 b_), (3, [], Value.int .i64 n_), (10, [], Value.int .i64 i), (16, [], sv_ data), (19, [], Value.int .i64 (IntKind.i64.wrap (a_ + i))), (20, [], sv_ data), (23, [], Value.int .i64 (IntKind.i64.wrap (b_ + i))), (24, [], Value.slice (some ⟨(pblk data.ptr), (poff data.ptr), none⟩) data.len data.cap), (27, [], Value.int .i64 (IntKind.i64.wrap (b_ + i)))] (congrArg (fun pp => ([(0, [], sv_ data), (1, [], Value.int .i64 a_), (2, [], Value.int .i64 b_), (3, [], Value.int .i64 n_), (10, [], Value.int .i64 i), (16, [], sv_ data), (19, [], Value.int .i64 (IntKind.i64.wrap (a_ + i))), (20, [], sv_ data), (23, [], Value.int .i64 (IntKind.i64.wrap (b_ + i))), (24, [], Value.slice pp data.len data.cap), (27, [], Value.int .i64 (IntKind.i64.wrap (b_ + i)))] : GEnv)) hp_4) ?_
     obtain ⟨h0, h1, h⟩ := h
     refine mreg_indexS (i := 12) (by kernel_rfl) (t := 93) (e := 143) (x := (Operand.tmp 24)) (ix := (Operand.tmp 27)) (b := (pblk data.ptr)) (o := (poff data.ptr)) (l := data.len) (c := data.cap) (k := .i64) (j := (IntKind.i64.wrap (b_ + i))) (ty := 0) (dst := some 28) (sz := 2) (by kernel_rfl) (by kernel_rfl) (by kernel_rfl) (by kernel_rfl) (by kernel_rfl) h0 h1 ?_
     refine mreg_run [] 13 [(0, [], sv_ data), (1, [], Value.int .i64 a_), (2, [], Value.int .i64 b_), (3, [], Value.int .i64 n_), (10, [], Value.int .i64 i), (16, [], sv_ data), (19, [], Value.int .i64 (IntKind.i64.wrap (a_ + i))), (20, [], sv_ data), (23, [], Value.int .i64 (IntKind.i64.wrap (b_ + i))), (28, [], Value.pointer (some ⟨(pblk data.ptr), (poff data.ptr) + (IntKind.i64.wrap (b_ + i)).toNat * 2, none⟩))] (by kernel_rfl) (by kernel_rfl) ?_
     obtain ⟨v29, hc, h⟩ := h
     refine mreg_loadN (i := 13) (by kernel_rfl) (t := 143) (a := (Operand.tmp 28)) (b := (pblk data.ptr)) (o := ((poff data.ptr) + (IntKind.i64.wrap (b_ + i)).toNat * 2)) (ty := 143) (dst := some 29) [Value.string v29.Key, sv_ v29.Versions] (by kernel_rfl) (by kernel_rfl) (by kernel_rfl) (k := 2) (by kernel_rfl) (by kernel_rfl) hc ?_
     refine mreg_run P4 18 [(0, [], sv_ data), (1, [], Value.int .i64 a_), (2, [], Value.int .i64 b_), (3, [], Value.int .i64 n_), (10, [], Value.int .i64 i), (16, [], sv_ data), (19, [], Value.int .i64 (IntKind.i64.wrap (a_ + i))), (20, [], sv_ data), (23, [], Value.int .i64 (IntKind.i64.wrap (b_ + i))), (29, [], Value.agg #[Value.string v29.Key, sv_ v29.Versions]), (30, [], sv_ data), (33, [], Value.int .i64 (IntKind.i64.wrap (a_ + i)))] (by kernel_rfl) (by kernel_rfl) ?_
     obtain ⟨hp_5, h⟩ := h
     refine mreg_conv [(0, [], sv_ data), (1, [], Value.int .i64 a_), (2, [], Value.int .i64 b_), (3, [], Value.int .i64 n_), (10, [], Value.int .i64 i), (16, [], sv_ data), (19, [], Value.int .i64 (IntKind.i64.wrap (a_ + i))), (20, [], sv_ data), (23, [], Value.int .i64 (IntKind.i64.wrap (b_ + i))), (29, [], Value.agg #[Value.string v29.Key, sv_ v29.Versions]), (30, [], Value.slice (some ⟨(pblk data.ptr), (poff data.ptr), none⟩) data.len data.cap), (33, [], Value.int .i64 (IntKind.i64.wrap (a_ + i)))] (congrArg (fun pp => ([(0, [], sv_ data), (1, [], Value.int .i64 a_), (2, [], Value.int .i64 b_), (3, [], Value.int .i64 n_), (10, [], Value.int .i64 i), (16, [], sv_ data), (19, [], Value.int .i64 (IntKind.i64.wrap (a_ + i))), (20, [], sv_ data), (23, [], Value.int .i64 (IntKind.i64.wrap (b_ + i))), (29, [], Value.agg #[Value.string v29.Key, sv_ v29.Versions]), (30, [], Value.slice pp data.len data.cap), (33, [], Value.int .i64 (IntKind.i64.wrap (a_ + i)))] : GEnv)) hp_5) ?_
     obtain ⟨h0, h1, h⟩ := h
     refine mreg_indexS (i := 18) (by kernel_rfl) (t := 93) (e := 143) (x := (Operand.tmp 30)) (ix := (Operand.tmp 33)) (b := (pblk data.ptr)) (o := (poff data.ptr)) (l := data.len) (c := data.cap) (k := .i64) (j := (IntKind.i64.wrap (a_ + i))) (ty := 0) (dst := some 34) (sz := 2) (by kernel_rfl) (by kernel_rfl) (by kernel_rfl) (by kernel_rfl) (by kernel_rfl) h0 h1 ?_
     refine mreg_run [] 19 [(0, [], sv_ data), (1, [], Value.int .i64 a_), (2, [], Value.int .i64 b_), (3, [], Value.int .i64 n_), (10, [], Value.int .i64 i), (16, [], sv_ data), (19, [], Value.int .i64 (IntKind.i64.wrap (a_ + i))), (20, [], sv_ data), (23, [], Value.int .i64 (IntKind.i64.wrap (b_ + i))), (29, [], Value.agg #[Value.string v29.Key, sv_ v29.Versions]), (34, [], Value.pointer (some ⟨(pblk data.ptr), (poff data.ptr) + (IntKind.i64.wrap (a_ + i)).toNat * 2, none⟩))] (by kernel_rfl) (by kernel_rfl) ?_
     obtain ⟨v35, hc, h⟩ := h
     refine mreg_loadN (i := 19) (by kernel_rfl) (t := 143) (a := (Operand.tmp 34)) (b := (pblk data.ptr)) (o := ((poff data.ptr) + (IntKind.i64.wrap (a_ + i)).toNat * 2)) (ty := 143) (dst := some 35) [Value.string v35.Key, sv_ v35.Versions] (by kernel_rfl) (by kernel_rfl) (by kernel_rfl) (k := 2) (by kernel_rfl) (by kernel_rfl) hc ?_
     refine mreg_run [] 20 [(0, [], sv_ data), (1, [], Value.int .i64 a_), (2, [], Value.int .i64 b_), (3, [], Value.int .i64 n_), (10, [], Value.int .i64 i), (16, [], sv_ data), (19, [], Value.int .i64 (IntKind.i64.wrap (a_ + i))), (20, [], sv_ data), (23, [], Value.int .i64 (IntKind.i64.wrap (b_ + i))), (29, [], Value.agg #[Value.string v29.Key, sv_ v29.Versions]), (35, [], Value.agg #[Value.string v35.Key, sv_ v35.Versions])] (by kernel_rfl) (by kernel_rfl) ?_
     obtain ⟨hp_6, h⟩ := h
     refine mreg_conv [(0, [], sv_ data), (1, [], Value.int .i64 a_), (2, [], Value.int .i64 b_), (3, [], Value.int .i64 n_), (10, [], Value.int .i64 i), (16, [], Value.slice (some ⟨(pblk data.ptr), (poff data.ptr), none⟩) data.len data.cap), (19, [], Value.int .i64 (IntKind.i64.wrap (a_ + i))), (20, [], sv_ data), (23, [], Value.int .i64 (IntKind.i64.wrap (b_ + i))), (29, [], Value.agg #[Value.string v29.Key, sv_ v29.Versions]), (35, [], Value.agg #[Value.string v35.Key, sv_ v35.Versions])] (congrArg (fun pp => ([(0, [], sv_ data), (1, [], Value.int .i64 a_), (2, [], Value.int .i64 b_), (3, [], Value.int .i64 n_), (10, [], Value.int .i64 i), (16, [], Value.slice pp data.len data.cap), (19, [], Value.int .i64 (IntKind.i64.wrap (a_ + i))), (20, [], sv_ data), (23, [], Value.int .i64 (IntKind.i64.wrap (b_ + i))), (29, [], Value.agg #[Value.string v29.Key, sv_ v29.Versions]), (35, [], Value.agg #[Value.string v35.Key, sv_ v35.Versions])] : GEnv)) hp_6) ?_
     obtain ⟨h0, h1, h⟩ := h
     refine mreg_indexS (i := 20) (by kernel_rfl) (t := 93) (e := 143) (x := (Operand.tmp 16)) (ix := (Operand.tmp 19)) (b := (pblk data.ptr)) (o := (poff data.ptr)) (l := data.len) (c := data.cap) (k := .i64) (j := (IntKind.i64.wrap (a_ + i))) (ty := 0) (dst := some 36) (sz := 2) (by kernel_rfl) (by kernel_rfl) (by kernel_rfl) (by kernel_rfl) (by kernel_rfl) h0 h1 ?_
     refine mreg_run [] 21 [(0, [], sv_ data), (1, [], Value.int .i64 a_), (2, [], Value.int .i64 b_), (3, [], Value.int .i64 n_), (10, [], Value.int .i64 i), (20, [], sv_ data), (23, [], Value.int .i64 (IntKind.i64.wrap (b_ + i))), (29, [], Value.agg #[Value.string v29.Key, sv_ v29.Versions]), (35, [], Value.agg #[Value.string v35.Key, sv_ v35.Versions]), (36, [], Value.pointer (some ⟨(pblk data.ptr), (poff data.ptr) + (IntKind.i64.wrap (a_ + i)).toNat * 2, none⟩))] (by kernel_rfl) (by kernel_rfl) ?_
     obtain ⟨hc, h⟩ := h
     refine mreg_store (t := 143) (a := (Operand.tmp 36)) (x := (Operand.tmp 29)) (b := (pblk data.ptr)) (o := ((poff data.ptr) + (IntKind.i64.wrap (a_ + i)).toNat * 2)) (k := 2) (ty := 0) (dst := none) 21 [0, 1, 2, 3, 8, 9, 10, 11, 12, 13, 19, 20, 18, 14, 17, 15, 16] [] [Value.string v29.Key, sv_ v29.Versions] (by kernel_rfl) (by kernel_rfl) (by kernel_rfl) (by kernel_rfl) (by kernel_rfl) (by kernel_rfl) (by kernel_rfl) (by kernel_rfl) (by kernel_rfl) (by kernel_rfl) hc (fun w3 hw => ?_)
     replace h := h w3 hw
     clear hw
     refine ⟨trivial, ?_⟩
     refine mreg_run [] 22 [(0, [], sv_ data), (1, [], Value.int .i64 a_), (2, [], Value.int .i64 b_), (3, [], Value.int .i64 n_), (10, [], Value.int .i64 i), (20, [], sv_ data), (23, [], Value.int .i64 (IntKind.i64.wrap (b_ + i))), (35, [], Value.agg #[Value.string v35.Key, sv_ v35.Versions])] (by kernel_rfl) (by kernel_rfl) ?_
     obtain ⟨hp_7, h⟩ := h
     refine mreg_conv [(0, [], sv_ data), (1, [], Value.int .i64 a_), (2, [], Value.int .i64 b_), (3, [], Value.int .i64 n_), (10, [], Value.int .i64 i), (20, [], Value.slice (some ⟨(pblk data.ptr), (poff data.ptr), none⟩) data.len data.cap), (23, [], Value.int .i64 (IntKind.i64.wrap (b_ + i))), (35, [], Value.agg #[Value.string v35.Key, sv_ v35.Versions])] (congrArg (fun pp => ([(0, [], sv_ data), (1, [], Value.int .i64 a_), (2, [], Value.int .i64 b_), (3, [], Value.int .i64 n_), (10, [], Value.int .i64 i), (20, [], Value.slice pp data.len data.cap), (23, [], Value.int .i64 (IntKind.i64.wrap (b_ + i))), (35, [], Value.agg #[Value.string v35.Key, sv_ v35.Versions])] : GEnv)) hp_7) ?_
     obtain ⟨h0, h1, h⟩ := h
     refine mreg_indexS (i := 22) (by kernel_rfl) (t := 93) (e := 143) (x := (Operand.tmp 20)) (ix := (Operand.tmp 23)) (b := (pblk data.ptr)) (o := (poff data.ptr)) (l := data.len) (c := data.cap) (k := .i64) (j := (IntKind.i64.wrap (b_ + i))) (ty := 0) (dst := some 37) (sz := 2) (by kernel_rfl) (by kernel_rfl) (by kernel_rfl) (by kernel_rfl) (by kernel_rfl) h0 h1 ?_
     refine mreg_run [] 23 [(0, [], sv_ data), (1, [], Value.int .i64 a_), (2, [], Value.int .i64 b_), (3, [], Value.int .i64 n_), (10, [], Value.int .i64 i), (35, [], Value.agg #[Value.string v35.Key, sv_ v35.Versions]), (37, [], Value.pointer (some ⟨(pblk data.ptr), (poff data.ptr) + (IntKind.i64.wrap (b_ + i)).toNat * 2, none⟩))] (by kernel_rfl) (by kernel_rfl) ?_
     obtain ⟨hc, h⟩ := h
     refine mreg_store (t := 143) (a := (Operand.tmp 37)) (x := (Operand.tmp 35)) (b := (pblk data.ptr)) (o := ((poff data.ptr) + (IntKind.i64.wrap (b_ + i)).toNat * 2)) (k := 2) (ty := 0) (dst := none) 23 [0, 1, 2, 3, 4, 5, 6, 7, 8, 9, 10, 11, 12, 13, 14, 15, 16, 17, 18, 19, 20, 21, 22] [] [Value.string v35.Key, sv_ v35.Versions] (by kernel_rfl) (by kernel_rfl) (by kernel_rfl) (by kernel_rfl) (by kernel_rfl) (by kernel_rfl) (by kernel_rfl) (by kernel_rfl) (by kernel_rfl) (by kernel_rfl) hc (fun w4 hw => ?_)
     replace h := h w4 hw
     clear hw
     refine ⟨trivial, ?_⟩
     refine mreg_end [(0, sv_ data), (1, Value.int .i64 a_), (2, Value.int .i64 b_), (3, Value.int .i64 n_), (10, Value.int .i64 i)] (by kernel_rfl) (by kernel_rfl) (by kernel_rfl) ?_
     change WpE _ _ c141_16 _ _ _
     refine Zr r141_16 ?_
     refine Zf P3 [(0, sv_ data), (1, .int .i64 a_), (2, .int .i64 b_), (3, .int .i64 n_), (10, .int .i64 (IntKind.i64.wrap (i + 1)))] ?_
     have hb_ := again__h _ _ h
     exact ⟨_, hb_.2, [(0, sv_ data), (1, Value.int .i64 a_), (2, Value.int .i64 b_), (3, Value.int .i64 n_), (10, Value.int .i64 (IntKind.i64.wrap (i + 1)))], Sub.mk (by kernel_rfl), (IntKind.i64.wrap (i + 1)), rfl, hb_.1, rfl⟩
   · replace h := h.2 hb
     refine wpE_exit (id := 0) (by kernel_rfl) ?_
     repeat (first | refine seqQ_exit ?_ | refine loopQ_exit ?_ | refine cutQ_exit ?_ | refine blockQ_hit ?_ | refine blockQ_miss (by kernel_rfl) ?_)
     refine retQ_normal ?_
     repeat (first | refine seqQ_ret ?_ | refine blockQ_ret ?_ | refine loopQ_ret ?_ | refine cutQ_ret ?_)
     exact retT (rs := []) (vs := []) (by kernel_rfl) (trivial) (by kernel_rfl) ⟨rfl, h⟩
 · rintro e w' ⟨v, rfl, rfl, h⟩; exact ⟨rfl, h⟩

/-! ### slices.swapRangeCmpFunc[towpath/api.Entry] (function 142) -/
def c142_0 := cb_ Try.f142
def c142_3 := cr_ c142_0
def c142_4 := cl_ c142_3
def c142_5 := cl_ c142_4
def c142_6 := cl_ c142_5
def c142_9 := cr_ c142_6
def c142_10 := cl_ c142_9
def c142_11 := cr_ c142_9
def c142_12 := cr_ c142_5
def c142_13 := cl_ c142_12
def c142_14 := cl_ c142_13
def r142_14 := co_ c142_14
def c142_16 := cr_ c142_12
def r142_16 := co_ c142_16
def o_slices_swapRangeCmpFunc_api_Entry_14 : List Nat := [0, 1, 2, 3, 4, 5, 6, 7, 8, 9, 10, 11, 12, 13, 14, 15, 16, 17, 18, 19, 20, 21, 22, 23]

theorem S_slices_swapRangeCmpFunc_api_Entry {data : Slc} {a_ : Int} {b_ : Int} {n_ : Int} {cmp : Value} {w : World} {R : World → Prop} (h : F_slices_swapRangeCmpFunc_api_Entry data a_ b_ n_ cmp R w) : C_slices_swapRangeCmpFunc_api_Entry data a_ b_ n_ cmp w R := by
 unfold F_slices_swapRangeCmpFunc_api_Entry at h
 unfold C_slices_swapRangeCmpFunc_api_Entry
 refine Calls.mono (calls_of_wpE (args := [sv_ data, Value.int .i64 a_, Value.int .i64 b_, Value.int .i64 n_, cmp]) (R := fun v w' => v = Value.tuple #[] ∧ R w') Try.func142 (c := c142_0) (by kernel_rfl) 38 (by kernel_rfl) (by kernel_rfl) [(0, sv_ data), (1, Value.int .i64 a_), (2, Value.int .i64 b_), (3, Value.int .i64 n_), (4, cmp)] (by kernel_rfl) ?_) ?_
 · refine Zp c142_3 P1 [(0, sv_ data), (1, .int .i64 a_), (2, .int .i64 b_), (3, .int .i64 n_), (10, .int .i64 0)] ?_
   refine Zb 0 c142_4 ?_
   obtain ⟨I, μ, h0, hr⟩ := h
   refine wpE_loop (x := c142_5) (by kernel_rfl) (fun m l w => ∃ (i : Int), l = [(0, sv_ data), (1, Value.int .i64 a_), (2, Value.int .i64 b_), (3, Value.int .i64 n_), (10, Value.int .i64 i)] ∧ I i w ∧ μ i w = m) (l' := [(0, sv_ data), (1, Value.int .i64 a_), (2, Value.int .i64 b_), (3, Value.int .i64 n_), (10, Value.int .i64 0)]) (Sub.mk (by kernel_rfl)) ⟨0, rfl, h0, rfl⟩ ?_
   rintro _ _ w1 ⟨i, rfl, hI, rfl⟩
   obtain ⟨again_, again__h, h⟩ : ∃ again_ : Int → World → Prop, (∀ i' w', again_ i' w' → I i' w' ∧ μ i' w' < μ i w1) ∧ F_slices_swapRangeCmpFunc_api_Entry_L0 data a_ b_ n_ R again_ i w1 := ⟨_, fun _ _ h => h, hr i w1 hI⟩
   clear h0 hI
   unfold F_slices_swapRangeCmpFunc_api_Entry_L0 at h
   refine Zs c142_6 c142_12 ?_
   refine Zp c142_9 P3 [(0, sv_ data), (1, .int .i64 a_), (2, .int .i64 b_), (3, .int .i64 n_), (10, .int .i64 i), (13, .bool (decide (i < n_)))] ?_
   refine Zc 13 (decide (i < n_)) c142_10 c142_11 (fun hb => ?_) (fun hb => ?_)
   · replace h := h.1 hb
     refine wpE_skip (by kernel_rfl) ?_
     change WpE _ _ c142_12 _ _ _
     refine Zs c142_13 c142_16 ?_
     refine Zb 1 c142_14 ?_
     refine wpE_mixregion (id := 3) (ops := r142_14) o_slices_swapRangeCmpFunc_api_Entry_14 (by kernel_rfl) (by kernel_rfl) (by kernel_rfl) (by kernel_rfl) (fun w2 hw => ?_)
     replace h := h w2 hw
     clear hw
     refine mreg_run [.plain, .plain, .plain, .plain, .plain, .plain, .plain, .plain, .plain, .plain, .plain, .plain] 12 [(0, [], sv_ data), (1, [], Value.int .i64 a_), (2, [], Value.int .i64 b_), (3, [], Value.int .i64 n_), (10, [], Value.int .i64 i), (16, [], sv_ data), (19, [], Value.int .i64 (IntKind.i64.wrap (a_ + i))), (20, [], sv_ data), (23, [], Value.int .i64 (IntKind.i64.wrap (b_ + i))), (24, [], sv_ data), (27, [], Value.int .i64 (IntKind.i64.wrap (b_ + i)))] (by kernel_rfl) (by kernel_rfl) ?_
     obtain ⟨hp_4, h⟩ := h
     refine mreg_conv [(0, [], sv_ data), (1, [], Value.int .i64 a_), (2, [], Value.int .i64 b_), (3, [], Value.int .i64 n_), (10, [], Value.int .i64 i), (16, [], sv_ data), (19, [], Value.int .i64 (IntKind.i64.wrap (a_ + i))), (20, [], sv_ data), (23, [], Value.int .i64 (IntKind.i64.wrap (b_ + i))), (24, [], Value.slice (some ⟨(pblk data.ptr), (poff data.ptr), none⟩) data.len data.cap), (27, [], Value.int .i64 (IntKind.i64.wrap (b_ + i)))] (congrArg (fun pp => ([(0, [], sv_ data), (1, [], Value.int .i64 a_), (2, [], Value.int .i64 b_), (3, [], Value.int .i64 n_), (10, [], Value.int .i64 i), (16, [], sv_ data), (19, [], Value.int .i64 (IntKind.i64.wrap (a_ + i))), (20, [], sv_ data), (23, [], Value.int .i64 (IntKind.i64.wrap (b_ + i))), (24, [], Value.slice pp data.len data.cap), (27, [], Value.int .i64 (IntKind.i64.wrap (b_ + i)))] : GEnv)) hp_4) ?_
     obtain ⟨h0, h1, h⟩ := h
     refine mreg_indexS (i := 12) (by kernel_rfl) (t := 92) (e := 140) (x := (Operand.tmp 24)) (ix := (Operand.tmp 27)) (b := (pblk data.ptr)) (o := (poff data.ptr)) (l := data.len) (c := data.cap) (k := .i64) (j := (IntKind.i64.wrap (b_ + i))) (ty := 0) (dst := some 28) (sz := 2) (by kernel_rfl) (by kernel_rfl) (by kernel_rfl) (by kernel_rfl) (by kernel_rfl) h0 h1 ?_
     refine mreg_run [] 13 [(0, [], sv_ data), (1, [], Value.int .i64 a_), (2, [], Value.int .i64 b_), (3, [], Value.int .i64 n_), (10, [], Value.int .i64 i), (16, [], sv_ data), (19, [], Value.int .i64 (IntKind.i64.wrap (a_ + i))), (20, [], sv_ data), (23, [], Value.int .i64 (IntKind.i64.wrap (b_ + i))), (28, [], Value.pointer (some ⟨(pblk data.ptr), (poff data.ptr) + (IntKind.i64.wrap (b_ + i)).toNat * 2, none⟩))] (by kernel_rfl) (by kernel_rfl) ?_
     obtain ⟨v29, hc, h⟩ := h
     refine mreg_loadN (i := 13) (by kernel_rfl) (t := 140) (a := (Operand.tmp 28)) (b := (pblk data.ptr)) (o := ((poff data.ptr) + (IntKind.i64.wrap (b_ + i)).toNat * 2)) (ty := 140) (dst := some 29) [Value.string v29.Key, Value.string v29.Val] (by kernel_rfl) (by kernel_rfl) (by kernel_rfl) (k := 2) (by kernel_rfl) (by kernel_rfl) hc ?_
     refine mreg_run P4 18 [(0, [], sv_ data), (1, [], Value.int .i64 a_), (2, [], Value.int .i64 b_), (3, [], Value.int .i64 n_), (10, [], Value.int .i64 i), (16, [], sv_ data), (19, [], Value.int .i64 (IntKind.i64.wrap (a_ + i))), (20, [], sv_ data), (23, [], Value.int .i64 (IntKind.i64.wrap (b_ + i))), (29, [], Value.agg #[Value.string v29.Key, Value.string v29.Val]), (30, [], sv_ data), (33, [], Value.int .i64 (IntKind.i64.wrap (a_ + i)))] (by kernel_rfl) (by kernel_rfl) ?_
     obtain ⟨hp_5, h⟩ := h
     refine mreg_conv [(0, [], sv_ data), (1, [], Value.int .i64 a_), (2, [], Value.int .i64 b_), (3, [], Value.int .i64 n_), (10, [], Value.int .i64 i), (16, [], sv_ data), (19, [], Value.int .i64 (IntKind.i64.wrap (a_ + i))), (20, [], sv_ data), (23, [], Value.int .i64 (IntKind.i64.wrap (b_ + i))), (29, [], Value.agg #[Value.string v29.Key, Value.string v29.Val]), (30, [], Value.slice (some ⟨(pblk data.ptr), (poff data.ptr), none⟩) data.len data.cap), (33, [], Value.int .i64 (IntKind.i64.wrap (a_ + i)))] (congrArg (fun pp => ([(0, [], sv_ data), (1, [], Value.int .i64 a_), (2, [], Value.int .i64 b_), (3, [], Value.int .i64 n_), (10, [], Value.int .i64 i), (16, [], sv_ data), (19, [], Value.int .i64 (IntKind.i64.wrap (a_ + i))), (20, [], sv_ data), (23, [], Value.int .i64 (IntKind.i64.wrap (b_ + i))), (29, [], Value.agg #[Value.string v29.Key, Value.string v29.Val]), (30, [], Value.slice pp data.len data.cap), (33, [], Value.int .i64 (IntKind.i64.wrap (a_ + i)))] : GEnv)) hp_5) ?_
     obtain ⟨h0, h1, h⟩ := h
     refine mreg_indexS (i := 18) (by kernel_rfl) (t := 92) (e := 140) (x := (Operand.tmp 30)) (ix := (Operand.tmp 33)) (b := (pblk data.ptr)) (o := (poff data.ptr)) (l := data.len) (c := data.cap) (k := .i64) (j := (IntKind.i64.wrap (a_ + i))) (ty := 0) (dst := some 34) (sz := 2) (by kernel_rfl) (by kernel_rfl) (by kernel_rfl) (by kernel_rfl) (by kernel_rfl) h0 h1 ?_
     refine mreg_run [] 19 [(0, [], sv_ data), (1, [], Value.int .i64 a_), (2, [], Value.int .i64 b_), (3, [], Value.int .i64 n_), (10, [], Value.int .i64 i), (16, [], sv_ data), (19, [], Value.int .i64 (IntKind.i64.wrap (a_ + i))), (20, [], sv_ data), (23, [], Value.int .i64 (IntKind.i64.wrap (b_ + i))), (29, [], Value.agg #[Value.string v29.Key, Value.string v29.Val]), (34, [], Value.pointer (some ⟨(pblk data.ptr), (poff data.ptr) + (IntKind.i64.wrap (a_ + i)).toNat * 2, none⟩))] (by kernel_rfl) (by kernel_rfl) ?_
     obtain ⟨v35, hc, h⟩ := h
     refine mreg_loadN (i := 19) (by kernel_rfl) (t := 140) (a := (Operand.tmp 34)) (b := (pblk data.ptr)) (o := ((poff data.ptr) + (IntKind.i64.wrap (a_ + i)).toNat * 2)) (ty := 140) (dst := some 35) [Value.string v35.Key, Value.string v35.Val] (by kernel_rfl) (by kernel_rfl) (by kernel_rfl) (k := 2) (by kernel_rfl) (by kernel_rfl) hc ?_
     refine mreg_run [] 20 [(0, [], sv_ data), (1, [], Value.int .i64 a_), (2, [], Value.int .i64 b_), (3, [], Value.int .i64 n_), (10, [], Value.int .i64 i), (16, [], sv_ data), (19, [], Value.int .i64 (IntKind.i64.wrap (a_ + i))), (20, [], sv_ data), (23, [], Value.int .i64 (IntKind.i64.wrap (b_ + i))), (29, [], Value.agg #[Value.string v29.Key, Value.string v29.Val]), (35, [], Value.agg #[Value.string v35.Key, Value.string v35.Val])] (by kernel_rfl) (by kernel_rfl) ?_
     obtain ⟨hp_6, h⟩ := h
     refine mreg_conv [(0, [], sv_ data), (1, [], Value.int .i64 a_), (2, [], Value.int .i64 b_), (3, [], Value.int .i64 n_), (10, [], Value.int .i64 i), (16, [], Value.slice (some ⟨(pblk data.ptr), (poff data.ptr), none⟩) data.len data.cap), (19, [], Value.int .i64 (IntKind.i64.wrap (a_ + i))), (20, [], sv_ data), (23, [], Value.int .i64 (IntKind.i64.wrap (b_ + i))), (29, [], Value.agg #[Value.string v29.Key, Value.string v29.Val]), (35, [], Value.agg #[Value.string v35.Key, Value.string v35.Val])] (congrArg (fun pp => ([(0, [], sv_ data), (1, [], Value.int .i64 a_), (2, [], Value.int .i64 b_), (3, [], Value.int .i64 n_), (10, [], Value.int .i64 i), (16, [], Value.slice pp data.len data.cap), (19, [], Value.int .i64 (IntKind.i64.wrap (a_ + i))), (20, [], sv_ data), (23, [], Value.int .i64 (IntKind.i64.wrap (b_ + i))), (29, [], Value.agg #[Value.string v29.Key, Value.string v29.Val]), (35, [], Value.agg #[Value.string v35.Key, Value.string v35.Val])] : GEnv)) hp_6) ?_
     obtain ⟨h0, h1, h⟩ := h
     refine mreg_indexS (i := 20) (by kernel_rfl) (t := 92) (e := 140) (x := (Operand.tmp 16)) (ix := (Operand.tmp 19)) (b := (pblk data.ptr)) (o := (poff data.ptr)) (l := data.len) (c := data.cap) (k := .i64) (j := (IntKind.i64.wrap (a_ + i))) (ty := 0) (dst := some 36) (sz := 2) (by kernel_rfl) (by kernel_rfl) (by kernel_rfl) (by kernel_rfl) (by kernel_rfl) h0 h1 ?_
     refine mreg_run [] 21 [(0, [], sv_ data), (1, [], Value.int .i64 a_), (2, [], Value.int .i64 b_), (3, [], Value.int .i64 n_), (10, [], Value.int .i64 i), (20, [], sv_ data), (23, [], Value.int .i64 (IntKind.i64.wrap (b_ + i))), (29, [], Value.agg #[Value.string v29.Key, Value.string v29.Val]), (35, [], Value.agg #[Value.string v35.Key, Value.string v35.Val]), (36, [], Value.pointer (some ⟨(pblk data.ptr), (poff data.ptr) + (IntKind.i64.wrap (a_ + i)).toNat * 2, none⟩))] (by kernel_rfl) (by kernel_rfl) ?_
     obtain ⟨hc, h⟩ := h
     refine mreg_store (t := 140) (a := (Operand.tmp 36)) (x := (Operand.tmp 29)) (b := (pblk data.ptr)) (o := ((poff data.ptr) + (IntKind.i64.wrap (a_ + i)).toNat * 2)) (k := 2) (ty := 0) (dst := none) 21 [0, 1, 2, 3, 8, 9, 10, 11, 12, 13, 19, 20, 18, 14, 17, 15, 16] [] [Value.string v29.Key, Value.string v29.Val] (by kernel_rfl) (by kernel_rfl) (by kernel_rfl) (by kernel_rfl) (by kernel_rfl) (by kernel_rfl) (by kernel_rfl) (by kernel_rfl) (by kernel_rfl) (by kernel_rfl) hc (fun w3 hw => ?_)
     replace h := h w3 hw
     clear hw
     refine ⟨trivial, ?_⟩
     refine mreg_run [] 22 [(0, [], sv_ data), (1, [], Value.int .i64 a_), (2, [], Value.int .i64 b_), (3, [], Value.int .i64 n_), (10, [], Value.int .i64 i), (20, [], sv_ data), (23, [], Value.int .i64 (IntKind.i64.wrap (b_ + i))), (35, [], Value.agg #[Value.string v35.Key, Value.string v35.Val])] (by kernel_rfl) (by kernel_rfl) ?_
     obtain ⟨hp_7, h⟩ := h
     refine mreg_conv [(0, [], sv_ data), (1, [], Value.int .i64 a_), (2, [], Value.int .i64 b_), (3, [], Value.int .i64 n_), (10, [], Value.int .i64 i), (20, [], Value.slice (some ⟨(pblk data.ptr), (poff data.ptr), none⟩) data.len data.cap), (23, [], Value.int .i64 (IntKind.i64.wrap (b_ + i))), (35, [], Value.agg #[Value.string v35.Key, Value.string v35.Val])] (congrArg (fun pp => ([(0, [], sv_ data), (1, [], Value.int .i64 a_), (2, [], Value.int .i64 b_), (3, [], Value.int .i64 n_), (10, [], Value.int .i64 i), (20, [], Value.slice pp data.len data.cap), (23, [], Value.int .i64 (IntKind.i64.wrap (b_ + i))), (35, [], Value.agg #[Value.string v35.Key, Value.string v35.Val])] : GEnv)) hp_7) ?_
     obtain ⟨h0, h1, h⟩ := h
     refine mreg_indexS (i := 22) (by kernel_rfl) (t := 92) (e := 140) (x := (Operand.tmp 20)) (ix := (Operand.tmp 23)) (b := (pblk data.ptr)) (o := (poff data.ptr)) (l := data.len) (c := data.cap) (k := .i64) (j := (IntKind.i64.wrap (b_ + i))) (ty := 0) (dst := some 37) (sz := 2) (by kernel_rfl) (by kernel_rfl) (by kernel_rfl) (by kernel_rfl) (by kernel_rfl) h0 h1 ?_
     refine mreg_run [] 23 [(0, [], sv_ data), (1, [], Value.int .i64 a_), (2, [], Value.int .i64 b_), (3, [], Value.int .i64 n_), (10, [], Value.int .i64 i), (35, [], Value.agg #[Value.string v35.Key, Value.string v35.Val]), (37, [], Value.pointer (some ⟨(pblk data.ptr), (poff data.ptr) + (IntKind.i64.wrap (b_ + i)).toNat * 2, none⟩))] (by kernel_rfl) (by kernel_rfl) ?_
     obtain ⟨hc, h⟩ := h
     refine mreg_store (t := 140) (a := (Operand.tmp 37)) (x := (Operand.tmp 35)) (b := (pblk data.ptr)) (o := ((poff data.ptr) + (IntKind.i64.wrap (b_ + i)).toNat * 2)) (k := 2) (ty := 0) (dst := none) 23 [0, 1, 2, 3, 4, 5, 6, 7, 8, 9, 10, 11, 12, 13, 14, 15, 16, 17, 18, 19, 20, 21, 22] [] [Value.string v35.Key, Value.string v35.Val] (by kernel_rfl) (by kernel_rfl) (by kernel_rfl) (by kernel_rfl) (by kernel_rfl) (by kernel_rfl) (by kernel_rfl) (by kernel_rfl) (by kernel_rfl) (by kernel_rfl) hc (fun w4 hw => ?_)
     replace h := h w4 hw
     clear hw
     refine ⟨trivial, ?_⟩
     refine mreg_end [(0, sv_ data), (1, Value.int .i64 a_), (2, Value.int .i64 b_), (3, Value.int .i64 n_), (10, Value.int .i64 i)] (by kernel_rfl) (by kernel_rfl) (by kernel_rfl) ?_
     change WpE _ _ c142_16 _ _ _
     refine Zr r142_16 ?_
     refine Zf P3 [(0, sv_ data), (1, .int .i64 a_), (2, .int .i64 b_), (3, .int .i64 n_), (10, .int .i64 (IntKind.i64.wrap (i + 1)))] ?_
     have hb_ := again__h _ _ h
     exact ⟨_, hb_.2, [(0, sv_ data), (1, Value.int .i64 a_), (2, Value.int .i64 b_), (3, Value.int .i64 n_), (10, Value.int .i64 (IntKind.i64.wrap (i + 1)))], Sub.mk (by kernel_rfl), (IntKind.i64.wrap (i + 1)), rfl, hb_.1, rfl⟩
   · replace h := h.2 hb
     refine wpE_exit (id := 0) (by kernel_rfl) ?_
     repeat (first | refine seqQ_exit ?_ | refine loopQ_exit ?_ | refine cutQ_exit ?_ | refine blockQ_hit ?_ | refine blockQ_miss (by kernel_rfl) ?_)
     refine retQ_normal ?_
     repeat (first | refine seqQ_ret ?_ | refine blockQ_ret ?_ | refine loopQ_ret ?_ | refine cutQ_ret ?_)
     exact retT (rs := []) (vs := []) (by kernel_rfl) (trivial) (by kernel_rfl) ⟨rfl, h⟩
 · rintro e w' ⟨v, rfl, rfl, h⟩; exact ⟨rfl, h⟩
end
end Go.Proofs.Ytpedclhflmhakaa
