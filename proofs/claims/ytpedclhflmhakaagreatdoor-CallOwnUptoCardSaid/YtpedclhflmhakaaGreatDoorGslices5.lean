/- WRITTEN BY PROGRAM (dec.py): for each Go function the clean formula F, the call's contract C, and the proof S that F gives C. -/
import Derived.Test.YtpedclhflmhakaaGreatDoorRows
import Derived.Test.YtpedclhflmhakaaGreatDoorGF
namespace Go.Proofs.YtpedclhflmhakaaGreatDoor
open Go
set_option linter.unusedVariables false
set_option maxRecDepth 100000
set_option maxHeartbeats 4000000
noncomputable section

/-! ### slices.rotateCmpFunc[towpath/api.Held] (function 139) -/

theorem S_slices_rotateCmpFunc_api_Held {data : Slc} {a_ : Int} {m_ : Int} {b_ : Int} {cmp : Value} {w : World} {R : World → Prop} (h : F_slices_rotateCmpFunc_api_Held data a_ m_ b_ cmp R w) : C_slices_rotateCmpFunc_api_Held data a_ m_ b_ cmp w R := by
 unfold F_slices_rotateCmpFunc_api_Held at h
 refine Yh Tryz.func139 ?_
 · refine Yp P4 [0, 2, 3, 4, 10] ?_
   refine Yp P4 [0, 2, 4, 10, 11] ?_
   refine Ys ?_
   refine Yd 0 ?_
   obtain ⟨I, μ, h0, hr⟩ := h
   refine Yloop (fun m l w => ∃ (i : Int) (j : Int), l = [(0, sv_ data), (2, Value.int .i64 m_), (4, cmp), (10, Value.int .i64 i), (11, Value.int .i64 j)] ∧ I i j w ∧ μ i j w = m) ⟨(IntKind.i64.wrap (m_ - a_)), (IntKind.i64.wrap (b_ - m_)), rfl, h0, rfl⟩ ?_
   rintro _ _ w1 ⟨i, j, rfl, hI, rfl⟩
   obtain ⟨again_, again__h, h⟩ : ∃ again_ : Int → Int → World → Prop, (∀ i' j' w', again_ i' j' w' → I i' j' w' ∧ μ i' j' w' < μ i j w1) ∧ F_slices_rotateCmpFunc_api_Held_L0 data m_ cmp R again_ i j w1 := ⟨_, fun _ _ _ h => h, hr i j w1 hI⟩
   clear h0 hI
   unfold F_slices_rotateCmpFunc_api_Held_L0 at h
   refine Ys ?_
   refine Yp P3 [0, 2, 4, 10, 11, 20] ?_
   refine Yc h (fun h => ?_) fun h => ?_
   · refine Yskip ?_
     refine Yd 1 ?_
     refine Yp P3 [0, 2, 4, 10, 11, 23] ?_
     refine Yc h (fun h => ?_) fun h => ?_
     · refine Yt ?_
       refine Yn (Pl 7) ?_
       refine Ym0 h fun w2 h => ?_
       refine Yf [] [0, 2, 4, 10, 11] ?_
       refine Yr ?_
       refine Yf P4 [0, 2, 4, 10, 11] ?_
       have hb_ := again__h _ _ _ h
       exact ⟨_, hb_.2, _, Sub.mk (by kernel_rfl), (IntKind.i64.wrap (i - j)), j, rfl, hb_.1, rfl⟩
     · refine Yt ?_
       refine Yn (Pl 11) ?_
       refine Ym0 h fun w3 h => ?_
       refine Yf [] [0, 2, 4, 10, 11] ?_
       refine Yr ?_
       refine Yf P4 [0, 2, 4, 10, 11] ?_
       have hb_ := again__h _ _ _ h
       exact ⟨_, hb_.2, _, Sub.mk (by kernel_rfl), i, (IntKind.i64.wrap (j - i)), rfl, hb_.1, rfl⟩
   · refine Yexit 0 ?_
     refine Yr ?_
     refine Yn (Pl 7) ?_
     refine Ym0 h fun w4 h => ?_
     refine Yf [] [] ?_
     repeat (first | refine seqQ_exit ?_ | refine loopQ_exit ?_ | refine cutQ_exit ?_ | refine blockQ_hit ?_ | refine blockQ_miss (by kernel_rfl) ?_)
     refine retQ_normal ?_
     repeat (first | refine seqQ_ret ?_ | refine blockQ_ret ?_ | refine loopQ_ret ?_ | refine cutQ_ret ?_)
     exact retT (rs := []) (vs := []) (by kernel_rfl) (trivial) (by kernel_rfl) ⟨rfl, h⟩

/-! ### slices.rotateCmpFunc[towpath/api.Entry] (function 142) -/

theorem S_slices_rotateCmpFunc_api_Entry {data : Slc} {a_ : Int} {m_ : Int} {b_ : Int} {cmp : Value} {w : World} {R : World → Prop} (h : F_slices_rotateCmpFunc_api_Entry data a_ m_ b_ cmp R w) : C_slices_rotateCmpFunc_api_Entry data a_ m_ b_ cmp w R := by
 unfold F_slices_rotateCmpFunc_api_Entry at h
 refine Yh Tryz.func142 ?_
 · refine Yp P4 [0, 2, 3, 4, 10] ?_
   refine Yp P4 [0, 2, 4, 10, 11] ?_
   refine Ys ?_
   refine Yd 0 ?_
   obtain ⟨I, μ, h0, hr⟩ := h
   refine Yloop (fun m l w => ∃ (i : Int) (j : Int), l = [(0, sv_ data), (2, Value.int .i64 m_), (4, cmp), (10, Value.int .i64 i), (11, Value.int .i64 j)] ∧ I i j w ∧ μ i j w = m) ⟨(IntKind.i64.wrap (m_ - a_)), (IntKind.i64.wrap (b_ - m_)), rfl, h0, rfl⟩ ?_
   rintro _ _ w1 ⟨i, j, rfl, hI, rfl⟩
   obtain ⟨again_, again__h, h⟩ : ∃ again_ : Int → Int → World → Prop, (∀ i' j' w', again_ i' j' w' → I i' j' w' ∧ μ i' j' w' < μ i j w1) ∧ F_slices_rotateCmpFunc_api_Entry_L0 data m_ cmp R again_ i j w1 := ⟨_, fun _ _ _ h => h, hr i j w1 hI⟩
   clear h0 hI
   unfold F_slices_rotateCmpFunc_api_Entry_L0 at h
   refine Ys ?_
   refine Yp P3 [0, 2, 4, 10, 11, 20] ?_
   refine Yc h (fun h => ?_) fun h => ?_
   · refine Yskip ?_
     refine Yd 1 ?_
     refine Yp P3 [0, 2, 4, 10, 11, 23] ?_
     refine Yc h (fun h => ?_) fun h => ?_
     · refine Yt ?_
       refine Yn (Pl 7) ?_
       refine Ym0 h fun w2 h => ?_
       refine Yf [] [0, 2, 4, 10, 11] ?_
       refine Yr ?_
       refine Yf P4 [0, 2, 4, 10, 11] ?_
       have hb_ := again__h _ _ _ h
       exact ⟨_, hb_.2, _, Sub.mk (by kernel_rfl), (IntKind.i64.wrap (i - j)), j, rfl, hb_.1, rfl⟩
     · refine Yt ?_
       refine Yn (Pl 11) ?_
       refine Ym0 h fun w3 h => ?_
       refine Yf [] [0, 2, 4, 10, 11] ?_
       refine Yr ?_
       refine Yf P4 [0, 2, 4, 10, 11] ?_
       have hb_ := again__h _ _ _ h
       exact ⟨_, hb_.2, _, Sub.mk (by kernel_rfl), i, (IntKind.i64.wrap (j - i)), rfl, hb_.1, rfl⟩
   · refine Yexit 0 ?_
     refine Yr ?_
     refine Yn (Pl 7) ?_
     refine Ym0 h fun w4 h => ?_
     refine Yf [] [] ?_
     repeat (first | refine seqQ_exit ?_ | refine loopQ_exit ?_ | refine cutQ_exit ?_ | refine blockQ_hit ?_ | refine blockQ_miss (by kernel_rfl) ?_)
     refine retQ_normal ?_
     repeat (first | refine seqQ_ret ?_ | refine blockQ_ret ?_ | refine loopQ_ret ?_ | refine cutQ_ret ?_)
     exact retT (rs := []) (vs := []) (by kernel_rfl) (trivial) (by kernel_rfl) ⟨rfl, h⟩

/-! ### slices.swapRangeCmpFunc[towpath/api.Held] (function 143) -/
def c143_0 := cb_ Tryz.f143
def c143_3 := cr_ c143_0
def c143_4 := cl_ c143_3
def c143_5 := cl_ c143_4
def c143_12 := cr_ c143_5
def c143_13 := cl_ c143_12
def c143_14 := cl_ c143_13
def r143_14 := co_ c143_14
def o_slices_swapRangeCmpFunc_api_Held_14 : List Nat := [0, 1, 2, 3, 4, 5, 6, 7, 8, 9, 10, 11, 12, 13, 14, 15, 16, 17, 18, 19, 20, 21, 22, 23]

theorem S_slices_swapRangeCmpFunc_api_Held {data : Slc} {a_ : Int} {b_ : Int} {n_ : Int} {cmp : Value} {w : World} {R : World → Prop} (h : F_slices_swapRangeCmpFunc_api_Held data a_ b_ n_ cmp R w) : C_slices_swapRangeCmpFunc_api_Held data a_ b_ n_ cmp w R := by
 unfold F_slices_swapRangeCmpFunc_api_Held at h
 refine Yh Tryz.func143 ?_
 · refine Yp P1 [0, 1, 2, 3, 10] ?_
   refine Yd 0 ?_
   obtain ⟨I, μ, h0, hr⟩ := h
   refine Yloop (fun m l w => ∃ (i : Int), l = [(0, sv_ data), (1, Value.int .i64 a_), (2, Value.int .i64 b_), (3, Value.int .i64 n_), (10, Value.int .i64 i)] ∧ I i w ∧ μ i w = m) ⟨0, rfl, h0, rfl⟩ ?_
   rintro _ _ w1 ⟨i, rfl, hI, rfl⟩
   obtain ⟨again_, again__h, h⟩ : ∃ again_ : Int → World → Prop, (∀ i' w', again_ i' w' → I i' w' ∧ μ i' w' < μ i w1) ∧ F_slices_swapRangeCmpFunc_api_Held_L0 data a_ b_ n_ R again_ i w1 := ⟨_, fun _ _ h => h, hr i w1 hI⟩
   clear h0 hI
   unfold F_slices_swapRangeCmpFunc_api_Held_L0 at h
   refine Ys ?_
   refine Yp P3 [0, 1, 2, 3, 10, 13] ?_
   refine Yc h (fun h => ?_) fun h => ?_
   · refine Yskip ?_
     refine Ys ?_
     refine Yd 1 ?_
     refine wpE_mixregion (id := 3) (ops := r143_14) o_slices_swapRangeCmpFunc_api_Held_14 (by kernel_rfl) (by kernel_rfl) (by kernel_rfl) (by kernel_rfl) (fun w2 hw => ?_)
     replace h := h w2 hw
     clear hw
     refine Mn (Pl 12) ?_
     obtain ⟨hp_4, h⟩ := h
     refine Mu 24 (fun pp => .slice pp data.len data.cap) hp_4 ?_
     refine Mi 12 h fun h => ?_
     refine ML 13 h fun v29 hc h => ?_
     refine Mn P4 ?_
     obtain ⟨hp_5, h⟩ := h
     refine Mu 30 (fun pp => .slice pp data.len data.cap) hp_5 ?_
     refine Mi 18 h fun h => ?_
     refine ML 19 h fun v35 hc h => ?_
     obtain ⟨hp_6, h⟩ := h
     refine Mu 16 (fun pp => .slice pp data.len data.cap) hp_6 ?_
     refine Mi 20 h fun h => ?_
     refine Mstore 21 [0, 1, 2, 3, 8, 9, 10, 11, 12, 13, 19, 20, 18, 14, 17, 15, 16] [] h fun w3 h => ?_
     refine ⟨trivial, ?_⟩
     obtain ⟨hp_7, h⟩ := h
     refine Mu 20 (fun pp => .slice pp data.len data.cap) hp_7 ?_
     refine Mi 22 h fun h => ?_
     refine Mstore 23 [0, 1, 2, 3, 4, 5, 6, 7, 8, 9, 10, 11, 12, 13, 14, 15, 16, 17, 18, 19, 20, 21, 22] [] h fun w4 h => ?_
     refine ⟨trivial, ?_⟩
     refine Mf [] [0, 1, 2, 3, 10] ?_
     refine Yr ?_
     refine Yf P3 [0, 1, 2, 3, 10] ?_
     have hb_ := again__h _ _ h
     exact ⟨_, hb_.2, _, Sub.mk (by kernel_rfl), (IntKind.i64.wrap (i + 1)), rfl, hb_.1, rfl⟩
   · refine Yexit 0 ?_
     repeat (first | refine seqQ_exit ?_ | refine loopQ_exit ?_ | refine cutQ_exit ?_ | refine blockQ_hit ?_ | refine blockQ_miss (by kernel_rfl) ?_)
     refine retQ_normal ?_
     repeat (first | refine seqQ_ret ?_ | refine blockQ_ret ?_ | refine loopQ_ret ?_ | refine cutQ_ret ?_)
     exact retT (rs := []) (vs := []) (by kernel_rfl) (trivial) (by kernel_rfl) ⟨rfl, h⟩

/-! ### slices.swapRangeCmpFunc[towpath/api.Entry] (function 145) -/
def c145_0 := cb_ Tryz.f145
def c145_3 := cr_ c145_0
def c145_4 := cl_ c145_3
def c145_5 := cl_ c145_4
def c145_12 := cr_ c145_5
def c145_13 := cl_ c145_12
def c145_14 := cl_ c145_13
def r145_14 := co_ c145_14
def o_slices_swapRangeCmpFunc_api_Entry_14 : List Nat := [0, 1, 2, 3, 4, 5, 6, 7, 8, 9, 10, 11, 12, 13, 14, 15, 16, 17, 18, 19, 20, 21, 22, 23]

theorem S_slices_swapRangeCmpFunc_api_Entry {data : Slc} {a_ : Int} {b_ : Int} {n_ : Int} {cmp : Value} {w : World} {R : World → Prop} (h : F_slices_swapRangeCmpFunc_api_Entry data a_ b_ n_ cmp R w) : C_slices_swapRangeCmpFunc_api_Entry data a_ b_ n_ cmp w R := by
 unfold F_slices_swapRangeCmpFunc_api_Entry at h
 refine Yh Tryz.func145 ?_
 · refine Yp P1 [0, 1, 2, 3, 10] ?_
   refine Yd 0 ?_
   obtain ⟨I, μ, h0, hr⟩ := h
   refine Yloop (fun m l w => ∃ (i : Int), l = [(0, sv_ data), (1, Value.int .i64 a_), (2, Value.int .i64 b_), (3, Value.int .i64 n_), (10, Value.int .i64 i)] ∧ I i w ∧ μ i w = m) ⟨0, rfl, h0, rfl⟩ ?_
   rintro _ _ w1 ⟨i, rfl, hI, rfl⟩
   obtain ⟨again_, again__h, h⟩ : ∃ again_ : Int → World → Prop, (∀ i' w', again_ i' w' → I i' w' ∧ μ i' w' < μ i w1) ∧ F_slices_swapRangeCmpFunc_api_Entry_L0 data a_ b_ n_ R again_ i w1 := ⟨_, fun _ _ h => h, hr i w1 hI⟩
   clear h0 hI
   unfold F_slices_swapRangeCmpFunc_api_Entry_L0 at h
   refine Ys ?_
   refine Yp P3 [0, 1, 2, 3, 10, 13] ?_
   refine Yc h (fun h => ?_) fun h => ?_
   · refine Yskip ?_
     refine Ys ?_
     refine Yd 1 ?_
     refine wpE_mixregion (id := 3) (ops := r145_14) o_slices_swapRangeCmpFunc_api_Entry_14 (by kernel_rfl) (by kernel_rfl) (by kernel_rfl) (by kernel_rfl) (fun w2 hw => ?_)
     replace h := h w2 hw
     clear hw
     refine Mn (Pl 12) ?_
     obtain ⟨hp_4, h⟩ := h
     refine Mu 24 (fun pp => .slice pp data.len data.cap) hp_4 ?_
     refine Mi 12 h fun h => ?_
     refine ML 13 h fun v29 hc h => ?_
     refine Mn P4 ?_
     obtain ⟨hp_5, h⟩ := h
     refine Mu 30 (fun pp => .slice pp data.len data.cap) hp_5 ?_
     refine Mi 18 h fun h => ?_
     refine ML 19 h fun v35 hc h => ?_
     obtain ⟨hp_6, h⟩ := h
     refine Mu 16 (fun pp => .slice pp data.len data.cap) hp_6 ?_
     refine Mi 20 h fun h => ?_
     refine Mstore 21 [0, 1, 2, 3, 8, 9, 10, 11, 12, 13, 19, 20, 18, 14, 17, 15, 16] [] h fun w3 h => ?_
     refine ⟨trivial, ?_⟩
     obtain ⟨hp_7, h⟩ := h
     refine Mu 20 (fun pp => .slice pp data.len data.cap) hp_7 ?_
     refine Mi 22 h fun h => ?_
     refine Mstore 23 [0, 1, 2, 3, 4, 5, 6, 7, 8, 9, 10, 11, 12, 13, 14, 15, 16, 17, 18, 19, 20, 21, 22] [] h fun w4 h => ?_
     refine ⟨trivial, ?_⟩
     refine Mf [] [0, 1, 2, 3, 10] ?_
     refine Yr ?_
     refine Yf P3 [0, 1, 2, 3, 10] ?_
     have hb_ := again__h _ _ h
     exact ⟨_, hb_.2, _, Sub.mk (by kernel_rfl), (IntKind.i64.wrap (i + 1)), rfl, hb_.1, rfl⟩
   · refine Yexit 0 ?_
     repeat (first | refine seqQ_exit ?_ | refine loopQ_exit ?_ | refine cutQ_exit ?_ | refine blockQ_hit ?_ | refine blockQ_miss (by kernel_rfl) ?_)
     refine retQ_normal ?_
     repeat (first | refine seqQ_ret ?_ | refine blockQ_ret ?_ | refine loopQ_ret ?_ | refine cutQ_ret ?_)
     exact retT (rs := []) (vs := []) (by kernel_rfl) (trivial) (by kernel_rfl) ⟨rfl, h⟩
end
end Go.Proofs.YtpedclhflmhakaaGreatDoor
