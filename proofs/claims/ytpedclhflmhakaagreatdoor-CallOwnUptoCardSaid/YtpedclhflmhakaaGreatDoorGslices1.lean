/- WRITTEN BY PROGRAM (dec.py): for each Go function the clean formula F, the call's contract C, and the proof S that F gives C. -/
import Derived.Test.YtpedclhflmhakaaGreatDoorRows
import Derived.Test.YtpedclhflmhakaaGreatDoorGF
namespace Go.Proofs.YtpedclhflmhakaaGreatDoor
open Go
set_option linter.unusedVariables false
set_option maxRecDepth 100000
set_option maxHeartbeats 4000000
noncomputable section

/-! ### slices.insertionSortCmpFunc[towpath/api.Held] (function 131) -/
def c131_0 := cb_ Tryz.f131
def c131_3 := cr_ c131_0
def c131_4 := cl_ c131_3
def c131_5 := cl_ c131_4
def c131_12 := cr_ c131_5
def c131_13 := cl_ c131_12
def c131_14 := cl_ c131_13
def c131_17 := cr_ c131_14
def c131_18 := cl_ c131_17
def c131_19 := cl_ c131_18
def c131_20 := cl_ c131_19
def c131_21 := cl_ c131_20
def r131_21 := co_ c131_21
def c131_26 := cr_ c131_19
def c131_27 := cl_ c131_26
def c131_28 := cl_ c131_27
def r131_28 := co_ c131_28
def o_slices_insertionSortCmpFunc_api_Held_28 : List Nat := [0, 1, 2, 3, 4, 5, 6, 7, 8, 9, 10, 11, 12, 13, 14, 15, 16, 17]

theorem S_slices_insertionSortCmpFunc_api_Held {data : Slc} {a_ : Int} {b_ : Int} {cmp : Value} {w : World} {R : World → Prop} (h : F_slices_insertionSortCmpFunc_api_Held data a_ b_ cmp R w) : C_slices_insertionSortCmpFunc_api_Held data a_ b_ cmp w R := by
 unfold F_slices_insertionSortCmpFunc_api_Held at h
 refine Yh Tryz.func131 ?_
 · refine Yp P3 [0, 1, 2, 3, 8] ?_
   refine Yd 0 ?_
   obtain ⟨I, μ, h0, hr⟩ := h
   refine Yloop (fun m l w => ∃ (i : Int), l = [(0, sv_ data), (1, Value.int .i64 a_), (2, Value.int .i64 b_), (3, cmp), (8, Value.int .i64 i)] ∧ I i w ∧ μ i w = m) ⟨(IntKind.i64.wrap (a_ + 1)), rfl, h0, rfl⟩ ?_
   rintro _ _ w1 ⟨i, rfl, hI, rfl⟩
   obtain ⟨again_, again__h, h⟩ : ∃ again_ : Int → World → Prop, (∀ i' w', again_ i' w' → I i' w' ∧ μ i' w' < μ i w1) ∧ F_slices_insertionSortCmpFunc_api_Held_L0 data a_ b_ cmp R again_ i w1 := ⟨_, fun _ _ h => h, hr i w1 hI⟩
   clear h0 hI
   unfold F_slices_insertionSortCmpFunc_api_Held_L0 at h
   refine Ys ?_
   refine Yp P3 [0, 1, 2, 3, 8, 14] ?_
   refine Yc h (fun h => ?_) fun h => ?_
   · refine Yskip ?_
     refine Ys ?_
     refine Yd 1 ?_
     refine Yp P2 [0, 1, 2, 3, 8, 9] ?_
     refine Yd 2 ?_
     obtain ⟨I, μ, h0, hr⟩ := h
     refine Yloop (fun m l w => ∃ (j : Int), l = [(0, sv_ data), (1, Value.int .i64 a_), (2, Value.int .i64 b_), (3, cmp), (8, Value.int .i64 i), (9, Value.int .i64 j)] ∧ I j w ∧ μ j w = m) ⟨i, rfl, h0, rfl⟩ ?_
     rintro _ _ w2 ⟨j, rfl, hI, rfl⟩
     obtain ⟨again_1, again_1_h, h⟩ : ∃ again_1 : Int → World → Prop, (∀ j' w', again_1 j' w' → I j' w' ∧ μ j' w' < μ j w2) ∧ F_slices_insertionSortCmpFunc_api_Held_L1 data a_ cmp i again_ again_1 j w2 := ⟨_, fun _ _ h => h, hr j w2 hI⟩
     clear h0 hI
     unfold F_slices_insertionSortCmpFunc_api_Held_L1 at h
     refine Ys ?_
     refine Ycut (fun l w => ∃ (t34 : Bool), l = [(0, sv_ data), (1, Value.int .i64 a_), (2, Value.int .i64 b_), (3, cmp), (8, Value.int .i64 i), (9, Value.int .i64 j), (34, Value.bool t34)] ∧ F_slices_insertionSortCmpFunc_api_Held_k2 data i again_ j again_1 t34 w) ?_ ?_
     · refine wpE_tailregion (id := 4) (ops := r131_21) (by kernel_rfl) 14 (by kernel_rfl) (by kernel_rfl) (fun w7 hw => ?_)
       replace h := h w7 hw
       clear hw
       refine Qn (Pl 7) ?_
       refine Qspl 21 h (fun h => ?_) fun h => ?_
       · obtain ⟨hp_30, h⟩ := h
         refine Qu 23 (fun pp => .slice pp data.len data.cap) hp_30 ?_
         refine Qi h fun h => ?_
         refine QL h fun v26 h => ?_
         refine Qn [.sure, .sure, .sure] ?_
         obtain ⟨hp_31, h⟩ := h
         refine Qu 27 (fun pp => .slice pp data.len data.cap) hp_31 ?_
         refine Qi h fun h => ?_
         refine QL h fun v31 h => ?_
         refine qreg_tail (by kernel_rfl) ?_
         refine reg_enterV (fo := (Operand.tmp 22)) (aa := #[(Operand.tmp 26), (Operand.tmp 31)]) (ts := #[125, 125]) (fv := cmp) (ty := 3) (dst := some 32) #[Value.agg #[Value.string v26.Key, sv_ v26.Versions], Value.agg #[Value.string v31.Key, sv_ v31.Versions]] (by kernel_rfl) (by kernel_rfl) (by kernel_rfl) (CallsV.mono h ?_)
         rintro _ w8 ⟨v32, rfl, h⟩
         refine ⟨_, rfl, ?_⟩
         refine Yf [.sure, .plain] [0, 1, 2, 3, 8, 9, 34] ?_
         exact ⟨_, Sub.mk (by kernel_rfl), (decide (v32 < 0)), rfl, h⟩
       · refine Qn [.skip, .skip, .skip, .skip, .skip, .skip, .skip] ?_
         refine qreg_tail (by kernel_rfl) ?_
         refine Yf [.skip, .skip, .plain] [0, 1, 2, 3, 8, 9, 34] ?_
         exact ⟨_, Sub.mk (by kernel_rfl), false, rfl, h⟩
     · rintro _ w3 ⟨t34, rfl, h⟩
       unfold F_slices_insertionSortCmpFunc_api_Held_k2 at h
       refine Yc h (fun h => ?_) fun h => ?_
       · refine Yskip ?_
         refine Ys ?_
         refine Yd 3 ?_
         refine wpE_mixregion (id := 6) (ops := r131_28) o_slices_insertionSortCmpFunc_api_Held_28 (by kernel_rfl) (by kernel_rfl) (by kernel_rfl) (by kernel_rfl) (fun w4 hw => ?_)
         replace h := h w4 hw
         clear hw
         refine Mn (Pl 8) ?_
         obtain ⟨hp_26, h⟩ := h
         refine Mu 42 (fun pp => .slice pp data.len data.cap) hp_26 ?_
         refine Mi 8 h fun h => ?_
         refine ML 9 h fun v46 hc h => ?_
         refine Mn P2 ?_
         obtain ⟨hp_27, h⟩ := h
         refine Mu 47 (fun pp => .slice pp data.len data.cap) hp_27 ?_
         refine Mi 12 h fun h => ?_
         refine ML 13 h fun v50 hc h => ?_
         obtain ⟨hp_28, h⟩ := h
         refine Mu 37 (fun pp => .slice pp data.len data.cap) hp_28 ?_
         refine Mi 14 h fun h => ?_
         refine Mstore 15 [0, 1, 5, 6, 7, 8, 9, 13, 14, 12, 10, 11] [] h fun w5 h => ?_
         refine ⟨trivial, ?_⟩
         obtain ⟨hp_29, h⟩ := h
         refine Mu 39 (fun pp => .slice pp data.len data.cap) hp_29 ?_
         refine Mi 16 h fun h => ?_
         refine Mstore 17 [0, 1, 2, 3, 4, 5, 6, 7, 8, 9, 10, 11, 12, 13, 14, 15, 16] [] h fun w6 h => ?_
         refine ⟨trivial, ?_⟩
         refine Mf [] [0, 1, 2, 3, 8, 9] ?_
         refine Yr ?_
         refine Yf P3 [0, 1, 2, 3, 8, 9] ?_
         have hb_ := again_1_h _ _ h
         exact ⟨_, hb_.2, _, Sub.mk (by kernel_rfl), (IntKind.i64.wrap (j - 1)), rfl, hb_.1, rfl⟩
       · refine Yexit 2 ?_
         refine Yr ?_
         refine Yf P3 [0, 1, 2, 3, 8] ?_
         have hb_ := again__h _ _ h
         exact ⟨_, hb_.2, _, Sub.mk (by kernel_rfl), (IntKind.i64.wrap (i + 1)), rfl, hb_.1, rfl⟩
   · refine Yexit 0 ?_
     repeat (first | refine seqQ_exit ?_ | refine loopQ_exit ?_ | refine cutQ_exit ?_ | refine blockQ_hit ?_ | refine blockQ_miss (by kernel_rfl) ?_)
     refine retQ_normal ?_
     repeat (first | refine seqQ_ret ?_ | refine blockQ_ret ?_ | refine loopQ_ret ?_ | refine cutQ_ret ?_)
     exact retT (rs := []) (vs := []) (by kernel_rfl) (trivial) (by kernel_rfl) ⟨rfl, h⟩
end
end Go.Proofs.YtpedclhflmhakaaGreatDoor
