/- WRITTEN BY PROGRAM (dec.py): for each Go function the clean formula F, the call's contract C, and the proof S that F gives C. -/
import Derived.Test.YtpedclhflmhakaaGreatDoorRows
import Derived.Test.YtpedclhflmhakaaGreatDoorGF
namespace Go.Proofs.YtpedclhflmhakaaGreatDoor
open Go
set_option linter.unusedVariables false
set_option maxRecDepth 100000
set_option maxHeartbeats 4000000
noncomputable section

/-! ### slices.symMergeCmpFunc[towpath/api.Entry] (function 138) -/
def c138_0 := cb_ Tryz.f138
def c138_1 := cl_ c138_0
def c138_4 := cr_ c138_1
def c138_5 := cl_ c138_4
def c138_8 := cr_ c138_5
def c138_11 := cr_ c138_8
def c138_12 := cl_ c138_11
def c138_13 := cl_ c138_12
def c138_14 := cl_ c138_13
def c138_21 := cr_ c138_14
def c138_22 := cl_ c138_21
def c138_25 := cr_ c138_22
def c138_26 := cl_ c138_25
def r138_26 := co_ c138_26
def c138_33 := cr_ c138_11
def c138_34 := cl_ c138_33
def c138_37 := cr_ c138_34
def c138_38 := cl_ c138_37
def c138_39 := cl_ c138_38
def c138_46 := cr_ c138_39
def c138_47 := cl_ c138_46
def c138_48 := cl_ c138_47
def r138_48 := co_ c138_48
def c138_54 := cr_ c138_0
def c138_55 := cl_ c138_54
def c138_58 := cr_ c138_55
def c138_59 := cl_ c138_58
def c138_62 := cr_ c138_59
def c138_65 := cr_ c138_62
def c138_66 := cl_ c138_65
def c138_67 := cl_ c138_66
def c138_68 := cl_ c138_67
def c138_75 := cr_ c138_68
def c138_76 := cl_ c138_75
def c138_79 := cr_ c138_76
def c138_80 := cl_ c138_79
def r138_80 := co_ c138_80
def c138_87 := cr_ c138_65
def c138_88 := cl_ c138_87
def c138_91 := cr_ c138_88
def c138_92 := cl_ c138_91
def c138_93 := cl_ c138_92
def c138_100 := cr_ c138_93
def c138_101 := cl_ c138_100
def c138_102 := cl_ c138_101
def r138_102 := co_ c138_102
def c138_108 := cr_ c138_54
def c138_111 := cr_ c138_108
def c138_114 := cr_ c138_111
def c138_117 := cr_ c138_114
def c138_132 := cr_ c138_117
def c138_135 := cr_ c138_132
def c138_136 := cl_ c138_135
def c138_137 := cl_ c138_136
def c138_138 := cl_ c138_137
def c138_145 := cr_ c138_138
def c138_146 := cl_ c138_145
def c138_149 := cr_ c138_146
def c138_150 := cl_ c138_149
def r138_150 := co_ c138_150
def o_slices_symMergeCmpFunc_api_Entry_48 : List Nat := [0, 1, 2, 3, 4, 5, 6, 7, 8, 9, 10, 11, 12, 13, 14, 15, 16, 17]
def o_slices_symMergeCmpFunc_api_Entry_102 : List Nat := [0, 1, 2, 3, 4, 5, 6, 7, 8, 9, 10, 11, 12, 13, 14, 15, 16, 17]

theorem S_slices_symMergeCmpFunc_api_Entry {data : Slc} {a_ : Int} {m_ : Int} {b_ : Int} {cmp : Value} {w : World} {R : World → Prop} (h : F_slices_symMergeCmpFunc_api_Entry data a_ m_ b_ cmp R w) : C_slices_symMergeCmpFunc_api_Entry data a_ m_ b_ cmp w R := by
 unfold F_slices_symMergeCmpFunc_api_Entry at h
 refine Yh Tryz.func138 ?_
 · refine Ys ?_
   refine Yp P4 [0, 1, 2, 3, 4, 28] ?_
   refine Yc h (fun h => ?_) fun h => ?_
   · refine Yp P2 [0, 1, 3, 4, 10] ?_
     refine Yp P2 [0, 1, 4, 10, 11] ?_
     refine Ys ?_
     refine Yd 0 ?_
     obtain ⟨I, μ, h0, hr⟩ := h
     refine Yloop (fun m l w => ∃ (i : Int) (j : Int), l = [(0, sv_ data), (1, Value.int .i64 a_), (4, cmp), (10, Value.int .i64 i), (11, Value.int .i64 j)] ∧ I i j w ∧ μ i j w = m) ⟨m_, b_, rfl, h0, rfl⟩ ?_
     rintro _ _ w1 ⟨i, j, rfl, hI, rfl⟩
     obtain ⟨again_, again__h, h⟩ : ∃ again_ : Int → Int → World → Prop, (∀ i' j' w', again_ i' j' w' → I i' j' w' ∧ μ i' j' w' < μ i j w1) ∧ F_slices_symMergeCmpFunc_api_Entry_L0 data a_ cmp R again_ i j w1 := ⟨_, fun _ _ _ h => h, hr i j w1 hI⟩
     clear h0 hI
     unfold F_slices_symMergeCmpFunc_api_Entry_L0 at h
     refine Ys ?_
     refine Yp P3 [0, 1, 4, 10, 11, 33] ?_
     refine Yc h (fun h => ?_) fun h => ?_
     · refine Yskip ?_
       refine Yd 1 ?_
       refine Yp (Pl 7) [0, 1, 4, 10, 11, 12] ?_
       refine Ys ?_
       refine wpE_tailregion (id := 5) (ops := r138_26) (by kernel_rfl) 9 (by kernel_rfl) (by kernel_rfl) (fun w2 hw => ?_)
       replace h := h w2 hw
       clear hw
       refine Qn P3 ?_
       obtain ⟨hp_22, h⟩ := h
       refine Qu 41 (fun pp => .slice pp data.len data.cap) hp_22 ?_
       refine Qi h fun h => ?_
       refine QL h fun v44 h => ?_
       refine Qn P2 ?_
       obtain ⟨hp_23, h⟩ := h
       refine Qu 45 (fun pp => .slice pp data.len data.cap) hp_23 ?_
       refine Qi h fun h => ?_
       refine QL h fun v48 h => ?_
       refine qreg_tail (by kernel_rfl) ?_
       refine reg_enterV (fo := (Operand.tmp 40)) (aa := #[(Operand.tmp 44), (Operand.tmp 48)]) (ts := #[131, 131]) (fv := cmp) (ty := 3) (dst := some 49) #[Value.agg #[Value.string v44.Key, Value.string v44.Val], Value.agg #[Value.string v48.Key, Value.string v48.Val]] (by kernel_rfl) (by kernel_rfl) (by kernel_rfl) (CallsV.mono h ?_)
       rintro _ w3 ⟨v49, rfl, h⟩
       refine ⟨_, rfl, ?_⟩
       refine Yf P1 [0, 1, 4, 10, 11, 12, 50] ?_
       refine Yc h (fun h => ?_) fun h => ?_
       · refine Yr ?_
         refine Yf P3 [0, 1, 4, 10, 11] ?_
         have hb_ := again__h _ _ _ h
         exact ⟨_, hb_.2, _, Sub.mk (by kernel_rfl), (IntKind.i64.wrap ((IntKind.i64.wrap (Int.fdiv (IntKind.u64.wrap (IntKind.i64.wrap (i + j))) (2 ^ 1))) + 1)), j, rfl, hb_.1, rfl⟩
       · refine Yr ?_
         refine Yf P2 [0, 1, 4, 10, 11] ?_
         have hb_ := again__h _ _ _ h
         exact ⟨_, hb_.2, _, Sub.mk (by kernel_rfl), i, (IntKind.i64.wrap (Int.fdiv (IntKind.u64.wrap (IntKind.i64.wrap (i + j))) (2 ^ 1))), rfl, hb_.1, rfl⟩
     · refine Yexit 0 ?_
       refine Ys ?_
       refine Yp P2 [0, 10, 13] ?_
       refine Yd 2 ?_
       obtain ⟨I, μ, h0, hr⟩ := h
       refine Yloop (fun m l w => ∃ (k_ : Int), l = [(0, sv_ data), (10, Value.int .i64 i), (13, Value.int .i64 k_)] ∧ I k_ w ∧ μ k_ w = m) ⟨a_, rfl, h0, rfl⟩ ?_
       rintro _ _ w4 ⟨k_, rfl, hI, rfl⟩
       obtain ⟨again_1, again_1_h, h⟩ : ∃ again_1 : Int → World → Prop, (∀ k_' w', again_1 k_' w' → I k_' w' ∧ μ k_' w' < μ k_ w4) ∧ F_slices_symMergeCmpFunc_api_Entry_L1 data R i again_1 k_ w4 := ⟨_, fun _ _ h => h, hr k_ w4 hI⟩
       clear h0 hI
       unfold F_slices_symMergeCmpFunc_api_Entry_L1 at h
       refine Ys ?_
       refine Yp P4 [0, 10, 13, 58] ?_
       refine Yc h (fun h => ?_) fun h => ?_
       · refine Yskip ?_
         refine Ys ?_
         refine Yd 3 ?_
         refine wpE_mixregion (id := 11) (ops := r138_48) o_slices_symMergeCmpFunc_api_Entry_48 (by kernel_rfl) (by kernel_rfl) (by kernel_rfl) (by kernel_rfl) (fun w5 hw => ?_)
         replace h := h w5 hw
         clear hw
         refine Mn (Pl 8) ?_
         obtain ⟨hp_28, h⟩ := h
         refine Mu 66 (fun pp => .slice pp data.len data.cap) hp_28 ?_
         refine Mi 8 h fun h => ?_
         refine ML 9 h fun v70 hc h => ?_
         refine Mn P2 ?_
         obtain ⟨hp_29, h⟩ := h
         refine Mu 71 (fun pp => .slice pp data.len data.cap) hp_29 ?_
         refine Mi 12 h fun h => ?_
         refine ML 13 h fun v74 hc h => ?_
         obtain ⟨hp_30, h⟩ := h
         refine Mu 61 (fun pp => .slice pp data.len data.cap) hp_30 ?_
         refine Mi 14 h fun h => ?_
         refine Mstore 15 [0, 1, 5, 6, 7, 8, 9, 13, 14, 12, 10, 11] [] h fun w6 h => ?_
         refine ⟨trivial, ?_⟩
         obtain ⟨hp_31, h⟩ := h
         refine Mu 63 (fun pp => .slice pp data.len data.cap) hp_31 ?_
         refine Mi 16 h fun h => ?_
         refine Mstore 17 [0, 1, 2, 3, 4, 5, 6, 7, 8, 9, 10, 11, 12, 13, 14, 15, 16] [] h fun w7 h => ?_
         refine ⟨trivial, ?_⟩
         refine Mf [] [0, 10, 13] ?_
         refine Yr ?_
         refine Yf P3 [0, 10, 13] ?_
         have hb_ := again_1_h _ _ h
         exact ⟨_, hb_.2, _, Sub.mk (by kernel_rfl), (IntKind.i64.wrap (k_ + 1)), rfl, hb_.1, rfl⟩
       · refine Yexit 2 ?_
         exact YT0 ⟨rfl, h⟩
   · refine Yskip ?_
     refine Ys ?_
     refine Yp P4 [0, 1, 2, 3, 4, 80] ?_
     refine Yc h (fun h => ?_) fun h => ?_
     · refine Yp P2 [0, 2, 4, 14] ?_
       refine Yp P2 [0, 2, 4, 14, 15] ?_
       refine Ys ?_
       refine Yd 4 ?_
       obtain ⟨I, μ, h0, hr⟩ := h
       refine Yloop (fun m l w => ∃ (i1 : Int) (j1 : Int), l = [(0, sv_ data), (2, Value.int .i64 m_), (4, cmp), (14, Value.int .i64 i1), (15, Value.int .i64 j1)] ∧ I i1 j1 w ∧ μ i1 j1 w = m) ⟨a_, m_, rfl, h0, rfl⟩ ?_
       rintro _ _ w8 ⟨i1, j1, rfl, hI, rfl⟩
       obtain ⟨again_2, again_2_h, h⟩ : ∃ again_2 : Int → Int → World → Prop, (∀ i1' j1' w', again_2 i1' j1' w' → I i1' j1' w' ∧ μ i1' j1' w' < μ i1 j1 w8) ∧ F_slices_symMergeCmpFunc_api_Entry_L2 data m_ cmp R again_2 i1 j1 w8 := ⟨_, fun _ _ _ h => h, hr i1 j1 w8 hI⟩
       clear h0 hI
       unfold F_slices_symMergeCmpFunc_api_Entry_L2 at h
       refine Ys ?_
       refine Yp P3 [0, 2, 4, 14, 15, 85] ?_
       refine Yc h (fun h => ?_) fun h => ?_
       · refine Yskip ?_
         refine Yd 5 ?_
         refine Yp (Pl 7) [0, 2, 4, 14, 15, 16] ?_
         refine Ys ?_
         refine wpE_tailregion (id := 17) (ops := r138_80) (by kernel_rfl) 9 (by kernel_rfl) (by kernel_rfl) (fun w9 hw => ?_)
         replace h := h w9 hw
         clear hw
         refine Qn P3 ?_
         obtain ⟨hp_54, h⟩ := h
         refine Qu 93 (fun pp => .slice pp data.len data.cap) hp_54 ?_
         refine Qi h fun h => ?_
         refine QL h fun v96 h => ?_
         refine Qn P2 ?_
         obtain ⟨hp_55, h⟩ := h
         refine Qu 97 (fun pp => .slice pp data.len data.cap) hp_55 ?_
         refine Qi h fun h => ?_
         refine QL h fun v100 h => ?_
         refine qreg_tail (by kernel_rfl) ?_
         refine reg_enterV (fo := (Operand.tmp 92)) (aa := #[(Operand.tmp 96), (Operand.tmp 100)]) (ts := #[131, 131]) (fv := cmp) (ty := 3) (dst := some 101) #[Value.agg #[Value.string v96.Key, Value.string v96.Val], Value.agg #[Value.string v100.Key, Value.string v100.Val]] (by kernel_rfl) (by kernel_rfl) (by kernel_rfl) (CallsV.mono h ?_)
         rintro _ w10 ⟨v101, rfl, h⟩
         refine ⟨_, rfl, ?_⟩
         refine Yf P2 [0, 2, 4, 14, 15, 16, 103] ?_
         refine Yc h (fun h => ?_) fun h => ?_
         · refine Yr ?_
           refine Yf P3 [0, 2, 4, 14, 15] ?_
           have hb_ := again_2_h _ _ _ h
           exact ⟨_, hb_.2, _, Sub.mk (by kernel_rfl), (IntKind.i64.wrap ((IntKind.i64.wrap (Int.fdiv (IntKind.u64.wrap (IntKind.i64.wrap (i1 + j1))) (2 ^ 1))) + 1)), j1, rfl, hb_.1, rfl⟩
         · refine Yr ?_
           refine Yf P2 [0, 2, 4, 14, 15] ?_
           have hb_ := again_2_h _ _ _ h
           exact ⟨_, hb_.2, _, Sub.mk (by kernel_rfl), i1, (IntKind.i64.wrap (Int.fdiv (IntKind.u64.wrap (IntKind.i64.wrap (i1 + j1))) (2 ^ 1))), rfl, hb_.1, rfl⟩
       · refine Yexit 4 ?_
         refine Ys ?_
         refine Yp P2 [0, 14, 17] ?_
         refine Yd 6 ?_
         obtain ⟨I, μ, h0, hr⟩ := h
         refine Yloop (fun m l w => ∃ (k_1 : Int), l = [(0, sv_ data), (14, Value.int .i64 i1), (17, Value.int .i64 k_1)] ∧ I k_1 w ∧ μ k_1 w = m) ⟨m_, rfl, h0, rfl⟩ ?_
         rintro _ _ w11 ⟨k_1, rfl, hI, rfl⟩
         obtain ⟨again_3, again_3_h, h⟩ : ∃ again_3 : Int → World → Prop, (∀ k_1' w', again_3 k_1' w' → I k_1' w' ∧ μ k_1' w' < μ k_1 w11) ∧ F_slices_symMergeCmpFunc_api_Entry_L3 data R i1 again_3 k_1 w11 := ⟨_, fun _ _ h => h, hr k_1 w11 hI⟩
         clear h0 hI
         unfold F_slices_symMergeCmpFunc_api_Entry_L3 at h
         refine Ys ?_
         refine Yp P3 [0, 14, 17, 110] ?_
         refine Yc h (fun h => ?_) fun h => ?_
         · refine Yskip ?_
           refine Ys ?_
           refine Yd 7 ?_
           refine wpE_mixregion (id := 23) (ops := r138_102) o_slices_symMergeCmpFunc_api_Entry_102 (by kernel_rfl) (by kernel_rfl) (by kernel_rfl) (by kernel_rfl) (fun w12 hw => ?_)
           replace h := h w12 hw
           clear hw
           refine Mn (Pl 8) ?_
           obtain ⟨hp_60, h⟩ := h
           refine Mu 118 (fun pp => .slice pp data.len data.cap) hp_60 ?_
           refine Mi 8 h fun h => ?_
           refine ML 9 h fun v122 hc h => ?_
           refine Mn P2 ?_
           obtain ⟨hp_61, h⟩ := h
           refine Mu 123 (fun pp => .slice pp data.len data.cap) hp_61 ?_
           refine Mi 12 h fun h => ?_
           refine ML 13 h fun v126 hc h => ?_
           obtain ⟨hp_62, h⟩ := h
           refine Mu 113 (fun pp => .slice pp data.len data.cap) hp_62 ?_
           refine Mi 14 h fun h => ?_
           refine Mstore 15 [0, 1, 5, 6, 7, 8, 9, 13, 14, 12, 10, 11] [] h fun w13 h => ?_
           refine ⟨trivial, ?_⟩
           obtain ⟨hp_63, h⟩ := h
           refine Mu 115 (fun pp => .slice pp data.len data.cap) hp_63 ?_
           refine Mi 16 h fun h => ?_
           refine Mstore 17 [0, 1, 2, 3, 4, 5, 6, 7, 8, 9, 10, 11, 12, 13, 14, 15, 16] [] h fun w14 h => ?_
           refine ⟨trivial, ?_⟩
           refine Mf [] [0, 14, 17] ?_
           refine Yr ?_
           refine Yf P3 [0, 14, 17] ?_
           have hb_ := again_3_h _ _ h
           exact ⟨_, hb_.2, _, Sub.mk (by kernel_rfl), (IntKind.i64.wrap (k_1 - 1)), rfl, hb_.1, rfl⟩
         · refine Yexit 6 ?_
           exact YT0 ⟨rfl, h⟩
     · refine Yskip ?_
       refine Yp (Pl 7) [0, 1, 2, 3, 4, 18] ?_
       refine Yp P4 [0, 1, 2, 3, 4, 18, 19] ?_
       refine Yp P2 [0, 1, 2, 3, 4, 18, 19] ?_
       refine Ycut (fun l w => ∃ (start : Int) (r : Int), l = [(0, sv_ data), (1, Value.int .i64 a_), (2, Value.int .i64 m_), (3, Value.int .i64 b_), (4, cmp), (18, Value.int .i64 (IntKind.i64.wrap (Int.fdiv (IntKind.u64.wrap (IntKind.i64.wrap (a_ + b_))) (2 ^ 1)))), (19, Value.int .i64 (IntKind.i64.wrap ((IntKind.i64.wrap (Int.fdiv (IntKind.u64.wrap (IntKind.i64.wrap (a_ + b_))) (2 ^ 1))) + m_))), (20, Value.int .i64 start), (21, Value.int .i64 r)] ∧ F_slices_symMergeCmpFunc_api_Entry_k4 data a_ m_ b_ cmp R start r w) ?_ ?_
       · refine Yp P3 [0, 1, 2, 3, 4, 18, 19, 140] ?_
         refine Yc h (fun h => ?_) fun h => ?_
         · refine Yp P4 [0, 1, 2, 3, 4, 18, 19, 20] ?_
           refine Yr ?_
           refine Yf P2 [0, 1, 2, 3, 4, 18, 19, 20, 21] ?_
           exact ⟨_, Sub.mk (by kernel_rfl), (IntKind.i64.wrap ((IntKind.i64.wrap ((IntKind.i64.wrap (Int.fdiv (IntKind.u64.wrap (IntKind.i64.wrap (a_ + b_))) (2 ^ 1))) + m_)) - b_)), (IntKind.i64.wrap (Int.fdiv (IntKind.u64.wrap (IntKind.i64.wrap (a_ + b_))) (2 ^ 1))), rfl, h⟩
         · refine Yp P2 [0, 1, 2, 3, 4, 18, 19, 20] ?_
           refine Yr ?_
           refine Yf P2 [0, 1, 2, 3, 4, 18, 19, 20, 21] ?_
           exact ⟨_, Sub.mk (by kernel_rfl), a_, m_, rfl, h⟩
       · rintro _ w15 ⟨start, r, rfl, h⟩
         unfold F_slices_symMergeCmpFunc_api_Entry_k4 at h
         refine Yp P3 [0, 1, 2, 3, 4, 18, 19, 20, 21, 22] ?_
         refine Ys ?_
         refine Yd 8 ?_
         obtain ⟨I, μ, h0, hr⟩ := h
         refine Yloop (fun m l w => ∃ (start1 : Int) (r1 : Int), l = [(0, sv_ data), (1, Value.int .i64 a_), (2, Value.int .i64 m_), (3, Value.int .i64 b_), (4, cmp), (18, Value.int .i64 (IntKind.i64.wrap (Int.fdiv (IntKind.u64.wrap (IntKind.i64.wrap (a_ + b_))) (2 ^ 1)))), (19, Value.int .i64 (IntKind.i64.wrap ((IntKind.i64.wrap (Int.fdiv (IntKind.u64.wrap (IntKind.i64.wrap (a_ + b_))) (2 ^ 1))) + m_))), (20, Value.int .i64 start1), (21, Value.int .i64 r1), (22, Value.int .i64 (IntKind.i64.wrap ((IntKind.i64.wrap ((IntKind.i64.wrap (Int.fdiv (IntKind.u64.wrap (IntKind.i64.wrap (a_ + b_))) (2 ^ 1))) + m_)) - 1)))] ∧ I start1 r1 w ∧ μ start1 r1 w = m) ⟨start, r, rfl, h0, rfl⟩ ?_
         rintro _ _ w16 ⟨start1, r1, rfl, hI, rfl⟩
         obtain ⟨again_4, again_4_h, h⟩ : ∃ again_4 : Int → Int → World → Prop, (∀ start1' r1' w', again_4 start1' r1' w' → I start1' r1' w' ∧ μ start1' r1' w' < μ start1 r1 w16) ∧ F_slices_symMergeCmpFunc_api_Entry_L5 data a_ m_ b_ cmp R again_4 start1 r1 w16 := ⟨_, fun _ _ _ h => h, hr start1 r1 w16 hI⟩
         clear h0 hI
         unfold F_slices_symMergeCmpFunc_api_Entry_L5 at h
         refine Ys ?_
         refine Yp P3 [0, 1, 2, 3, 4, 18, 19, 20, 21, 22, 151] ?_
         refine Yc h (fun h => ?_) fun h => ?_
         · refine Yskip ?_
           refine Yd 9 ?_
           refine Yp (Pl 7) [0, 1, 2, 3, 4, 18, 19, 20, 21, 22, 23] ?_
           refine Ys ?_
           refine wpE_tailregion (id := 35) (ops := r138_150) (by kernel_rfl) 11 (by kernel_rfl) (by kernel_rfl) (fun w17 hw => ?_)
           replace h := h w17 hw
           clear hw
           refine Qn (Pl 5) ?_
           obtain ⟨hp_70, h⟩ := h
           refine Qu 159 (fun pp => .slice pp data.len data.cap) hp_70 ?_
           refine Qi h fun h => ?_
           refine QL h fun v164 h => ?_
           refine Qn P2 ?_
           obtain ⟨hp_71, h⟩ := h
           refine Qu 165 (fun pp => .slice pp data.len data.cap) hp_71 ?_
           refine Qi h fun h => ?_
           refine QL h fun v168 h => ?_
           refine qreg_tail (by kernel_rfl) ?_
           refine reg_enterV (fo := (Operand.tmp 158)) (aa := #[(Operand.tmp 164), (Operand.tmp 168)]) (ts := #[131, 131]) (fv := cmp) (ty := 3) (dst := some 169) #[Value.agg #[Value.string v164.Key, Value.string v164.Val], Value.agg #[Value.string v168.Key, Value.string v168.Val]] (by kernel_rfl) (by kernel_rfl) (by kernel_rfl) (CallsV.mono h ?_)
           rintro _ w18 ⟨v169, rfl, h⟩
           refine ⟨_, rfl, ?_⟩
           refine Yf P2 [0, 1, 2, 3, 4, 18, 19, 20, 21, 22, 23, 171] ?_
           refine Yc h (fun h => ?_) fun h => ?_
           · refine Yr ?_
             refine Yf P3 [0, 1, 2, 3, 4, 18, 19, 20, 21, 22] ?_
             have hb_ := again_4_h _ _ _ h
             exact ⟨_, hb_.2, _, Sub.mk (by kernel_rfl), (IntKind.i64.wrap ((IntKind.i64.wrap (Int.fdiv (IntKind.u64.wrap (IntKind.i64.wrap (start1 + r1))) (2 ^ 1))) + 1)), r1, rfl, hb_.1, rfl⟩
           · refine Yr ?_
             refine Yf P2 [0, 1, 2, 3, 4, 18, 19, 20, 21, 22] ?_
             have hb_ := again_4_h _ _ _ h
             exact ⟨_, hb_.2, _, Sub.mk (by kernel_rfl), start1, (IntKind.i64.wrap (Int.fdiv (IntKind.u64.wrap (IntKind.i64.wrap (start1 + r1))) (2 ^ 1))), rfl, hb_.1, rfl⟩
         · refine Yexit 8 ?_
           refine Yp P4 [0, 1, 2, 3, 4, 18, 20, 24] ?_
           refine Ycut (fun l w => l = [(0, sv_ data), (1, Value.int .i64 a_), (3, Value.int .i64 b_), (4, cmp), (18, Value.int .i64 (IntKind.i64.wrap (Int.fdiv (IntKind.u64.wrap (IntKind.i64.wrap (a_ + b_))) (2 ^ 1)))), (20, Value.int .i64 start1), (24, Value.int .i64 (IntKind.i64.wrap ((IntKind.i64.wrap ((IntKind.i64.wrap (Int.fdiv (IntKind.u64.wrap (IntKind.i64.wrap (a_ + b_))) (2 ^ 1))) + m_)) - start1)))] ∧ F_slices_symMergeCmpFunc_api_Entry_k6 data a_ m_ b_ cmp R start1 w) ?_ ?_
           · refine Yp [.plain, .plain, .plain, .plain, .plain, .plain, .plain, .pick] [0, 1, 2, 3, 4, 18, 20, 24, 185] ?_
             refine Yc h (fun h => ?_) fun h => ?_
             · refine Yr ?_
               refine Yn (Pl 5) ?_
               refine Ym0 h fun w23 h => ?_
               refine Yf [] [0, 1, 3, 4, 18, 20, 24] ?_
               exact ⟨_, Sub.mk (by kernel_rfl), rfl, h⟩
             · refine Yskip ?_
               exact ⟨_, Sub.mk (by kernel_rfl), rfl, h⟩
           · rintro _ w19 ⟨rfl, h⟩
             unfold F_slices_symMergeCmpFunc_api_Entry_k6 at h
             refine Ycut (fun l w => l = [(0, sv_ data), (3, Value.int .i64 b_), (4, cmp), (18, Value.int .i64 (IntKind.i64.wrap (Int.fdiv (IntKind.u64.wrap (IntKind.i64.wrap (a_ + b_))) (2 ^ 1)))), (24, Value.int .i64 (IntKind.i64.wrap ((IntKind.i64.wrap ((IntKind.i64.wrap (Int.fdiv (IntKind.u64.wrap (IntKind.i64.wrap (a_ + b_))) (2 ^ 1))) + m_)) - start1)))] ∧ F_slices_symMergeCmpFunc_api_Entry_k7 data a_ m_ b_ cmp R start1 w) ?_ ?_
             · refine Yp [.plain, .plain, .plain, .plain, .plain, .plain, .plain, .pick] [0, 1, 3, 4, 18, 20, 24, 199] ?_
               refine Yc h (fun h => ?_) fun h => ?_
               · refine Yr ?_
                 refine Yn (Pl 5) ?_
                 refine Ym0 h fun w22 h => ?_
                 refine Yf [] [0, 3, 4, 18, 24] ?_
                 exact ⟨_, Sub.mk (by kernel_rfl), rfl, h⟩
               · refine Yskip ?_
                 exact ⟨_, Sub.mk (by kernel_rfl), rfl, h⟩
             · rintro _ w20 ⟨rfl, h⟩
               unfold F_slices_symMergeCmpFunc_api_Entry_k7 at h
               refine Yp [.plain, .plain, .plain, .plain, .plain, .plain, .plain, .pick] [0, 3, 4, 18, 24, 213] ?_
               refine Yc h (fun h => ?_) fun h => ?_
               · refine Yr ?_
                 refine Yn (Pl 5) ?_
                 refine Ym0 h fun w21 h => ?_
                 refine Yf [] [] ?_
                 repeat (first | refine seqQ_exit ?_ | refine loopQ_exit ?_ | refine cutQ_exit ?_ | refine blockQ_hit ?_ | refine blockQ_miss (by kernel_rfl) ?_)
                 refine retQ_normal ?_
                 repeat (first | refine seqQ_ret ?_ | refine blockQ_ret ?_ | refine loopQ_ret ?_ | refine cutQ_ret ?_)
                 exact retT (rs := []) (vs := []) (by kernel_rfl) (trivial) (by kernel_rfl) ⟨rfl, h⟩
               · refine Yskip ?_
                 repeat (first | refine seqQ_exit ?_ | refine loopQ_exit ?_ | refine cutQ_exit ?_ | refine blockQ_hit ?_ | refine blockQ_miss (by kernel_rfl) ?_)
                 refine retQ_normal ?_
                 repeat (first | refine seqQ_ret ?_ | refine blockQ_ret ?_ | refine loopQ_ret ?_ | refine cutQ_ret ?_)
                 exact retT (rs := []) (vs := []) (by kernel_rfl) (trivial) (by kernel_rfl) ⟨rfl, h⟩
end
end Go.Proofs.YtpedclhflmhakaaGreatDoor
