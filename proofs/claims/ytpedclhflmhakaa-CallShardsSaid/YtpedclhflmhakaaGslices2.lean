/- WRITTEN BY PROGRAM (dec.py): for each Go function the clean formula F, the call's contract C, and the proof S that F gives C. -/
import Derived.Test.YtpedclhflmhakaaRows
import Derived.Test.YtpedclhflmhakaaGF
namespace Go.Proofs.Ytpedclhflmhakaa
open Go
set_option linter.unusedVariables false
set_option maxRecDepth 100000
set_option maxHeartbeats 4000000
noncomputable section

/-! ### slices.symMergeCmpFunc[towpath/api.Held] (function 129) -/
def c129_0 := cb_ Try.f129
def c129_1 := cl_ c129_0
def c129_4 := cr_ c129_1
def c129_5 := cl_ c129_4
def c129_8 := cr_ c129_5
def c129_11 := cr_ c129_8
def c129_12 := cl_ c129_11
def c129_13 := cl_ c129_12
def c129_14 := cl_ c129_13
def c129_15 := cl_ c129_14
def c129_18 := cr_ c129_15
def c129_19 := cl_ c129_18
def c129_20 := cr_ c129_18
def c129_21 := cr_ c129_14
def c129_22 := cl_ c129_21
def c129_25 := cr_ c129_22
def c129_26 := cl_ c129_25
def r129_26 := co_ c129_26
def c129_28 := cr_ c129_25
def c129_29 := cl_ c129_28
def r129_29 := co_ c129_29
def c129_31 := cr_ c129_28
def r129_31 := co_ c129_31
def c129_33 := cr_ c129_11
def c129_34 := cl_ c129_33
def c129_37 := cr_ c129_34
def c129_38 := cl_ c129_37
def c129_39 := cl_ c129_38
def c129_40 := cl_ c129_39
def c129_43 := cr_ c129_40
def c129_44 := cl_ c129_43
def c129_45 := cr_ c129_43
def c129_46 := cr_ c129_39
def c129_47 := cl_ c129_46
def c129_48 := cl_ c129_47
def r129_48 := co_ c129_48
def c129_50 := cr_ c129_46
def r129_50 := co_ c129_50
def c129_52 := cr_ c129_33
def c129_53 := cr_ c129_4
def c129_54 := cr_ c129_0
def c129_55 := cl_ c129_54
def c129_58 := cr_ c129_55
def c129_59 := cl_ c129_58
def c129_62 := cr_ c129_59
def c129_65 := cr_ c129_62
def c129_66 := cl_ c129_65
def c129_67 := cl_ c129_66
def c129_68 := cl_ c129_67
def c129_69 := cl_ c129_68
def c129_72 := cr_ c129_69
def c129_73 := cl_ c129_72
def c129_74 := cr_ c129_72
def c129_75 := cr_ c129_68
def c129_76 := cl_ c129_75
def c129_79 := cr_ c129_76
def c129_80 := cl_ c129_79
def r129_80 := co_ c129_80
def c129_82 := cr_ c129_79
def c129_83 := cl_ c129_82
def r129_83 := co_ c129_83
def c129_85 := cr_ c129_82
def r129_85 := co_ c129_85
def c129_87 := cr_ c129_65
def c129_88 := cl_ c129_87
def c129_91 := cr_ c129_88
def c129_92 := cl_ c129_91
def c129_93 := cl_ c129_92
def c129_94 := cl_ c129_93
def c129_97 := cr_ c129_94
def c129_98 := cl_ c129_97
def c129_99 := cr_ c129_97
def c129_100 := cr_ c129_93
def c129_101 := cl_ c129_100
def c129_102 := cl_ c129_101
def r129_102 := co_ c129_102
def c129_104 := cr_ c129_100
def r129_104 := co_ c129_104
def c129_106 := cr_ c129_87
def c129_107 := cr_ c129_58
def c129_108 := cr_ c129_54
def c129_111 := cr_ c129_108
def c129_114 := cr_ c129_111
def c129_117 := cr_ c129_114
def c129_118 := cl_ c129_117
def c129_121 := cr_ c129_118
def c129_122 := cl_ c129_121
def c129_125 := cr_ c129_122
def r129_125 := co_ c129_125
def c129_127 := cr_ c129_121
def c129_130 := cr_ c129_127
def r129_130 := co_ c129_130
def c129_132 := cr_ c129_117
def c129_135 := cr_ c129_132
def c129_136 := cl_ c129_135
def c129_137 := cl_ c129_136
def c129_138 := cl_ c129_137
def c129_139 := cl_ c129_138
def c129_142 := cr_ c129_139
def c129_143 := cl_ c129_142
def c129_144 := cr_ c129_142
def c129_145 := cr_ c129_138
def c129_146 := cl_ c129_145
def c129_149 := cr_ c129_146
def c129_150 := cl_ c129_149
def r129_150 := co_ c129_150
def c129_152 := cr_ c129_149
def c129_153 := cl_ c129_152
def r129_153 := co_ c129_153
def c129_155 := cr_ c129_152
def r129_155 := co_ c129_155
def c129_157 := cr_ c129_135
def c129_160 := cr_ c129_157
def c129_161 := cl_ c129_160
def c129_164 := cr_ c129_161
def c129_165 := cl_ c129_164
def r129_165 := co_ c129_165
def c129_167 := cr_ c129_164
def c129_168 := cr_ c129_160
def c129_169 := cl_ c129_168
def c129_172 := cr_ c129_169
def c129_173 := cl_ c129_172
def r129_173 := co_ c129_173
def c129_175 := cr_ c129_172
def c129_176 := cr_ c129_168
def c129_179 := cr_ c129_176
def c129_180 := cl_ c129_179
def r129_180 := co_ c129_180
def c129_182 := cr_ c129_179
def o_slices_symMergeCmpFunc_api_Held_48 : List Nat := [0, 1, 2, 3, 4, 5, 6, 7, 8, 9, 10, 11, 12, 13, 14, 15, 16, 17]
def o_slices_symMergeCmpFunc_api_Held_102 : List Nat := [0, 1, 2, 3, 4, 5, 6, 7, 8, 9, 10, 11, 12, 13, 14, 15, 16, 17]

theorem S_slices_symMergeCmpFunc_api_Held {data : Slc} {a_ : Int} {m_ : Int} {b_ : Int} {cmp : Value} {w : World} {R : World → Prop} (h : F_slices_symMergeCmpFunc_api_Held data a_ m_ b_ cmp R w) : C_slices_symMergeCmpFunc_api_Held data a_ m_ b_ cmp w R := by
 unfold F_slices_symMergeCmpFunc_api_Held at h
 unfold C_slices_symMergeCmpFunc_api_Held
 refine Calls.mono (calls_of_wpE (args := [sv_ data, Value.int .i64 a_, Value.int .i64 m_, Value.int .i64 b_, cmp]) (R := fun v w' => v = Value.tuple #[] ∧ R w') Try.func129 (c := c129_0) (by kernel_rfl) 220 (by kernel_rfl) (by kernel_rfl) [(0, sv_ data), (1, Value.int .i64 a_), (2, Value.int .i64 m_), (3, Value.int .i64 b_), (4, cmp)] (by kernel_rfl) ?_) ?_
 · refine Zs c129_1 c129_54 ?_
   refine Zp c129_4 P4 [(0, sv_ data), (1, .int .i64 a_), (2, .int .i64 m_), (3, .int .i64 b_), (4, cmp), (28, .bool ((IntKind.i64.wrap (m_ - a_)) == 1))] ?_
   refine Zc 28 ((IntKind.i64.wrap (m_ - a_)) == 1) c129_5 c129_53 (fun hb => ?_) (fun hb => ?_)
   · replace h := h.1 hb
     refine Zp c129_8 P2 [(0, sv_ data), (1, .int .i64 a_), (3, .int .i64 b_), (4, cmp), (10, .int .i64 m_)] ?_
     refine Zp c129_11 P2 [(0, sv_ data), (1, .int .i64 a_), (4, cmp), (10, .int .i64 m_), (11, .int .i64 b_)] ?_
     refine Zs c129_12 c129_33 ?_
     refine Zb 0 c129_13 ?_
     obtain ⟨I, μ, h0, hr⟩ := h
     refine wpE_loop (x := c129_14) (by kernel_rfl) (fun m l w => ∃ (i : Int) (j : Int), l = [(0, sv_ data), (1, Value.int .i64 a_), (4, cmp), (10, Value.int .i64 i), (11, Value.int .i64 j)] ∧ I i j w ∧ μ i j w = m) (l' := [(0, sv_ data), (1, Value.int .i64 a_), (4, cmp), (10, Value.int .i64 m_), (11, Value.int .i64 b_)]) (Sub.mk (by kernel_rfl)) ⟨m_, b_, rfl, h0, rfl⟩ ?_
     rintro _ _ w1 ⟨i, j, rfl, hI, rfl⟩
     obtain ⟨again_, again__h, h⟩ : ∃ again_ : Int → Int → World → Prop, (∀ i' j' w', again_ i' j' w' → I i' j' w' ∧ μ i' j' w' < μ i j w1) ∧ F_slices_symMergeCmpFunc_api_Held_L0 data a_ cmp R again_ i j w1 := ⟨_, fun _ _ _ h => h, hr i j w1 hI⟩
     clear h0 hI
     unfold F_slices_symMergeCmpFunc_api_Held_L0 at h
     refine Zs c129_15 c129_21 ?_
     refine Zp c129_18 P3 [(0, sv_ data), (1, .int .i64 a_), (4, cmp), (10, .int .i64 i), (11, .int .i64 j), (33, .bool (decide (i < j)))] ?_
     refine Zc 33 (decide (i < j)) c129_19 c129_20 (fun hb => ?_) (fun hb => ?_)
     · replace h := h.1 hb
       refine wpE_skip (by kernel_rfl) ?_
       change WpE _ _ c129_21 _ _ _
       refine Zb 1 c129_22 ?_
       refine Zp c129_25 (Pl 7) [(0, sv_ data), (1, .int .i64 a_), (4, cmp), (10, .int .i64 i), (11, .int .i64 j), (12, .int .i64 (IntKind.i64.wrap (Int.fdiv (IntKind.u64.wrap (IntKind.i64.wrap (i + j))) (2 ^ 1))))] ?_
       refine Zs c129_26 c129_28 ?_
       refine wpE_tailregion (id := 5) (ops := r129_26) (by kernel_rfl) 9 (by kernel_rfl) (by kernel_rfl) (fun w2 hw => ?_)
       replace h := h w2 hw
       clear hw
       refine qreg_run P3 3 [(0, [], sv_ data), (1, [], Value.int .i64 a_), (4, [], cmp), (10, [], Value.int .i64 i), (11, [], Value.int .i64 j), (12, [], Value.int .i64 (IntKind.i64.wrap (Int.fdiv (IntKind.u64.wrap (IntKind.i64.wrap (i + j))) (2 ^ 1)))), (40, [], cmp), (41, [], sv_ data), (42, [], Value.int .i64 (IntKind.i64.wrap (Int.fdiv (IntKind.u64.wrap (IntKind.i64.wrap (i + j))) (2 ^ 1))))] (by kernel_rfl) (by kernel_rfl) ?_
       obtain ⟨hp_22, h⟩ := h
       refine qreg_conv [(0, [], sv_ data), (1, [], Value.int .i64 a_), (4, [], cmp), (10, [], Value.int .i64 i), (11, [], Value.int .i64 j), (12, [], Value.int .i64 (IntKind.i64.wrap (Int.fdiv (IntKind.u64.wrap (IntKind.i64.wrap (i + j))) (2 ^ 1)))), (40, [], cmp), (41, [], Value.slice (some ⟨(pblk data.ptr), (poff data.ptr), none⟩) data.len data.cap), (42, [], Value.int .i64 (IntKind.i64.wrap (Int.fdiv (IntKind.u64.wrap (IntKind.i64.wrap (i + j))) (2 ^ 1))))] (congrArg (fun pp => ([(0, [], sv_ data), (1, [], Value.int .i64 a_), (4, [], cmp), (10, [], Value.int .i64 i), (11, [], Value.int .i64 j), (12, [], Value.int .i64 (IntKind.i64.wrap (Int.fdiv (IntKind.u64.wrap (IntKind.i64.wrap (i + j))) (2 ^ 1)))), (40, [], cmp), (41, [], Value.slice pp data.len data.cap), (42, [], Value.int .i64 (IntKind.i64.wrap (Int.fdiv (IntKind.u64.wrap (IntKind.i64.wrap (i + j))) (2 ^ 1))))] : GEnv)) hp_22) ?_
       obtain ⟨h0, h1, h⟩ := h
       refine qreg_indexS (t := 93) (e := 143) (x := (Operand.tmp 41)) (ix := (Operand.tmp 42)) (b := (pblk data.ptr)) (o := (poff data.ptr)) (l := data.len) (c := data.cap) (k := .i64) (j := (IntKind.i64.wrap (Int.fdiv (IntKind.u64.wrap (IntKind.i64.wrap (i + j))) (2 ^ 1)))) (ty := 0) (dst := some 43) (sz := 2) (by kernel_rfl) (by kernel_rfl) (by kernel_rfl) (by kernel_rfl) (by kernel_rfl) h0 h1 ?_
       refine qreg_run [] 4 [(0, [], sv_ data), (1, [], Value.int .i64 a_), (4, [], cmp), (10, [], Value.int .i64 i), (11, [], Value.int .i64 j), (12, [], Value.int .i64 (IntKind.i64.wrap (Int.fdiv (IntKind.u64.wrap (IntKind.i64.wrap (i + j))) (2 ^ 1)))), (40, [], cmp), (43, [], Value.pointer (some ⟨(pblk data.ptr), (poff data.ptr) + (IntKind.i64.wrap (Int.fdiv (IntKind.u64.wrap (IntKind.i64.wrap (i + j))) (2 ^ 1))).toNat * 2, none⟩))] (by kernel_rfl) (by kernel_rfl) ?_
       obtain ⟨v44, hc, h⟩ := h
       refine qreg_loadN (t := 143) (a := (Operand.tmp 43)) (b := (pblk data.ptr)) (o := ((poff data.ptr) + (IntKind.i64.wrap (Int.fdiv (IntKind.u64.wrap (IntKind.i64.wrap (i + j))) (2 ^ 1))).toNat * 2)) (ty := 143) (dst := some 44) [Value.string v44.Key, sv_ v44.Versions] (by kernel_rfl) (by kernel_rfl) (by kernel_rfl) (k := 2) (by kernel_rfl) (by kernel_rfl) hc ?_
       refine qreg_run P2 7 [(0, [], sv_ data), (1, [], Value.int .i64 a_), (4, [], cmp), (10, [], Value.int .i64 i), (11, [], Value.int .i64 j), (12, [], Value.int .i64 (IntKind.i64.wrap (Int.fdiv (IntKind.u64.wrap (IntKind.i64.wrap (i + j))) (2 ^ 1)))), (40, [], cmp), (44, [], Value.agg #[Value.string v44.Key, sv_ v44.Versions]), (45, [], sv_ data), (46, [], Value.int .i64 a_)] (by kernel_rfl) (by kernel_rfl) ?_
       obtain ⟨hp_23, h⟩ := h
       refine qreg_conv [(0, [], sv_ data), (1, [], Value.int .i64 a_), (4, [], cmp), (10, [], Value.int .i64 i), (11, [], Value.int .i64 j), (12, [], Value.int .i64 (IntKind.i64.wrap (Int.fdiv (IntKind.u64.wrap (IntKind.i64.wrap (i + j))) (2 ^ 1)))), (40, [], cmp), (44, [], Value.agg #[Value.string v44.Key, sv_ v44.Versions]), (45, [], Value.slice (some ⟨(pblk data.ptr), (poff data.ptr), none⟩) data.len data.cap), (46, [], Value.int .i64 a_)] (congrArg (fun pp => ([(0, [], sv_ data), (1, [], Value.int .i64 a_), (4, [], cmp), (10, [], Value.int .i64 i), (11, [], Value.int .i64 j), (12, [], Value.int .i64 (IntKind.i64.wrap (Int.fdiv (IntKind.u64.wrap (IntKind.i64.wrap (i + j))) (2 ^ 1)))), (40, [], cmp), (44, [], Value.agg #[Value.string v44.Key, sv_ v44.Versions]), (45, [], Value.slice pp data.len data.cap), (46, [], Value.int .i64 a_)] : GEnv)) hp_23) ?_
       obtain ⟨h0, h1, h⟩ := h
       refine qreg_indexS (t := 93) (e := 143) (x := (Operand.tmp 45)) (ix := (Operand.tmp 46)) (b := (pblk data.ptr)) (o := (poff data.ptr)) (l := data.len) (c := data.cap) (k := .i64) (j := a_) (ty := 0) (dst := some 47) (sz := 2) (by kernel_rfl) (by kernel_rfl) (by kernel_rfl) (by kernel_rfl) (by kernel_rfl) h0 h1 ?_
       refine qreg_run [] 8 [(0, [], sv_ data), (1, [], Value.int .i64 a_), (4, [], cmp), (10, [], Value.int .i64 i), (11, [], Value.int .i64 j), (12, [], Value.int .i64 (IntKind.i64.wrap (Int.fdiv (IntKind.u64.wrap (IntKind.i64.wrap (i + j))) (2 ^ 1)))), (40, [], cmp), (44, [], Value.agg #[Value.string v44.Key, sv_ v44.Versions]), (47, [], Value.pointer (some ⟨(pblk data.ptr), (poff data.ptr) + a_.toNat * 2, none⟩))] (by kernel_rfl) (by kernel_rfl) ?_
       obtain ⟨v48, hc, h⟩ := h
       refine qreg_loadN (t := 143) (a := (Operand.tmp 47)) (b := (pblk data.ptr)) (o := ((poff data.ptr) + a_.toNat * 2)) (ty := 143) (dst := some 48) [Value.string v48.Key, sv_ v48.Versions] (by kernel_rfl) (by kernel_rfl) (by kernel_rfl) (k := 2) (by kernel_rfl) (by kernel_rfl) hc ?_
       refine qreg_run [] 9 [(0, [], sv_ data), (1, [], Value.int .i64 a_), (4, [], cmp), (10, [], Value.int .i64 i), (11, [], Value.int .i64 j), (12, [], Value.int .i64 (IntKind.i64.wrap (Int.fdiv (IntKind.u64.wrap (IntKind.i64.wrap (i + j))) (2 ^ 1)))), (40, [], cmp), (44, [], Value.agg #[Value.string v44.Key, sv_ v44.Versions]), (48, [], Value.agg #[Value.string v48.Key, sv_ v48.Versions])] (by kernel_rfl) (by kernel_rfl) ?_
       refine qreg_tail (by kernel_rfl) ?_
       refine Zn [] 9 [(0, [], sv_ data), (1, [], .int .i64 a_), (4, [], cmp), (10, [], .int .i64 i), (11, [], .int .i64 j), (12, [], .int .i64 (IntKind.i64.wrap (Int.fdiv (IntKind.u64.wrap (IntKind.i64.wrap (i + j))) (2 ^ 1)))), (40, [], cmp), (44, [], .agg #[.string v44.Key, sv_ v44.Versions]), (48, [], .agg #[.string v48.Key, sv_ v48.Versions])] ?_
       refine reg_enterV (fo := (Operand.tmp 40)) (aa := #[(Operand.tmp 44), (Operand.tmp 48)]) (ts := #[143, 143]) (fv := cmp) (ty := 3) (dst := some 49) #[Value.agg #[Value.string v44.Key, sv_ v44.Versions], Value.agg #[Value.string v48.Key, sv_ v48.Versions]] (by kernel_rfl) (by kernel_rfl) (by kernel_rfl) (CallsV.mono h ?_)
       rintro _ w3 ⟨v49, rfl, h⟩
       refine ⟨_, rfl, ?_⟩
       refine Zf P1 [(0, sv_ data), (1, .int .i64 a_), (4, cmp), (10, .int .i64 i), (11, .int .i64 j), (12, .int .i64 (IntKind.i64.wrap (Int.fdiv (IntKind.u64.wrap (IntKind.i64.wrap (i + j))) (2 ^ 1)))), (50, .bool (decide (v49 < 0)))] ?_
       change WpE _ _ c129_28 _ _ _
       refine Zc 50 (decide (v49 < 0)) c129_29 c129_31 (fun hb => ?_) (fun hb => ?_)
       · replace h := h.1 hb
         refine Zr r129_29 ?_
         refine Zf P3 [(0, sv_ data), (1, .int .i64 a_), (4, cmp), (10, .int .i64 (IntKind.i64.wrap ((IntKind.i64.wrap (Int.fdiv (IntKind.u64.wrap (IntKind.i64.wrap (i + j))) (2 ^ 1))) + 1))), (11, .int .i64 j)] ?_
         have hb_ := again__h _ _ _ h
         exact ⟨_, hb_.2, [(0, sv_ data), (1, Value.int .i64 a_), (4, cmp), (10, Value.int .i64 (IntKind.i64.wrap ((IntKind.i64.wrap (Int.fdiv (IntKind.u64.wrap (IntKind.i64.wrap (i + j))) (2 ^ 1))) + 1))), (11, Value.int .i64 j)], Sub.mk (by kernel_rfl), (IntKind.i64.wrap ((IntKind.i64.wrap (Int.fdiv (IntKind.u64.wrap (IntKind.i64.wrap (i + j))) (2 ^ 1))) + 1)), j, rfl, hb_.1, rfl⟩
       · replace h := h.2 hb
         refine Zr r129_31 ?_
         refine Zf P2 [(0, sv_ data), (1, .int .i64 a_), (4, cmp), (10, .int .i64 i), (11, .int .i64 (IntKind.i64.wrap (Int.fdiv (IntKind.u64.wrap (IntKind.i64.wrap (i + j))) (2 ^ 1))))] ?_
         have hb_ := again__h _ _ _ h
         exact ⟨_, hb_.2, [(0, sv_ data), (1, Value.int .i64 a_), (4, cmp), (10, Value.int .i64 i), (11, Value.int .i64 (IntKind.i64.wrap (Int.fdiv (IntKind.u64.wrap (IntKind.i64.wrap (i + j))) (2 ^ 1))))], Sub.mk (by kernel_rfl), i, (IntKind.i64.wrap (Int.fdiv (IntKind.u64.wrap (IntKind.i64.wrap (i + j))) (2 ^ 1))), rfl, hb_.1, rfl⟩
     · replace h := h.2 hb
       refine wpE_exit (id := 0) (by kernel_rfl) ?_
       change WpE _ _ c129_33 _ _ _
       refine Zs c129_34 c129_52 ?_
       refine Zp c129_37 P2 [(0, sv_ data), (10, .int .i64 i), (13, .int .i64 a_)] ?_
       refine Zb 2 c129_38 ?_
       obtain ⟨I, μ, h0, hr⟩ := h
       refine wpE_loop (x := c129_39) (by kernel_rfl) (fun m l w => ∃ (k_ : Int), l = [(0, sv_ data), (10, Value.int .i64 i), (13, Value.int .i64 k_)] ∧ I k_ w ∧ μ k_ w = m) (l' := [(0, sv_ data), (10, Value.int .i64 i), (13, Value.int .i64 a_)]) (Sub.mk (by kernel_rfl)) ⟨a_, rfl, h0, rfl⟩ ?_
       rintro _ _ w4 ⟨k_, rfl, hI, rfl⟩
       obtain ⟨again_1, again_1_h, h⟩ : ∃ again_1 : Int → World → Prop, (∀ k_' w', again_1 k_' w' → I k_' w' ∧ μ k_' w' < μ k_ w4) ∧ F_slices_symMergeCmpFunc_api_Held_L1 data R i again_1 k_ w4 := ⟨_, fun _ _ h => h, hr k_ w4 hI⟩
       clear h0 hI
       unfold F_slices_symMergeCmpFunc_api_Held_L1 at h
       refine Zs c129_40 c129_46 ?_
       refine Zp c129_43 P4 [(0, sv_ data), (10, .int .i64 i), (13, .int .i64 k_), (58, .bool (decide (k_ < (IntKind.i64.wrap (i - 1)))))] ?_
       refine Zc 58 (decide (k_ < (IntKind.i64.wrap (i - 1)))) c129_44 c129_45 (fun hb => ?_) (fun hb => ?_)
       · replace h := h.1 hb
         refine wpE_skip (by kernel_rfl) ?_
         change WpE _ _ c129_46 _ _ _
         refine Zs c129_47 c129_50 ?_
         refine Zb 3 c129_48 ?_
         refine wpE_mixregion (id := 11) (ops := r129_48) o_slices_symMergeCmpFunc_api_Held_48 (by kernel_rfl) (by kernel_rfl) (by kernel_rfl) (by kernel_rfl) (fun w5 hw => ?_)
         replace h := h w5 hw
         clear hw
         refine mreg_run [.plain, .plain, .plain, .plain, .plain, .plain, .plain, .plain] 8 [(0, [], sv_ data), (10, [], Value.int .i64 i), (13, [], Value.int .i64 k_), (61, [], sv_ data), (62, [], Value.int .i64 k_), (63, [], sv_ data), (65, [], Value.int .i64 (IntKind.i64.wrap (k_ + 1))), (66, [], sv_ data), (68, [], Value.int .i64 (IntKind.i64.wrap (k_ + 1)))] (by kernel_rfl) (by kernel_rfl) ?_
         obtain ⟨hp_28, h⟩ := h
         refine mreg_conv [(0, [], sv_ data), (10, [], Value.int .i64 i), (13, [], Value.int .i64 k_), (61, [], sv_ data), (62, [], Value.int .i64 k_), (63, [], sv_ data), (65, [], Value.int .i64 (IntKind.i64.wrap (k_ + 1))), (66, [], Value.slice (some ⟨(pblk data.ptr), (poff data.ptr), none⟩) data.len data.cap), (68, [], Value.int .i64 (IntKind.i64.wrap (k_ + 1)))] (congrArg (fun pp => ([(0, [], sv_ data), (10, [], Value.int .i64 i), (13, [], Value.int .i64 k_), (61, [], sv_ data), (62, [], Value.int .i64 k_), (63, [], sv_ data), (65, [], Value.int .i64 (IntKind.i64.wrap (k_ + 1))), (66, [], Value.slice pp data.len data.cap), (68, [], Value.int .i64 (IntKind.i64.wrap (k_ + 1)))] : GEnv)) hp_28) ?_
         obtain ⟨h0, h1, h⟩ := h
         refine mreg_indexS (i := 8) (by kernel_rfl) (t := 93) (e := 143) (x := (Operand.tmp 66)) (ix := (Operand.tmp 68)) (b := (pblk data.ptr)) (o := (poff data.ptr)) (l := data.len) (c := data.cap) (k := .i64) (j := (IntKind.i64.wrap (k_ + 1))) (ty := 0) (dst := some 69) (sz := 2) (by kernel_rfl) (by kernel_rfl) (by kernel_rfl) (by kernel_rfl) (by kernel_rfl) h0 h1 ?_
         refine mreg_run [] 9 [(0, [], sv_ data), (10, [], Value.int .i64 i), (13, [], Value.int .i64 k_), (61, [], sv_ data), (62, [], Value.int .i64 k_), (63, [], sv_ data), (65, [], Value.int .i64 (IntKind.i64.wrap (k_ + 1))), (69, [], Value.pointer (some ⟨(pblk data.ptr), (poff data.ptr) + (IntKind.i64.wrap (k_ + 1)).toNat * 2, none⟩))] (by kernel_rfl) (by kernel_rfl) ?_
         obtain ⟨v70, hc, h⟩ := h
         refine mreg_loadN (i := 9) (by kernel_rfl) (t := 143) (a := (Operand.tmp 69)) (b := (pblk data.ptr)) (o := ((poff data.ptr) + (IntKind.i64.wrap (k_ + 1)).toNat * 2)) (ty := 143) (dst := some 70) [Value.string v70.Key, sv_ v70.Versions] (by kernel_rfl) (by kernel_rfl) (by kernel_rfl) (k := 2) (by kernel_rfl) (by kernel_rfl) hc ?_
         refine mreg_run P2 12 [(0, [], sv_ data), (10, [], Value.int .i64 i), (13, [], Value.int .i64 k_), (61, [], sv_ data), (62, [], Value.int .i64 k_), (63, [], sv_ data), (65, [], Value.int .i64 (IntKind.i64.wrap (k_ + 1))), (70, [], Value.agg #[Value.string v70.Key, sv_ v70.Versions]), (71, [], sv_ data), (72, [], Value.int .i64 k_)] (by kernel_rfl) (by kernel_rfl) ?_
         obtain ⟨hp_29, h⟩ := h
         refine mreg_conv [(0, [], sv_ data), (10, [], Value.int .i64 i), (13, [], Value.int .i64 k_), (61, [], sv_ data), (62, [], Value.int .i64 k_), (63, [], sv_ data), (65, [], Value.int .i64 (IntKind.i64.wrap (k_ + 1))), (70, [], Value.agg #[Value.string v70.Key, sv_ v70.Versions]), (71, [], Value.slice (some ⟨(pblk data.ptr), (poff data.ptr), none⟩) data.len data.cap), (72, [], Value.int .i64 k_)] (congrArg (fun pp => ([(0, [], sv_ data), (10, [], Value.int .i64 i), (13, [], Value.int .i64 k_), (61, [], sv_ data), (62, [], Value.int .i64 k_), (63, [], sv_ data), (65, [], Value.int .i64 (IntKind.i64.wrap (k_ + 1))), (70, [], Value.agg #[Value.string v70.Key, sv_ v70.Versions]), (71, [], Value.slice pp data.len data.cap), (72, [], Value.int .i64 k_)] : GEnv)) hp_29) ?_
         obtain ⟨h0, h1, h⟩ := h
         refine mreg_indexS (i := 12) (by kernel_rfl) (t := 93) (e := 143) (x := (Operand.tmp 71)) (ix := (Operand.tmp 72)) (b := (pblk data.ptr)) (o := (poff data.ptr)) (l := data.len) (c := data.cap) (k := .i64) (j := k_) (ty := 0) (dst := some 73) (sz := 2) (by kernel_rfl) (by kernel_rfl) (by kernel_rfl) (by kernel_rfl) (by kernel_rfl) h0 h1 ?_
         refine mreg_run [] 13 [(0, [], sv_ data), (10, [], Value.int .i64 i), (13, [], Value.int .i64 k_), (61, [], sv_ data), (62, [], Value.int .i64 k_), (63, [], sv_ data), (65, [], Value.int .i64 (IntKind.i64.wrap (k_ + 1))), (70, [], Value.agg #[Value.string v70.Key, sv_ v70.Versions]), (73, [], Value.pointer (some ⟨(pblk data.ptr), (poff data.ptr) + k_.toNat * 2, none⟩))] (by kernel_rfl) (by kernel_rfl) ?_
         obtain ⟨v74, hc, h⟩ := h
         refine mreg_loadN (i := 13) (by kernel_rfl) (t := 143) (a := (Operand.tmp 73)) (b := (pblk data.ptr)) (o := ((poff data.ptr) + k_.toNat * 2)) (ty := 143) (dst := some 74) [Value.string v74.Key, sv_ v74.Versions] (by kernel_rfl) (by kernel_rfl) (by kernel_rfl) (k := 2) (by kernel_rfl) (by kernel_rfl) hc ?_
         refine mreg_run [] 14 [(0, [], sv_ data), (10, [], Value.int .i64 i), (13, [], Value.int .i64 k_), (61, [], sv_ data), (62, [], Value.int .i64 k_), (63, [], sv_ data), (65, [], Value.int .i64 (IntKind.i64.wrap (k_ + 1))), (70, [], Value.agg #[Value.string v70.Key, sv_ v70.Versions]), (74, [], Value.agg #[Value.string v74.Key, sv_ v74.Versions])] (by kernel_rfl) (by kernel_rfl) ?_
         obtain ⟨hp_30, h⟩ := h
         refine mreg_conv [(0, [], sv_ data), (10, [], Value.int .i64 i), (13, [], Value.int .i64 k_), (61, [], Value.slice (some ⟨(pblk data.ptr), (poff data.ptr), none⟩) data.len data.cap), (62, [], Value.int .i64 k_), (63, [], sv_ data), (65, [], Value.int .i64 (IntKind.i64.wrap (k_ + 1))), (70, [], Value.agg #[Value.string v70.Key, sv_ v70.Versions]), (74, [], Value.agg #[Value.string v74.Key, sv_ v74.Versions])] (congrArg (fun pp => ([(0, [], sv_ data), (10, [], Value.int .i64 i), (13, [], Value.int .i64 k_), (61, [], Value.slice pp data.len data.cap), (62, [], Value.int .i64 k_), (63, [], sv_ data), (65, [], Value.int .i64 (IntKind.i64.wrap (k_ + 1))), (70, [], Value.agg #[Value.string v70.Key, sv_ v70.Versions]), (74, [], Value.agg #[Value.string v74.Key, sv_ v74.Versions])] : GEnv)) hp_30) ?_
         obtain ⟨h0, h1, h⟩ := h
         refine mreg_indexS (i := 14) (by kernel_rfl) (t := 93) (e := 143) (x := (Operand.tmp 61)) (ix := (Operand.tmp 62)) (b := (pblk data.ptr)) (o := (poff data.ptr)) (l := data.len) (c := data.cap) (k := .i64) (j := k_) (ty := 0) (dst := some 75) (sz := 2) (by kernel_rfl) (by kernel_rfl) (by kernel_rfl) (by kernel_rfl) (by kernel_rfl) h0 h1 ?_
         refine mreg_run [] 15 [(0, [], sv_ data), (10, [], Value.int .i64 i), (13, [], Value.int .i64 k_), (63, [], sv_ data), (65, [], Value.int .i64 (IntKind.i64.wrap (k_ + 1))), (70, [], Value.agg #[Value.string v70.Key, sv_ v70.Versions]), (74, [], Value.agg #[Value.string v74.Key, sv_ v74.Versions]), (75, [], Value.pointer (some ⟨(pblk data.ptr), (poff data.ptr) + k_.toNat * 2, none⟩))] (by kernel_rfl) (by kernel_rfl) ?_
         obtain ⟨hc, h⟩ := h
         refine mreg_store (t := 143) (a := (Operand.tmp 75)) (x := (Operand.tmp 70)) (b := (pblk data.ptr)) (o := ((poff data.ptr) + k_.toNat * 2)) (k := 2) (ty := 0) (dst := none) 15 [0, 1, 5, 6, 7, 8, 9, 13, 14, 12, 10, 11] [] [Value.string v70.Key, sv_ v70.Versions] (by kernel_rfl) (by kernel_rfl) (by kernel_rfl) (by kernel_rfl) (by kernel_rfl) (by kernel_rfl) (by kernel_rfl) (by kernel_rfl) (by kernel_rfl) (by kernel_rfl) hc (fun w6 hw => ?_)
         replace h := h w6 hw
         clear hw
         refine ⟨trivial, ?_⟩
         refine mreg_run [] 16 [(0, [], sv_ data), (10, [], Value.int .i64 i), (13, [], Value.int .i64 k_), (63, [], sv_ data), (65, [], Value.int .i64 (IntKind.i64.wrap (k_ + 1))), (74, [], Value.agg #[Value.string v74.Key, sv_ v74.Versions])] (by kernel_rfl) (by kernel_rfl) ?_
         obtain ⟨hp_31, h⟩ := h
         refine mreg_conv [(0, [], sv_ data), (10, [], Value.int .i64 i), (13, [], Value.int .i64 k_), (63, [], Value.slice (some ⟨(pblk data.ptr), (poff data.ptr), none⟩) data.len data.cap), (65, [], Value.int .i64 (IntKind.i64.wrap (k_ + 1))), (74, [], Value.agg #[Value.string v74.Key, sv_ v74.Versions])] (congrArg (fun pp => ([(0, [], sv_ data), (10, [], Value.int .i64 i), (13, [], Value.int .i64 k_), (63, [], Value.slice pp data.len data.cap), (65, [], Value.int .i64 (IntKind.i64.wrap (k_ + 1))), (74, [], Value.agg #[Value.string v74.Key, sv_ v74.Versions])] : GEnv)) hp_31) ?_
         obtain ⟨h0, h1, h⟩ := h
         refine mreg_indexS (i := 16) (by kernel_rfl) (t := 93) (e := 143) (x := (Operand.tmp 63)) (ix := (Operand.tmp 65)) (b := (pblk data.ptr)) (o := (poff data.ptr)) (l := data.len) (c := data.cap) (k := .i64) (j := (IntKind.i64.wrap (k_ + 1))) (ty := 0) (dst := some 76) (sz := 2) (by kernel_rfl) (by kernel_rfl) (by kernel_rfl) (by kernel_rfl) (by kernel_rfl) h0 h1 ?_
         refine mreg_run [] 17 [(0, [], sv_ data), (10, [], Value.int .i64 i), (13, [], Value.int .i64 k_), (74, [], Value.agg #[Value.string v74.Key, sv_ v74.Versions]), (76, [], Value.pointer (some ⟨(pblk data.ptr), (poff data.ptr) + (IntKind.i64.wrap (k_ + 1)).toNat * 2, none⟩))] (by kernel_rfl) (by kernel_rfl) ?_
         obtain ⟨hc, h⟩ := h
         refine mreg_store (t := 143) (a := (Operand.tmp 76)) (x := (Operand.tmp 74)) (b := (pblk data.ptr)) (o := ((poff data.ptr) + (IntKind.i64.wrap (k_ + 1)).toNat * 2)) (k := 2) (ty := 0) (dst := none) 17 [0, 1, 2, 3, 4, 5, 6, 7, 8, 9, 10, 11, 12, 13, 14, 15, 16] [] [Value.string v74.Key, sv_ v74.Versions] (by kernel_rfl) (by kernel_rfl) (by kernel_rfl) (by kernel_rfl) (by kernel_rfl) (by kernel_rfl) (by kernel_rfl) (by kernel_rfl) (by kernel_rfl) (by kernel_rfl) hc (fun w7 hw => ?_)
         replace h := h w7 hw
         clear hw
         refine ⟨trivial, ?_⟩
         refine mreg_end [(0, sv_ data), (10, Value.int .i64 i), (13, Value.int .i64 k_)] (by kernel_rfl) (by kernel_rfl) (by kernel_rfl) ?_
         change WpE _ _ c129_50 _ _ _
         refine Zr r129_50 ?_
         refine Zf P3 [(0, sv_ data), (10, .int .i64 i), (13, .int .i64 (IntKind.i64.wrap (k_ + 1)))] ?_
         have hb_ := again_1_h _ _ h
         exact ⟨_, hb_.2, [(0, sv_ data), (10, Value.int .i64 i), (13, Value.int .i64 (IntKind.i64.wrap (k_ + 1)))], Sub.mk (by kernel_rfl), (IntKind.i64.wrap (k_ + 1)), rfl, hb_.1, rfl⟩
       · replace h := h.2 hb
         refine wpE_exit (id := 2) (by kernel_rfl) ?_
         change WpE _ _ c129_52 _ _ _
         refine wpE_ret (by kernel_rfl) ?_
         repeat (first | refine seqQ_ret ?_ | refine blockQ_ret ?_ | refine loopQ_ret ?_ | refine cutQ_ret ?_)
         exact retT (rs := []) (vs := []) (by kernel_rfl) (trivial) (by kernel_rfl) ⟨rfl, h⟩
   · replace h := h.2 hb
     refine wpE_skip (by kernel_rfl) ?_
     change WpE _ _ c129_54 _ _ _
     refine Zs c129_55 c129_108 ?_
     refine Zp c129_58 P4 [(0, sv_ data), (1, .int .i64 a_), (2, .int .i64 m_), (3, .int .i64 b_), (4, cmp), (80, .bool ((IntKind.i64.wrap (b_ - m_)) == 1))] ?_
     refine Zc 80 ((IntKind.i64.wrap (b_ - m_)) == 1) c129_59 c129_107 (fun hb => ?_) (fun hb => ?_)
     · replace h := h.1 hb
       refine Zp c129_62 P2 [(0, sv_ data), (2, .int .i64 m_), (4, cmp), (14, .int .i64 a_)] ?_
       refine Zp c129_65 P2 [(0, sv_ data), (2, .int .i64 m_), (4, cmp), (14, .int .i64 a_), (15, .int .i64 m_)] ?_
       refine Zs c129_66 c129_87 ?_
       refine Zb 4 c129_67 ?_
       obtain ⟨I, μ, h0, hr⟩ := h
       refine wpE_loop (x := c129_68) (by kernel_rfl) (fun m l w => ∃ (i1 : Int) (j1 : Int), l = [(0, sv_ data), (2, Value.int .i64 m_), (4, cmp), (14, Value.int .i64 i1), (15, Value.int .i64 j1)] ∧ I i1 j1 w ∧ μ i1 j1 w = m) (l' := [(0, sv_ data), (2, Value.int .i64 m_), (4, cmp), (14, Value.int .i64 a_), (15, Value.int .i64 m_)]) (Sub.mk (by kernel_rfl)) ⟨a_, m_, rfl, h0, rfl⟩ ?_
       rintro _ _ w8 ⟨i1, j1, rfl, hI, rfl⟩
       obtain ⟨again_2, again_2_h, h⟩ : ∃ again_2 : Int → Int → World → Prop, (∀ i1' j1' w', again_2 i1' j1' w' → I i1' j1' w' ∧ μ i1' j1' w' < μ i1 j1 w8) ∧ F_slices_symMergeCmpFunc_api_Held_L2 data m_ cmp R again_2 i1 j1 w8 := ⟨_, fun _ _ _ h => h, hr i1 j1 w8 hI⟩
       clear h0 hI
       unfold F_slices_symMergeCmpFunc_api_Held_L2 at h
       refine Zs c129_69 c129_75 ?_
       refine Zp c129_72 P3 [(0, sv_ data), (2, .int .i64 m_), (4, cmp), (14, .int .i64 i1), (15, .int .i64 j1), (85, .bool (decide (i1 < j1)))] ?_
       refine Zc 85 (decide (i1 < j1)) c129_73 c129_74 (fun hb => ?_) (fun hb => ?_)
       · replace h := h.1 hb
         refine wpE_skip (by kernel_rfl) ?_
         change WpE _ _ c129_75 _ _ _
         refine Zb 5 c129_76 ?_
         refine Zp c129_79 (Pl 7) [(0, sv_ data), (2, .int .i64 m_), (4, cmp), (14, .int .i64 i1), (15, .int .i64 j1), (16, .int .i64 (IntKind.i64.wrap (Int.fdiv (IntKind.u64.wrap (IntKind.i64.wrap (i1 + j1))) (2 ^ 1))))] ?_
         refine Zs c129_80 c129_82 ?_
         refine wpE_tailregion (id := 17) (ops := r129_80) (by kernel_rfl) 9 (by kernel_rfl) (by kernel_rfl) (fun w9 hw => ?_)
         replace h := h w9 hw
         clear hw
         refine qreg_run P3 3 [(0, [], sv_ data), (2, [], Value.int .i64 m_), (4, [], cmp), (14, [], Value.int .i64 i1), (15, [], Value.int .i64 j1), (16, [], Value.int .i64 (IntKind.i64.wrap (Int.fdiv (IntKind.u64.wrap (IntKind.i64.wrap (i1 + j1))) (2 ^ 1)))), (92, [], cmp), (93, [], sv_ data), (94, [], Value.int .i64 m_)] (by kernel_rfl) (by kernel_rfl) ?_
         obtain ⟨hp_54, h⟩ := h
         refine qreg_conv [(0, [], sv_ data), (2, [], Value.int .i64 m_), (4, [], cmp), (14, [], Value.int .i64 i1), (15, [], Value.int .i64 j1), (16, [], Value.int .i64 (IntKind.i64.wrap (Int.fdiv (IntKind.u64.wrap (IntKind.i64.wrap (i1 + j1))) (2 ^ 1)))), (92, [], cmp), (93, [], Value.slice (some ⟨(pblk data.ptr), (poff data.ptr), none⟩) data.len data.cap), (94, [], Value.int .i64 m_)] (congrArg (fun pp => ([(0, [], sv_ data), (2, [], Value.int .i64 m_), (4, [], cmp), (14, [], Value.int .i64 i1), (15, [], Value.int .i64 j1), (16, [], Value.int .i64 (IntKind.i64.wrap (Int.fdiv (IntKind.u64.wrap (IntKind.i64.wrap (i1 + j1))) (2 ^ 1)))), (92, [], cmp), (93, [], Value.slice pp data.len data.cap), (94, [], Value.int .i64 m_)] : GEnv)) hp_54) ?_
         obtain ⟨h0, h1, h⟩ := h
         refine qreg_indexS (t := 93) (e := 143) (x := (Operand.tmp 93)) (ix := (Operand.tmp 94)) (b := (pblk data.ptr)) (o := (poff data.ptr)) (l := data.len) (c := data.cap) (k := .i64) (j := m_) (ty := 0) (dst := some 95) (sz := 2) (by kernel_rfl) (by kernel_rfl) (by kernel_rfl) (by kernel_rfl) (by kernel_rfl) h0 h1 ?_
         refine qreg_run [] 4 [(0, [], sv_ data), (2, [], Value.int .i64 m_), (4, [], cmp), (14, [], Value.int .i64 i1), (15, [], Value.int .i64 j1), (16, [], Value.int .i64 (IntKind.i64.wrap (Int.fdiv (IntKind.u64.wrap (IntKind.i64.wrap (i1 + j1))) (2 ^ 1)))), (92, [], cmp), (95, [], Value.pointer (some ⟨(pblk data.ptr), (poff data.ptr) + m_.toNat * 2, none⟩))] (by kernel_rfl) (by kernel_rfl) ?_
         obtain ⟨v96, hc, h⟩ := h
         refine qreg_loadN (t := 143) (a := (Operand.tmp 95)) (b := (pblk data.ptr)) (o := ((poff data.ptr) + m_.toNat * 2)) (ty := 143) (dst := some 96) [Value.string v96.Key, sv_ v96.Versions] (by kernel_rfl) (by kernel_rfl) (by kernel_rfl) (k := 2) (by kernel_rfl) (by kernel_rfl) hc ?_
         refine qreg_run P2 7 [(0, [], sv_ data), (2, [], Value.int .i64 m_), (4, [], cmp), (14, [], Value.int .i64 i1), (15, [], Value.int .i64 j1), (16, [], Value.int .i64 (IntKind.i64.wrap (Int.fdiv (IntKind.u64.wrap (IntKind.i64.wrap (i1 + j1))) (2 ^ 1)))), (92, [], cmp), (96, [], Value.agg #[Value.string v96.Key, sv_ v96.Versions]), (97, [], sv_ data), (98, [], Value.int .i64 (IntKind.i64.wrap (Int.fdiv (IntKind.u64.wrap (IntKind.i64.wrap (i1 + j1))) (2 ^ 1))))] (by kernel_rfl) (by kernel_rfl) ?_
         obtain ⟨hp_55, h⟩ := h
         refine qreg_conv [(0, [], sv_ data), (2, [], Value.int .i64 m_), (4, [], cmp), (14, [], Value.int .i64 i1), (15, [], Value.int .i64 j1), (16, [], Value.int .i64 (IntKind.i64.wrap (Int.fdiv (IntKind.u64.wrap (IntKind.i64.wrap (i1 + j1))) (2 ^ 1)))), (92, [], cmp), (96, [], Value.agg #[Value.string v96.Key, sv_ v96.Versions]), (97, [], Value.slice (some ⟨(pblk data.ptr), (poff data.ptr), none⟩) data.len data.cap), (98, [], Value.int .i64 (IntKind.i64.wrap (Int.fdiv (IntKind.u64.wrap (IntKind.i64.wrap (i1 + j1))) (2 ^ 1))))] (congrArg (fun pp => ([(0, [], sv_ data), (2, [], Value.int .i64 m_), (4, [], cmp), (14, [], Value.int .i64 i1), (15, [], Value.int .i64 j1), (16, [], Value.int .i64 (IntKind.i64.wrap (Int.fdiv (IntKind.u64.wrap (IntKind.i64.wrap (i1 + j1))) (2 ^ 1)))), (92, [], cmp), (96, [], Value.agg #[Value.string v96.Key, sv_ v96.Versions]), (97, [], Value.slice pp data.len data.cap), (98, [], Value.int .i64 (IntKind.i64.wrap (Int.fdiv (IntKind.u64.wrap (IntKind.i64.wrap (i1 + j1))) (2 ^ 1))))] : GEnv)) hp_55) ?_
         obtain ⟨h0, h1, h⟩ := h
         refine qreg_indexS (t := 93) (e := 143) (x := (Operand.tmp 97)) (ix := (Operand.tmp 98)) (b := (pblk data.ptr)) (o := (poff data.ptr)) (l := data.len) (c := data.cap) (k := .i64) (j := (IntKind.i64.wrap (Int.fdiv (IntKind.u64.wrap (IntKind.i64.wrap (i1 + j1))) (2 ^ 1)))) (ty := 0) (dst := some 99) (sz := 2) (by kernel_rfl) (by kernel_rfl) (by kernel_rfl) (by kernel_rfl) (by kernel_rfl) h0 h1 ?_
         refine qreg_run [] 8 [(0, [], sv_ data), (2, [], Value.int .i64 m_), (4, [], cmp), (14, [], Value.int .i64 i1), (15, [], Value.int .i64 j1), (16, [], Value.int .i64 (IntKind.i64.wrap (Int.fdiv (IntKind.u64.wrap (IntKind.i64.wrap (i1 + j1))) (2 ^ 1)))), (92, [], cmp), (96, [], Value.agg #[Value.string v96.Key, sv_ v96.Versions]), (99, [], Value.pointer (some ⟨(pblk data.ptr), (poff data.ptr) + (IntKind.i64.wrap (Int.fdiv (IntKind.u64.wrap (IntKind.i64.wrap (i1 + j1))) (2 ^ 1))).toNat * 2, none⟩))] (by kernel_rfl) (by kernel_rfl) ?_
         obtain ⟨v100, hc, h⟩ := h
         refine qreg_loadN (t := 143) (a := (Operand.tmp 99)) (b := (pblk data.ptr)) (o := ((poff data.ptr) + (IntKind.i64.wrap (Int.fdiv (IntKind.u64.wrap (IntKind.i64.wrap (i1 + j1))) (2 ^ 1))).toNat * 2)) (ty := 143) (dst := some 100) [Value.string v100.Key, sv_ v100.Versions] (by kernel_rfl) (by kernel_rfl) (by kernel_rfl) (k := 2) (by kernel_rfl) (by kernel_rfl) hc ?_
         refine qreg_run [] 9 [(0, [], sv_ data), (2, [], Value.int .i64 m_), (4, [], cmp), (14, [], Value.int .i64 i1), (15, [], Value.int .i64 j1), (16, [], Value.int .i64 (IntKind.i64.wrap (Int.fdiv (IntKind.u64.wrap (IntKind.i64.wrap (i1 + j1))) (2 ^ 1)))), (92, [], cmp), (96, [], Value.agg #[Value.string v96.Key, sv_ v96.Versions]), (100, [], Value.agg #[Value.string v100.Key, sv_ v100.Versions])] (by kernel_rfl) (by kernel_rfl) ?_
         refine qreg_tail (by kernel_rfl) ?_
         refine Zn [] 9 [(0, [], sv_ data), (2, [], .int .i64 m_), (4, [], cmp), (14, [], .int .i64 i1), (15, [], .int .i64 j1), (16, [], .int .i64 (IntKind.i64.wrap (Int.fdiv (IntKind.u64.wrap (IntKind.i64.wrap (i1 + j1))) (2 ^ 1)))), (92, [], cmp), (96, [], .agg #[.string v96.Key, sv_ v96.Versions]), (100, [], .agg #[.string v100.Key, sv_ v100.Versions])] ?_
         refine reg_enterV (fo := (Operand.tmp 92)) (aa := #[(Operand.tmp 96), (Operand.tmp 100)]) (ts := #[143, 143]) (fv := cmp) (ty := 3) (dst := some 101) #[Value.agg #[Value.string v96.Key, sv_ v96.Versions], Value.agg #[Value.string v100.Key, sv_ v100.Versions]] (by kernel_rfl) (by kernel_rfl) (by kernel_rfl) (CallsV.mono h ?_)
         rintro _ w10 ⟨v101, rfl, h⟩
         refine ⟨_, rfl, ?_⟩
         refine Zf P2 [(0, sv_ data), (2, .int .i64 m_), (4, cmp), (14, .int .i64 i1), (15, .int .i64 j1), (16, .int .i64 (IntKind.i64.wrap (Int.fdiv (IntKind.u64.wrap (IntKind.i64.wrap (i1 + j1))) (2 ^ 1)))), (103, .bool (!(decide (v101 < 0))))] ?_
         change WpE _ _ c129_82 _ _ _
         refine Zc 103 (!(decide (v101 < 0))) c129_83 c129_85 (fun hb => ?_) (fun hb => ?_)
         · replace h := h.1 hb
           refine Zr r129_83 ?_
           refine Zf P3 [(0, sv_ data), (2, .int .i64 m_), (4, cmp), (14, .int .i64 (IntKind.i64.wrap ((IntKind.i64.wrap (Int.fdiv (IntKind.u64.wrap (IntKind.i64.wrap (i1 + j1))) (2 ^ 1))) + 1))), (15, .int .i64 j1)] ?_
           have hb_ := again_2_h _ _ _ h
           exact ⟨_, hb_.2, [(0, sv_ data), (2, Value.int .i64 m_), (4, cmp), (14, Value.int .i64 (IntKind.i64.wrap ((IntKind.i64.wrap (Int.fdiv (IntKind.u64.wrap (IntKind.i64.wrap (i1 + j1))) (2 ^ 1))) + 1))), (15, Value.int .i64 j1)], Sub.mk (by kernel_rfl), (IntKind.i64.wrap ((IntKind.i64.wrap (Int.fdiv (IntKind.u64.wrap (IntKind.i64.wrap (i1 + j1))) (2 ^ 1))) + 1)), j1, rfl, hb_.1, rfl⟩
         · replace h := h.2 hb
           refine Zr r129_85 ?_
           refine Zf P2 [(0, sv_ data), (2, .int .i64 m_), (4, cmp), (14, .int .i64 i1), (15, .int .i64 (IntKind.i64.wrap (Int.fdiv (IntKind.u64.wrap (IntKind.i64.wrap (i1 + j1))) (2 ^ 1))))] ?_
           have hb_ := again_2_h _ _ _ h
           exact ⟨_, hb_.2, [(0, sv_ data), (2, Value.int .i64 m_), (4, cmp), (14, Value.int .i64 i1), (15, Value.int .i64 (IntKind.i64.wrap (Int.fdiv (IntKind.u64.wrap (IntKind.i64.wrap (i1 + j1))) (2 ^ 1))))], Sub.mk (by kernel_rfl), i1, (IntKind.i64.wrap (Int.fdiv (IntKind.u64.wrap (IntKind.i64.wrap (i1 + j1))) (2 ^ 1))), rfl, hb_.1, rfl⟩
       · replace h := h.2 hb
         refine wpE_exit (id := 4) (by kernel_rfl) ?_
         change WpE _ _ c129_87 _ _ _
         refine Zs c129_88 c129_106 ?_
         refine Zp c129_91 P2 [(0, sv_ data), (14, .int .i64 i1), (17, .int .i64 m_)] ?_
         refine Zb 6 c129_92 ?_
         obtain ⟨I, μ, h0, hr⟩ := h
         refine wpE_loop (x := c129_93) (by kernel_rfl) (fun m l w => ∃ (k_1 : Int), l = [(0, sv_ data), (14, Value.int .i64 i1), (17, Value.int .i64 k_1)] ∧ I k_1 w ∧ μ k_1 w = m) (l' := [(0, sv_ data), (14, Value.int .i64 i1), (17, Value.int .i64 m_)]) (Sub.mk (by kernel_rfl)) ⟨m_, rfl, h0, rfl⟩ ?_
         rintro _ _ w11 ⟨k_1, rfl, hI, rfl⟩
         obtain ⟨again_3, again_3_h, h⟩ : ∃ again_3 : Int → World → Prop, (∀ k_1' w', again_3 k_1' w' → I k_1' w' ∧ μ k_1' w' < μ k_1 w11) ∧ F_slices_symMergeCmpFunc_api_Held_L3 data R i1 again_3 k_1 w11 := ⟨_, fun _ _ h => h, hr k_1 w11 hI⟩
         clear h0 hI
         unfold F_slices_symMergeCmpFunc_api_Held_L3 at h
         refine Zs c129_94 c129_100 ?_
         refine Zp c129_97 P3 [(0, sv_ data), (14, .int .i64 i1), (17, .int .i64 k_1), (110, .bool (decide (k_1 > i1)))] ?_
         refine Zc 110 (decide (k_1 > i1)) c129_98 c129_99 (fun hb => ?_) (fun hb => ?_)
         · replace h := h.1 hb
           refine wpE_skip (by kernel_rfl) ?_
           change WpE _ _ c129_100 _ _ _
           refine Zs c129_101 c129_104 ?_
           refine Zb 7 c129_102 ?_
           refine wpE_mixregion (id := 23) (ops := r129_102) o_slices_symMergeCmpFunc_api_Held_102 (by kernel_rfl) (by kernel_rfl) (by kernel_rfl) (by kernel_rfl) (fun w12 hw => ?_)
           replace h := h w12 hw
           clear hw
           refine mreg_run [.plain, .plain, .plain, .plain, .plain, .plain, .plain, .plain] 8 [(0, [], sv_ data), (14, [], Value.int .i64 i1), (17, [], Value.int .i64 k_1), (113, [], sv_ data), (114, [], Value.int .i64 k_1), (115, [], sv_ data), (117, [], Value.int .i64 (IntKind.i64.wrap (k_1 - 1))), (118, [], sv_ data), (120, [], Value.int .i64 (IntKind.i64.wrap (k_1 - 1)))] (by kernel_rfl) (by kernel_rfl) ?_
           obtain ⟨hp_60, h⟩ := h
           refine mreg_conv [(0, [], sv_ data), (14, [], Value.int .i64 i1), (17, [], Value.int .i64 k_1), (113, [], sv_ data), (114, [], Value.int .i64 k_1), (115, [], sv_ data), (117, [], Value.int .i64 (IntKind.i64.wrap (k_1 - 1))), (118, [], Value.slice (some ⟨(pblk data.ptr), (poff data.ptr), none⟩) data.len data.cap), (120, [], Value.int .i64 (IntKind.i64.wrap (k_1 - 1)))] (congrArg (fun pp => ([(0, [], sv_ data), (14, [], Value.int .i64 i1), (17, [], Value.int .i64 k_1), (113, [], sv_ data), (114, [], Value.int .i64 k_1), (115, [], sv_ data), (117, [], Value.int .i64 (IntKind.i64.wrap (k_1 - 1))), (118, [], Value.slice pp data.len data.cap), (120, [], Value.int .i64 (IntKind.i64.wrap (k_1 - 1)))] : GEnv)) hp_60) ?_
           obtain ⟨h0, h1, h⟩ := h
           refine mreg_indexS (i := 8) (by kernel_rfl) (t := 93) (e := 143) (x := (Operand.tmp 118)) (ix := (Operand.tmp 120)) (b := (pblk data.ptr)) (o := (poff data.ptr)) (l := data.len) (c := data.cap) (k := .i64) (j := (IntKind.i64.wrap (k_1 - 1))) (ty := 0) (dst := some 121) (sz := 2) (by kernel_rfl) (by kernel_rfl) (by kernel_rfl) (by kernel_rfl) (by kernel_rfl) h0 h1 ?_
           refine mreg_run [] 9 [(0, [], sv_ data), (14, [], Value.int .i64 i1), (17, [], Value.int .i64 k_1), (113, [], sv_ data), (114, [], Value.int .i64 k_1), (115, [], sv_ data), (117, [], Value.int .i64 (IntKind.i64.wrap (k_1 - 1))), (121, [], Value.pointer (some ⟨(pblk data.ptr), (poff data.ptr) + (IntKind.i64.wrap (k_1 - 1)).toNat * 2, none⟩))] (by kernel_rfl) (by kernel_rfl) ?_
           obtain ⟨v122, hc, h⟩ := h
           refine mreg_loadN (i := 9) (by kernel_rfl) (t := 143) (a := (Operand.tmp 121)) (b := (pblk data.ptr)) (o := ((poff data.ptr) + (IntKind.i64.wrap (k_1 - 1)).toNat * 2)) (ty := 143) (dst := some 122) [Value.string v122.Key, sv_ v122.Versions] (by kernel_rfl) (by kernel_rfl) (by kernel_rfl) (k := 2) (by kernel_rfl) (by kernel_rfl) hc ?_
           refine mreg_run P2 12 [(0, [], sv_ data), (14, [], Value.int .i64 i1), (17, [], Value.int .i64 k_1), (113, [], sv_ data), (114, [], Value.int .i64 k_1), (115, [], sv_ data), (117, [], Value.int .i64 (IntKind.i64.wrap (k_1 - 1))), (122, [], Value.agg #[Value.string v122.Key, sv_ v122.Versions]), (123, [], sv_ data), (124, [], Value.int .i64 k_1)] (by kernel_rfl) (by kernel_rfl) ?_
           obtain ⟨hp_61, h⟩ := h
           refine mreg_conv [(0, [], sv_ data), (14, [], Value.int .i64 i1), (17, [], Value.int .i64 k_1), (113, [], sv_ data), (114, [], Value.int .i64 k_1), (115, [], sv_ data), (117, [], Value.int .i64 (IntKind.i64.wrap (k_1 - 1))), (122, [], Value.agg #[Value.string v122.Key, sv_ v122.Versions]), (123, [], Value.slice (some ⟨(pblk data.ptr), (poff data.ptr), none⟩) data.len data.cap), (124, [], Value.int .i64 k_1)] (congrArg (fun pp => ([(0, [], sv_ data), (14, [], Value.int .i64 i1), (17, [], Value.int .i64 k_1), (113, [], sv_ data), (114, [], Value.int .i64 k_1), (115, [], sv_ data), (117, [], Value.int .i64 (IntKind.i64.wrap (k_1 - 1))), (122, [], Value.agg #[Value.string v122.Key, sv_ v122.Versions]), (123, [], Value.slice pp data.len data.cap), (124, [], Value.int .i64 k_1)] : GEnv)) hp_61) ?_
           obtain ⟨h0, h1, h⟩ := h
           refine mreg_indexS (i := 12) (by kernel_rfl) (t := 93) (e := 143) (x := (Operand.tmp 123)) (ix := (Operand.tmp 124)) (b := (pblk data.ptr)) (o := (poff data.ptr)) (l := data.len) (c := data.cap) (k := .i64) (j := k_1) (ty := 0) (dst := some 125) (sz := 2) (by kernel_rfl) (by kernel_rfl) (by kernel_rfl) (by kernel_rfl) (by kernel_rfl) h0 h1 ?_
           refine mreg_run [] 13 [(0, [], sv_ data), (14, [], Value.int .i64 i1), (17, [], Value.int .i64 k_1), (113, [], sv_ data), (114, [], Value.int .i64 k_1), (115, [], sv_ data), (117, [], Value.int .i64 (IntKind.i64.wrap (k_1 - 1))), (122, [], Value.agg #[Value.string v122.Key, sv_ v122.Versions]), (125, [], Value.pointer (some ⟨(pblk data.ptr), (poff data.ptr) + k_1.toNat * 2, none⟩))] (by kernel_rfl) (by kernel_rfl) ?_
           obtain ⟨v126, hc, h⟩ := h
           refine mreg_loadN (i := 13) (by kernel_rfl) (t := 143) (a := (Operand.tmp 125)) (b := (pblk data.ptr)) (o := ((poff data.ptr) + k_1.toNat * 2)) (ty := 143) (dst := some 126) [Value.string v126.Key, sv_ v126.Versions] (by kernel_rfl) (by kernel_rfl) (by kernel_rfl) (k := 2) (by kernel_rfl) (by kernel_rfl) hc ?_
           refine mreg_run [] 14 [(0, [], sv_ data), (14, [], Value.int .i64 i1), (17, [], Value.int .i64 k_1), (113, [], sv_ data), (114, [], Value.int .i64 k_1), (115, [], sv_ data), (117, [], Value.int .i64 (IntKind.i64.wrap (k_1 - 1))), (122, [], Value.agg #[Value.string v122.Key, sv_ v122.Versions]), (126, [], Value.agg #[Value.string v126.Key, sv_ v126.Versions])] (by kernel_rfl) (by kernel_rfl) ?_
           obtain ⟨hp_62, h⟩ := h
           refine mreg_conv [(0, [], sv_ data), (14, [], Value.int .i64 i1), (17, [], Value.int .i64 k_1), (113, [], Value.slice (some ⟨(pblk data.ptr), (poff data.ptr), none⟩) data.len data.cap), (114, [], Value.int .i64 k_1), (115, [], sv_ data), (117, [], Value.int .i64 (IntKind.i64.wrap (k_1 - 1))), (122, [], Value.agg #[Value.string v122.Key, sv_ v122.Versions]), (126, [], Value.agg #[Value.string v126.Key, sv_ v126.Versions])] (congrArg (fun pp => ([(0, [], sv_ data), (14, [], Value.int .i64 i1), (17, [], Value.int .i64 k_1), (113, [], Value.slice pp data.len data.cap), (114, [], Value.int .i64 k_1), (115, [], sv_ data), (117, [], Value.int .i64 (IntKind.i64.wrap (k_1 - 1))), (122, [], Value.agg #[Value.string v122.Key, sv_ v122.Versions]), (126, [], Value.agg #[Value.string v126.Key, sv_ v126.Versions])] : GEnv)) hp_62) ?_
           obtain ⟨h0, h1, h⟩ := h
           refine mreg_indexS (i := 14) (by kernel_rfl) (t := 93) (e := 143) (x := (Operand.tmp 113)) (ix := (Operand.tmp 114)) (b := (pblk data.ptr)) (o := (poff data.ptr)) (l := data.len) (c := data.cap) (k := .i64) (j := k_1) (ty := 0) (dst := some 127) (sz := 2) (by kernel_rfl) (by kernel_rfl) (by kernel_rfl) (by kernel_rfl) (by kernel_rfl) h0 h1 ?_
           refine mreg_run [] 15 [(0, [], sv_ data), (14, [], Value.int .i64 i1), (17, [], Value.int .i64 k_1), (115, [], sv_ data), (117, [], Value.int .i64 (IntKind.i64.wrap (k_1 - 1))), (122, [], Value.agg #[Value.string v122.Key, sv_ v122.Versions]), (126, [], Value.agg #[Value.string v126.Key, sv_ v126.Versions]), (127, [], Value.pointer (some ⟨(pblk data.ptr), (poff data.ptr) + k_1.toNat * 2, none⟩))] (by kernel_rfl) (by kernel_rfl) ?_
           obtain ⟨hc, h⟩ := h
           refine mreg_store (t := 143) (a := (Operand.tmp 127)) (x := (Operand.tmp 122)) (b := (pblk data.ptr)) (o := ((poff data.ptr) + k_1.toNat * 2)) (k := 2) (ty := 0) (dst := none) 15 [0, 1, 5, 6, 7, 8, 9, 13, 14, 12, 10, 11] [] [Value.string v122.Key, sv_ v122.Versions] (by kernel_rfl) (by kernel_rfl) (by kernel_rfl) (by kernel_rfl) (by kernel_rfl) (by kernel_rfl) (by kernel_rfl) (by kernel_rfl) (by kernel_rfl) (by kernel_rfl) hc (fun w13 hw => ?_)
           replace h := h w13 hw
           clear hw
           refine ⟨trivial, ?_⟩
           refine mreg_run [] 16 [(0, [], sv_ data), (14, [], Value.int .i64 i1), (17, [], Value.int .i64 k_1), (115, [], sv_ data), (117, [], Value.int .i64 (IntKind.i64.wrap (k_1 - 1))), (126, [], Value.agg #[Value.string v126.Key, sv_ v126.Versions])] (by kernel_rfl) (by kernel_rfl) ?_
           obtain ⟨hp_63, h⟩ := h
           refine mreg_conv [(0, [], sv_ data), (14, [], Value.int .i64 i1), (17, [], Value.int .i64 k_1), (115, [], Value.slice (some ⟨(pblk data.ptr), (poff data.ptr), none⟩) data.len data.cap), (117, [], Value.int .i64 (IntKind.i64.wrap (k_1 - 1))), (126, [], Value.agg #[Value.string v126.Key, sv_ v126.Versions])] (congrArg (fun pp => ([(0, [], sv_ data), (14, [], Value.int .i64 i1), (17, [], Value.int .i64 k_1), (115, [], Value.slice pp data.len data.cap), (117, [], Value.int .i64 (IntKind.i64.wrap (k_1 - 1))), (126, [], Value.agg #[Value.string v126.Key, sv_ v126.Versions])] : GEnv)) hp_63) ?_
           obtain ⟨h0, h1, h⟩ := h
           refine mreg_indexS (i := 16) (by kernel_rfl) (t := 93) (e := 143) (x := (Operand.tmp 115)) (ix := (Operand.tmp 117)) (b := (pblk data.ptr)) (o := (poff data.ptr)) (l := data.len) (c := data.cap) (k := .i64) (j := (IntKind.i64.wrap (k_1 - 1))) (ty := 0) (dst := some 128) (sz := 2) (by kernel_rfl) (by kernel_rfl) (by kernel_rfl) (by kernel_rfl) (by kernel_rfl) h0 h1 ?_
           refine mreg_run [] 17 [(0, [], sv_ data), (14, [], Value.int .i64 i1), (17, [], Value.int .i64 k_1), (126, [], Value.agg #[Value.string v126.Key, sv_ v126.Versions]), (128, [], Value.pointer (some ⟨(pblk data.ptr), (poff data.ptr) + (IntKind.i64.wrap (k_1 - 1)).toNat * 2, none⟩))] (by kernel_rfl) (by kernel_rfl) ?_
           obtain ⟨hc, h⟩ := h
           refine mreg_store (t := 143) (a := (Operand.tmp 128)) (x := (Operand.tmp 126)) (b := (pblk data.ptr)) (o := ((poff data.ptr) + (IntKind.i64.wrap (k_1 - 1)).toNat * 2)) (k := 2) (ty := 0) (dst := none) 17 [0, 1, 2, 3, 4, 5, 6, 7, 8, 9, 10, 11, 12, 13, 14, 15, 16] [] [Value.string v126.Key, sv_ v126.Versions] (by kernel_rfl) (by kernel_rfl) (by kernel_rfl) (by kernel_rfl) (by kernel_rfl) (by kernel_rfl) (by kernel_rfl) (by kernel_rfl) (by kernel_rfl) (by kernel_rfl) hc (fun w14 hw => ?_)
           replace h := h w14 hw
           clear hw
           refine ⟨trivial, ?_⟩
           refine mreg_end [(0, sv_ data), (14, Value.int .i64 i1), (17, Value.int .i64 k_1)] (by kernel_rfl) (by kernel_rfl) (by kernel_rfl) ?_
           change WpE _ _ c129_104 _ _ _
           refine Zr r129_104 ?_
           refine Zf P3 [(0, sv_ data), (14, .int .i64 i1), (17, .int .i64 (IntKind.i64.wrap (k_1 - 1)))] ?_
           have hb_ := again_3_h _ _ h
           exact ⟨_, hb_.2, [(0, sv_ data), (14, Value.int .i64 i1), (17, Value.int .i64 (IntKind.i64.wrap (k_1 - 1)))], Sub.mk (by kernel_rfl), (IntKind.i64.wrap (k_1 - 1)), rfl, hb_.1, rfl⟩
         · replace h := h.2 hb
           refine wpE_exit (id := 6) (by kernel_rfl) ?_
           change WpE _ _ c129_106 _ _ _
           refine wpE_ret (by kernel_rfl) ?_
           repeat (first | refine seqQ_ret ?_ | refine blockQ_ret ?_ | refine loopQ_ret ?_ | refine cutQ_ret ?_)
           exact retT (rs := []) (vs := []) (by kernel_rfl) (trivial) (by kernel_rfl) ⟨rfl, h⟩
     · replace h := h.2 hb
       refine wpE_skip (by kernel_rfl) ?_
       change WpE _ _ c129_108 _ _ _
       refine Zp c129_111 (Pl 7) [(0, sv_ data), (1, .int .i64 a_), (2, .int .i64 m_), (3, .int .i64 b_), (4, cmp), (18, .int .i64 (IntKind.i64.wrap (Int.fdiv (IntKind.u64.wrap (IntKind.i64.wrap (a_ + b_))) (2 ^ 1))))] ?_
       refine Zp c129_114 P4 [(0, sv_ data), (1, .int .i64 a_), (2, .int .i64 m_), (3, .int .i64 b_), (4, cmp), (18, .int .i64 (IntKind.i64.wrap (Int.fdiv (IntKind.u64.wrap (IntKind.i64.wrap (a_ + b_))) (2 ^ 1)))), (19, .int .i64 (IntKind.i64.wrap ((IntKind.i64.wrap (Int.fdiv (IntKind.u64.wrap (IntKind.i64.wrap (a_ + b_))) (2 ^ 1))) + m_)))] ?_
       refine Zp c129_117 P2 [(0, sv_ data), (1, .int .i64 a_), (2, .int .i64 m_), (3, .int .i64 b_), (4, cmp), (18, .int .i64 (IntKind.i64.wrap (Int.fdiv (IntKind.u64.wrap (IntKind.i64.wrap (a_ + b_))) (2 ^ 1)))), (19, .int .i64 (IntKind.i64.wrap ((IntKind.i64.wrap (Int.fdiv (IntKind.u64.wrap (IntKind.i64.wrap (a_ + b_))) (2 ^ 1))) + m_)))] ?_
       refine wpE_seq_cut (x := c129_118) (y := c129_132) (by kernel_rfl) (fun l w => ∃ (start : Int) (r : Int), l = [(0, sv_ data), (1, Value.int .i64 a_), (2, Value.int .i64 m_), (3, Value.int .i64 b_), (4, cmp), (18, Value.int .i64 (IntKind.i64.wrap (Int.fdiv (IntKind.u64.wrap (IntKind.i64.wrap (a_ + b_))) (2 ^ 1)))), (19, Value.int .i64 (IntKind.i64.wrap ((IntKind.i64.wrap (Int.fdiv (IntKind.u64.wrap (IntKind.i64.wrap (a_ + b_))) (2 ^ 1))) + m_))), (20, Value.int .i64 start), (21, Value.int .i64 r)] ∧ F_slices_symMergeCmpFunc_api_Held_k4 data a_ m_ b_ cmp R start r w) ?_ ?_
       · refine Zp c129_121 P3 [(0, sv_ data), (1, .int .i64 a_), (2, .int .i64 m_), (3, .int .i64 b_), (4, cmp), (18, .int .i64 (IntKind.i64.wrap (Int.fdiv (IntKind.u64.wrap (IntKind.i64.wrap (a_ + b_))) (2 ^ 1)))), (19, .int .i64 (IntKind.i64.wrap ((IntKind.i64.wrap (Int.fdiv (IntKind.u64.wrap (IntKind.i64.wrap (a_ + b_))) (2 ^ 1))) + m_))), (140, .bool (decide (m_ > (IntKind.i64.wrap (Int.fdiv (IntKind.u64.wrap (IntKind.i64.wrap (a_ + b_))) (2 ^ 1))))))] ?_
         refine Zc 140 (decide (m_ > (IntKind.i64.wrap (Int.fdiv (IntKind.u64.wrap (IntKind.i64.wrap (a_ + b_))) (2 ^ 1))))) c129_122 c129_127 (fun hb => ?_) (fun hb => ?_)
         · replace h := h.1 hb
           refine Zp c129_125 P4 [(0, sv_ data), (1, .int .i64 a_), (2, .int .i64 m_), (3, .int .i64 b_), (4, cmp), (18, .int .i64 (IntKind.i64.wrap (Int.fdiv (IntKind.u64.wrap (IntKind.i64.wrap (a_ + b_))) (2 ^ 1)))), (19, .int .i64 (IntKind.i64.wrap ((IntKind.i64.wrap (Int.fdiv (IntKind.u64.wrap (IntKind.i64.wrap (a_ + b_))) (2 ^ 1))) + m_))), (20, .int .i64 (IntKind.i64.wrap ((IntKind.i64.wrap ((IntKind.i64.wrap (Int.fdiv (IntKind.u64.wrap (IntKind.i64.wrap (a_ + b_))) (2 ^ 1))) + m_)) - b_)))] ?_
           refine Zr r129_125 ?_
           refine Zf P2 [(0, sv_ data), (1, .int .i64 a_), (2, .int .i64 m_), (3, .int .i64 b_), (4, cmp), (18, .int .i64 (IntKind.i64.wrap (Int.fdiv (IntKind.u64.wrap (IntKind.i64.wrap (a_ + b_))) (2 ^ 1)))), (19, .int .i64 (IntKind.i64.wrap ((IntKind.i64.wrap (Int.fdiv (IntKind.u64.wrap (IntKind.i64.wrap (a_ + b_))) (2 ^ 1))) + m_))), (20, .int .i64 (IntKind.i64.wrap ((IntKind.i64.wrap ((IntKind.i64.wrap (Int.fdiv (IntKind.u64.wrap (IntKind.i64.wrap (a_ + b_))) (2 ^ 1))) + m_)) - b_))), (21, .int .i64 (IntKind.i64.wrap (Int.fdiv (IntKind.u64.wrap (IntKind.i64.wrap (a_ + b_))) (2 ^ 1))))] ?_
           exact ⟨[(0, sv_ data), (1, Value.int .i64 a_), (2, Value.int .i64 m_), (3, Value.int .i64 b_), (4, cmp), (18, Value.int .i64 (IntKind.i64.wrap (Int.fdiv (IntKind.u64.wrap (IntKind.i64.wrap (a_ + b_))) (2 ^ 1)))), (19, Value.int .i64 (IntKind.i64.wrap ((IntKind.i64.wrap (Int.fdiv (IntKind.u64.wrap (IntKind.i64.wrap (a_ + b_))) (2 ^ 1))) + m_))), (20, Value.int .i64 (IntKind.i64.wrap ((IntKind.i64.wrap ((IntKind.i64.wrap (Int.fdiv (IntKind.u64.wrap (IntKind.i64.wrap (a_ + b_))) (2 ^ 1))) + m_)) - b_))), (21, Value.int .i64 (IntKind.i64.wrap (Int.fdiv (IntKind.u64.wrap (IntKind.i64.wrap (a_ + b_))) (2 ^ 1))))], Sub.mk (by kernel_rfl), (IntKind.i64.wrap ((IntKind.i64.wrap ((IntKind.i64.wrap (Int.fdiv (IntKind.u64.wrap (IntKind.i64.wrap (a_ + b_))) (2 ^ 1))) + m_)) - b_)), (IntKind.i64.wrap (Int.fdiv (IntKind.u64.wrap (IntKind.i64.wrap (a_ + b_))) (2 ^ 1))), rfl, h⟩
         · replace h := h.2 hb
           refine Zp c129_130 P2 [(0, sv_ data), (1, .int .i64 a_), (2, .int .i64 m_), (3, .int .i64 b_), (4, cmp), (18, .int .i64 (IntKind.i64.wrap (Int.fdiv (IntKind.u64.wrap (IntKind.i64.wrap (a_ + b_))) (2 ^ 1)))), (19, .int .i64 (IntKind.i64.wrap ((IntKind.i64.wrap (Int.fdiv (IntKind.u64.wrap (IntKind.i64.wrap (a_ + b_))) (2 ^ 1))) + m_))), (20, .int .i64 a_)] ?_
           refine Zr r129_130 ?_
           refine Zf P2 [(0, sv_ data), (1, .int .i64 a_), (2, .int .i64 m_), (3, .int .i64 b_), (4, cmp), (18, .int .i64 (IntKind.i64.wrap (Int.fdiv (IntKind.u64.wrap (IntKind.i64.wrap (a_ + b_))) (2 ^ 1)))), (19, .int .i64 (IntKind.i64.wrap ((IntKind.i64.wrap (Int.fdiv (IntKind.u64.wrap (IntKind.i64.wrap (a_ + b_))) (2 ^ 1))) + m_))), (20, .int .i64 a_), (21, .int .i64 m_)] ?_
           exact ⟨[(0, sv_ data), (1, Value.int .i64 a_), (2, Value.int .i64 m_), (3, Value.int .i64 b_), (4, cmp), (18, Value.int .i64 (IntKind.i64.wrap (Int.fdiv (IntKind.u64.wrap (IntKind.i64.wrap (a_ + b_))) (2 ^ 1)))), (19, Value.int .i64 (IntKind.i64.wrap ((IntKind.i64.wrap (Int.fdiv (IntKind.u64.wrap (IntKind.i64.wrap (a_ + b_))) (2 ^ 1))) + m_))), (20, Value.int .i64 a_), (21, Value.int .i64 m_)], Sub.mk (by kernel_rfl), a_, m_, rfl, h⟩
       · rintro _ w15 ⟨start, r, rfl, h⟩
         unfold F_slices_symMergeCmpFunc_api_Held_k4 at h
         refine Zp c129_135 P3 [(0, sv_ data), (1, .int .i64 a_), (2, .int .i64 m_), (3, .int .i64 b_), (4, cmp), (18, .int .i64 (IntKind.i64.wrap (Int.fdiv (IntKind.u64.wrap (IntKind.i64.wrap (a_ + b_))) (2 ^ 1)))), (19, .int .i64 (IntKind.i64.wrap ((IntKind.i64.wrap (Int.fdiv (IntKind.u64.wrap (IntKind.i64.wrap (a_ + b_))) (2 ^ 1))) + m_))), (20, .int .i64 start), (21, .int .i64 r), (22, .int .i64 (IntKind.i64.wrap ((IntKind.i64.wrap ((IntKind.i64.wrap (Int.fdiv (IntKind.u64.wrap (IntKind.i64.wrap (a_ + b_))) (2 ^ 1))) + m_)) - 1)))] ?_
         refine Zs c129_136 c129_157 ?_
         refine Zb 8 c129_137 ?_
         obtain ⟨I, μ, h0, hr⟩ := h
         refine wpE_loop (x := c129_138) (by kernel_rfl) (fun m l w => ∃ (start1 : Int) (r1 : Int), l = [(0, sv_ data), (1, Value.int .i64 a_), (2, Value.int .i64 m_), (3, Value.int .i64 b_), (4, cmp), (18, Value.int .i64 (IntKind.i64.wrap (Int.fdiv (IntKind.u64.wrap (IntKind.i64.wrap (a_ + b_))) (2 ^ 1)))), (19, Value.int .i64 (IntKind.i64.wrap ((IntKind.i64.wrap (Int.fdiv (IntKind.u64.wrap (IntKind.i64.wrap (a_ + b_))) (2 ^ 1))) + m_))), (20, Value.int .i64 start1), (21, Value.int .i64 r1), (22, Value.int .i64 (IntKind.i64.wrap ((IntKind.i64.wrap ((IntKind.i64.wrap (Int.fdiv (IntKind.u64.wrap (IntKind.i64.wrap (a_ + b_))) (2 ^ 1))) + m_)) - 1)))] ∧ I start1 r1 w ∧ μ start1 r1 w = m) (l' := [(0, sv_ data), (1, Value.int .i64 a_), (2, Value.int .i64 m_), (3, Value.int .i64 b_), (4, cmp), (18, Value.int .i64 (IntKind.i64.wrap (Int.fdiv (IntKind.u64.wrap (IntKind.i64.wrap (a_ + b_))) (2 ^ 1)))), (19, Value.int .i64 (IntKind.i64.wrap ((IntKind.i64.wrap (Int.fdiv (IntKind.u64.wrap (IntKind.i64.wrap (a_ + b_))) (2 ^ 1))) + m_))), (20, Value.int .i64 start), (21, Value.int .i64 r), (22, Value.int .i64 (IntKind.i64.wrap ((IntKind.i64.wrap ((IntKind.i64.wrap (Int.fdiv (IntKind.u64.wrap (IntKind.i64.wrap (a_ + b_))) (2 ^ 1))) + m_)) - 1)))]) (Sub.mk (by kernel_rfl)) ⟨start, r, rfl, h0, rfl⟩ ?_
         rintro _ _ w16 ⟨start1, r1, rfl, hI, rfl⟩
         obtain ⟨again_4, again_4_h, h⟩ : ∃ again_4 : Int → Int → World → Prop, (∀ start1' r1' w', again_4 start1' r1' w' → I start1' r1' w' ∧ μ start1' r1' w' < μ start1 r1 w16) ∧ F_slices_symMergeCmpFunc_api_Held_L5 data a_ m_ b_ cmp R again_4 start1 r1 w16 := ⟨_, fun _ _ _ h => h, hr start1 r1 w16 hI⟩
         clear h0 hI
         unfold F_slices_symMergeCmpFunc_api_Held_L5 at h
         refine Zs c129_139 c129_145 ?_
         refine Zp c129_142 P3 [(0, sv_ data), (1, .int .i64 a_), (2, .int .i64 m_), (3, .int .i64 b_), (4, cmp), (18, .int .i64 (IntKind.i64.wrap (Int.fdiv (IntKind.u64.wrap (IntKind.i64.wrap (a_ + b_))) (2 ^ 1)))), (19, .int .i64 (IntKind.i64.wrap ((IntKind.i64.wrap (Int.fdiv (IntKind.u64.wrap (IntKind.i64.wrap (a_ + b_))) (2 ^ 1))) + m_))), (20, .int .i64 start1), (21, .int .i64 r1), (22, .int .i64 (IntKind.i64.wrap ((IntKind.i64.wrap ((IntKind.i64.wrap (Int.fdiv (IntKind.u64.wrap (IntKind.i64.wrap (a_ + b_))) (2 ^ 1))) + m_)) - 1))), (151, .bool (decide (start1 < r1)))] ?_
         refine Zc 151 (decide (start1 < r1)) c129_143 c129_144 (fun hb => ?_) (fun hb => ?_)
         · replace h := h.1 hb
           refine wpE_skip (by kernel_rfl) ?_
           change WpE _ _ c129_145 _ _ _
           refine Zb 9 c129_146 ?_
           refine Zp c129_149 (Pl 7) [(0, sv_ data), (1, .int .i64 a_), (2, .int .i64 m_), (3, .int .i64 b_), (4, cmp), (18, .int .i64 (IntKind.i64.wrap (Int.fdiv (IntKind.u64.wrap (IntKind.i64.wrap (a_ + b_))) (2 ^ 1)))), (19, .int .i64 (IntKind.i64.wrap ((IntKind.i64.wrap (Int.fdiv (IntKind.u64.wrap (IntKind.i64.wrap (a_ + b_))) (2 ^ 1))) + m_))), (20, .int .i64 start1), (21, .int .i64 r1), (22, .int .i64 (IntKind.i64.wrap ((IntKind.i64.wrap ((IntKind.i64.wrap (Int.fdiv (IntKind.u64.wrap (IntKind.i64.wrap (a_ + b_))) (2 ^ 1))) + m_)) - 1))), (23, .int .i64 (IntKind.i64.wrap (Int.fdiv (IntKind.u64.wrap (IntKind.i64.wrap (start1 + r1))) (2 ^ 1))))] ?_
           refine Zs c129_150 c129_152 ?_
           refine wpE_tailregion (id := 35) (ops := r129_150) (by kernel_rfl) 11 (by kernel_rfl) (by kernel_rfl) (fun w17 hw => ?_)
           replace h := h w17 hw
           clear hw
           refine qreg_run [.plain, .plain, .plain, .plain, .plain] 5 [(0, [], sv_ data), (1, [], Value.int .i64 a_), (2, [], Value.int .i64 m_), (3, [], Value.int .i64 b_), (4, [], cmp), (18, [], Value.int .i64 (IntKind.i64.wrap (Int.fdiv (IntKind.u64.wrap (IntKind.i64.wrap (a_ + b_))) (2 ^ 1)))), (19, [], Value.int .i64 (IntKind.i64.wrap ((IntKind.i64.wrap (Int.fdiv (IntKind.u64.wrap (IntKind.i64.wrap (a_ + b_))) (2 ^ 1))) + m_))), (20, [], Value.int .i64 start1), (21, [], Value.int .i64 r1), (22, [], Value.int .i64 (IntKind.i64.wrap ((IntKind.i64.wrap ((IntKind.i64.wrap (Int.fdiv (IntKind.u64.wrap (IntKind.i64.wrap (a_ + b_))) (2 ^ 1))) + m_)) - 1))), (23, [], Value.int .i64 (IntKind.i64.wrap (Int.fdiv (IntKind.u64.wrap (IntKind.i64.wrap (start1 + r1))) (2 ^ 1)))), (158, [], cmp), (159, [], sv_ data), (162, [], Value.int .i64 (IntKind.i64.wrap ((IntKind.i64.wrap ((IntKind.i64.wrap ((IntKind.i64.wrap (Int.fdiv (IntKind.u64.wrap (IntKind.i64.wrap (a_ + b_))) (2 ^ 1))) + m_)) - 1)) - (IntKind.i64.wrap (Int.fdiv (IntKind.u64.wrap (IntKind.i64.wrap (start1 + r1))) (2 ^ 1))))))] (by kernel_rfl) (by kernel_rfl) ?_
           obtain ⟨hp_70, h⟩ := h
           refine qreg_conv [(0, [], sv_ data), (1, [], Value.int .i64 a_), (2, [], Value.int .i64 m_), (3, [], Value.int .i64 b_), (4, [], cmp), (18, [], Value.int .i64 (IntKind.i64.wrap (Int.fdiv (IntKind.u64.wrap (IntKind.i64.wrap (a_ + b_))) (2 ^ 1)))), (19, [], Value.int .i64 (IntKind.i64.wrap ((IntKind.i64.wrap (Int.fdiv (IntKind.u64.wrap (IntKind.i64.wrap (a_ + b_))) (2 ^ 1))) + m_))), (20, [], Value.int .i64 start1), (21, [], Value.int .i64 r1), (22, [], Value.int .i64 (IntKind.i64.wrap ((IntKind.i64.wrap ((IntKind.i64.wrap (Int.fdiv (IntKind.u64.wrap (IntKind.i64.wrap (a_ + b_))) (2 ^ 1))) + m_)) - 1))), (23, [], Value.int .i64 (IntKind.i64.wrap (Int.fdiv (IntKind.u64.wrap (IntKind.i64.wrap (start1 + r1))) (2 ^ 1)))), (158, [], cmp), (159, [], Value.slice (some ⟨(pblk data.ptr), (poff data.ptr), none⟩) data.len data.cap), (162, [], Value.int .i64 (IntKind.i64.wrap ((IntKind.i64.wrap ((IntKind.i64.wrap ((IntKind.i64.wrap (Int.fdiv (IntKind.u64.wrap (IntKind.i64.wrap (a_ + b_))) (2 ^ 1))) + m_)) - 1)) - (IntKind.i64.wrap (Int.fdiv (IntKind.u64.wrap (IntKind.i64.wrap (start1 + r1))) (2 ^ 1))))))] (congrArg (fun pp => ([(0, [], sv_ data), (1, [], Value.int .i64 a_), (2, [], Value.int .i64 m_), (3, [], Value.int .i64 b_), (4, [], cmp), (18, [], Value.int .i64 (IntKind.i64.wrap (Int.fdiv (IntKind.u64.wrap (IntKind.i64.wrap (a_ + b_))) (2 ^ 1)))), (19, [], Value.int .i64 (IntKind.i64.wrap ((IntKind.i64.wrap (Int.fdiv (IntKind.u64.wrap (IntKind.i64.wrap (a_ + b_))) (2 ^ 1))) + m_))), (20, [], Value.int .i64 start1), (21, [], Value.int .i64 r1), (22, [], Value.int .i64 (IntKind.i64.wrap ((IntKind.i64.wrap ((IntKind.i64.wrap (Int.fdiv (IntKind.u64.wrap (IntKind.i64.wrap (a_ + b_))) (2 ^ 1))) + m_)) - 1))), (23, [], Value.int .i64 (IntKind.i64.wrap (Int.fdiv (IntKind.u64.wrap (IntKind.i64.wrap (start1 + r1))) (2 ^ 1)))), (158, [], cmp), (159, [], Value.slice pp data.len data.cap), (162, [], Value.int .i64 (IntKind.i64.wrap ((IntKind.i64.wrap ((IntKind.i64.wrap ((IntKind.i64.wrap (Int.fdiv (IntKind.u64.wrap (IntKind.i64.wrap (a_ + b_))) (2 ^ 1))) + m_)) - 1)) - (IntKind.i64.wrap (Int.fdiv (IntKind.u64.wrap (IntKind.i64.wrap (start1 + r1))) (2 ^ 1))))))] : GEnv)) hp_70) ?_
           obtain ⟨h0, h1, h⟩ := h
           refine qreg_indexS (t := 93) (e := 143) (x := (Operand.tmp 159)) (ix := (Operand.tmp 162)) (b := (pblk data.ptr)) (o := (poff data.ptr)) (l := data.len) (c := data.cap) (k := .i64) (j := (IntKind.i64.wrap ((IntKind.i64.wrap ((IntKind.i64.wrap ((IntKind.i64.wrap (Int.fdiv (IntKind.u64.wrap (IntKind.i64.wrap (a_ + b_))) (2 ^ 1))) + m_)) - 1)) - (IntKind.i64.wrap (Int.fdiv (IntKind.u64.wrap (IntKind.i64.wrap (start1 + r1))) (2 ^ 1)))))) (ty := 0) (dst := some 163) (sz := 2) (by kernel_rfl) (by kernel_rfl) (by kernel_rfl) (by kernel_rfl) (by kernel_rfl) h0 h1 ?_
           refine qreg_run [] 6 [(0, [], sv_ data), (1, [], Value.int .i64 a_), (2, [], Value.int .i64 m_), (3, [], Value.int .i64 b_), (4, [], cmp), (18, [], Value.int .i64 (IntKind.i64.wrap (Int.fdiv (IntKind.u64.wrap (IntKind.i64.wrap (a_ + b_))) (2 ^ 1)))), (19, [], Value.int .i64 (IntKind.i64.wrap ((IntKind.i64.wrap (Int.fdiv (IntKind.u64.wrap (IntKind.i64.wrap (a_ + b_))) (2 ^ 1))) + m_))), (20, [], Value.int .i64 start1), (21, [], Value.int .i64 r1), (22, [], Value.int .i64 (IntKind.i64.wrap ((IntKind.i64.wrap ((IntKind.i64.wrap (Int.fdiv (IntKind.u64.wrap (IntKind.i64.wrap (a_ + b_))) (2 ^ 1))) + m_)) - 1))), (23, [], Value.int .i64 (IntKind.i64.wrap (Int.fdiv (IntKind.u64.wrap (IntKind.i64.wrap (start1 + r1))) (2 ^ 1)))), (158, [], cmp), (163, [], Value.pointer (some ⟨(pblk data.ptr), (poff data.ptr) + (IntKind.i64.wrap ((IntKind.i64.wrap ((IntKind.i64.wrap ((IntKind.i64.wrap (Int.fdiv (IntKind.u64.wrap (IntKind.i64.wrap (a_ + b_))) (2 ^ 1))) + m_)) - 1)) - (IntKind.i64.wrap (Int.fdiv (IntKind.u64.wrap (IntKind.i64.wrap (start1 + r1))) (2 ^ 1))))).toNat * 2, none⟩))] (by kernel_rfl) (by kernel_rfl) ?_
           obtain ⟨v164, hc, h⟩ := h
           refine qreg_loadN (t := 143) (a := (Operand.tmp 163)) (b := (pblk data.ptr)) (o := ((poff data.ptr) + (IntKind.i64.wrap ((IntKind.i64.wrap ((IntKind.i64.wrap ((IntKind.i64.wrap (Int.fdiv (IntKind.u64.wrap (IntKind.i64.wrap (a_ + b_))) (2 ^ 1))) + m_)) - 1)) - (IntKind.i64.wrap (Int.fdiv (IntKind.u64.wrap (IntKind.i64.wrap (start1 + r1))) (2 ^ 1))))).toNat * 2)) (ty := 143) (dst := some 164) [Value.string v164.Key, sv_ v164.Versions] (by kernel_rfl) (by kernel_rfl) (by kernel_rfl) (k := 2) (by kernel_rfl) (by kernel_rfl) hc ?_
           refine qreg_run P2 9 [(0, [], sv_ data), (1, [], Value.int .i64 a_), (2, [], Value.int .i64 m_), (3, [], Value.int .i64 b_), (4, [], cmp), (18, [], Value.int .i64 (IntKind.i64.wrap (Int.fdiv (IntKind.u64.wrap (IntKind.i64.wrap (a_ + b_))) (2 ^ 1)))), (19, [], Value.int .i64 (IntKind.i64.wrap ((IntKind.i64.wrap (Int.fdiv (IntKind.u64.wrap (IntKind.i64.wrap (a_ + b_))) (2 ^ 1))) + m_))), (20, [], Value.int .i64 start1), (21, [], Value.int .i64 r1), (22, [], Value.int .i64 (IntKind.i64.wrap ((IntKind.i64.wrap ((IntKind.i64.wrap (Int.fdiv (IntKind.u64.wrap (IntKind.i64.wrap (a_ + b_))) (2 ^ 1))) + m_)) - 1))), (23, [], Value.int .i64 (IntKind.i64.wrap (Int.fdiv (IntKind.u64.wrap (IntKind.i64.wrap (start1 + r1))) (2 ^ 1)))), (158, [], cmp), (164, [], Value.agg #[Value.string v164.Key, sv_ v164.Versions]), (165, [], sv_ data), (166, [], Value.int .i64 (IntKind.i64.wrap (Int.fdiv (IntKind.u64.wrap (IntKind.i64.wrap (start1 + r1))) (2 ^ 1))))] (by kernel_rfl) (by kernel_rfl) ?_
           obtain ⟨hp_71, h⟩ := h
           refine qreg_conv [(0, [], sv_ data), (1, [], Value.int .i64 a_), (2, [], Value.int .i64 m_), (3, [], Value.int .i64 b_), (4, [], cmp), (18, [], Value.int .i64 (IntKind.i64.wrap (Int.fdiv (IntKind.u64.wrap (IntKind.i64.wrap (a_ + b_))) (2 ^ 1)))), (19, [], Value.int .i64 (IntKind.i64.wrap ((IntKind.i64.wrap (Int.fdiv (IntKind.u64.wrap (IntKind.i64.wrap (a_ + b_))) (2 ^ 1))) + m_))), (20, [], Value.int .i64 start1), (21, [], Value.int .i64 r1), (22, [], Value.int .i64 (IntKind.i64.wrap ((IntKind.i64.wrap ((IntKind.i64.wrap (Int.fdiv (IntKind.u64.wrap (IntKind.i64.wrap (a_ + b_))) (2 ^ 1))) + m_)) - 1))), (23, [], Value.int .i64 (IntKind.i64.wrap (Int.fdiv (IntKind.u64.wrap (IntKind.i64.wrap (start1 + r1))) (2 ^ 1)))), (158, [], cmp), (164, [], Value.agg #[Value.string v164.Key, sv_ v164.Versions]), (165, [], Value.slice (some ⟨(pblk data.ptr), (poff data.ptr), none⟩) data.len data.cap), (166, [], Value.int .i64 (IntKind.i64.wrap (Int.fdiv (IntKind.u64.wrap (IntKind.i64.wrap (start1 + r1))) (2 ^ 1))))] (congrArg (fun pp => ([(0, [], sv_ data), (1, [], Value.int .i64 a_), (2, [], Value.int .i64 m_), (3, [], Value.int .i64 b_), (4, [], cmp), (18, [], Value.int .i64 (IntKind.i64.wrap (Int.fdiv (IntKind.u64.wrap (IntKind.i64.wrap (a_ + b_))) (2 ^ 1)))), (19, [], Value.int .i64 (IntKind.i64.wrap ((IntKind.i64.wrap (Int.fdiv (IntKind.u64.wrap (IntKind.i64.wrap (a_ + b_))) (2 ^ 1))) + m_))), (20, [], Value.int .i64 start1), (21, [], Value.int .i64 r1), (22, [], Value.int .i64 (IntKind.i64.wrap ((IntKind.i64.wrap ((IntKind.i64.wrap (Int.fdiv (IntKind.u64.wrap (IntKind.i64.wrap (a_ + b_))) (2 ^ 1))) + m_)) - 1))), (23, [], Value.int .i64 (IntKind.i64.wrap (Int.fdiv (IntKind.u64.wrap (IntKind.i64.wrap (start1 + r1))) (2 ^ 1)))), (158, [], cmp), (164, [], Value.agg #[Value.string v164.Key, sv_ v164.Versions]), (165, [], Value.slice pp data.len data.cap), (166, [], Value.int .i64 (IntKind.i64.wrap (Int.fdiv (IntKind.u64.wrap (IntKind.i64.wrap (start1 + r1))) (2 ^ 1))))] : GEnv)) hp_71) ?_
           obtain ⟨h0, h1, h⟩ := h
           refine qreg_indexS (t := 93) (e := 143) (x := (Operand.tmp 165)) (ix := (Operand.tmp 166)) (b := (pblk data.ptr)) (o := (poff data.ptr)) (l := data.len) (c := data.cap) (k := .i64) (j := (IntKind.i64.wrap (Int.fdiv (IntKind.u64.wrap (IntKind.i64.wrap (start1 + r1))) (2 ^ 1)))) (ty := 0) (dst := some 167) (sz := 2) (by kernel_rfl) (by kernel_rfl) (by kernel_rfl) (by kernel_rfl) (by kernel_rfl) h0 h1 ?_
           refine qreg_run [] 10 [(0, [], sv_ data), (1, [], Value.int .i64 a_), (2, [], Value.int .i64 m_), (3, [], Value.int .i64 b_), (4, [], cmp), (18, [], Value.int .i64 (IntKind.i64.wrap (Int.fdiv (IntKind.u64.wrap (IntKind.i64.wrap (a_ + b_))) (2 ^ 1)))), (19, [], Value.int .i64 (IntKind.i64.wrap ((IntKind.i64.wrap (Int.fdiv (IntKind.u64.wrap (IntKind.i64.wrap (a_ + b_))) (2 ^ 1))) + m_))), (20, [], Value.int .i64 start1), (21, [], Value.int .i64 r1), (22, [], Value.int .i64 (IntKind.i64.wrap ((IntKind.i64.wrap ((IntKind.i64.wrap (Int.fdiv (IntKind.u64.wrap (IntKind.i64.wrap (a_ + b_))) (2 ^ 1))) + m_)) - 1))), (23, [], Value.int .i64 (IntKind.i64.wrap (Int.fdiv (IntKind.u64.wrap (IntKind.i64.wrap (start1 + r1))) (2 ^ 1)))), (158, [], cmp), (164, [], Value.agg #[Value.string v164.Key, sv_ v164.Versions]), (167, [], Value.pointer (some ⟨(pblk data.ptr), (poff data.ptr) + (IntKind.i64.wrap (Int.fdiv (IntKind.u64.wrap (IntKind.i64.wrap (start1 + r1))) (2 ^ 1))).toNat * 2, none⟩))] (by kernel_rfl) (by kernel_rfl) ?_
           obtain ⟨v168, hc, h⟩ := h
           refine qreg_loadN (t := 143) (a := (Operand.tmp 167)) (b := (pblk data.ptr)) (o := ((poff data.ptr) + (IntKind.i64.wrap (Int.fdiv (IntKind.u64.wrap (IntKind.i64.wrap (start1 + r1))) (2 ^ 1))).toNat * 2)) (ty := 143) (dst := some 168) [Value.string v168.Key, sv_ v168.Versions] (by kernel_rfl) (by kernel_rfl) (by kernel_rfl) (k := 2) (by kernel_rfl) (by kernel_rfl) hc ?_
           refine qreg_run [] 11 [(0, [], sv_ data), (1, [], Value.int .i64 a_), (2, [], Value.int .i64 m_), (3, [], Value.int .i64 b_), (4, [], cmp), (18, [], Value.int .i64 (IntKind.i64.wrap (Int.fdiv (IntKind.u64.wrap (IntKind.i64.wrap (a_ + b_))) (2 ^ 1)))), (19, [], Value.int .i64 (IntKind.i64.wrap ((IntKind.i64.wrap (Int.fdiv (IntKind.u64.wrap (IntKind.i64.wrap (a_ + b_))) (2 ^ 1))) + m_))), (20, [], Value.int .i64 start1), (21, [], Value.int .i64 r1), (22, [], Value.int .i64 (IntKind.i64.wrap ((IntKind.i64.wrap ((IntKind.i64.wrap (Int.fdiv (IntKind.u64.wrap (IntKind.i64.wrap (a_ + b_))) (2 ^ 1))) + m_)) - 1))), (23, [], Value.int .i64 (IntKind.i64.wrap (Int.fdiv (IntKind.u64.wrap (IntKind.i64.wrap (start1 + r1))) (2 ^ 1)))), (158, [], cmp), (164, [], Value.agg #[Value.string v164.Key, sv_ v164.Versions]), (168, [], Value.agg #[Value.string v168.Key, sv_ v168.Versions])] (by kernel_rfl) (by kernel_rfl) ?_
           refine qreg_tail (by kernel_rfl) ?_
           refine Zn [] 11 [(0, [], sv_ data), (1, [], .int .i64 a_), (2, [], .int .i64 m_), (3, [], .int .i64 b_), (4, [], cmp), (18, [], .int .i64 (IntKind.i64.wrap (Int.fdiv (IntKind.u64.wrap (IntKind.i64.wrap (a_ + b_))) (2 ^ 1)))), (19, [], .int .i64 (IntKind.i64.wrap ((IntKind.i64.wrap (Int.fdiv (IntKind.u64.wrap (IntKind.i64.wrap (a_ + b_))) (2 ^ 1))) + m_))), (20, [], .int .i64 start1), (21, [], .int .i64 r1), (22, [], .int .i64 (IntKind.i64.wrap ((IntKind.i64.wrap ((IntKind.i64.wrap (Int.fdiv (IntKind.u64.wrap (IntKind.i64.wrap (a_ + b_))) (2 ^ 1))) + m_)) - 1))), (23, [], .int .i64 (IntKind.i64.wrap (Int.fdiv (IntKind.u64.wrap (IntKind.i64.wrap (start1 + r1))) (2 ^ 1)))), (158, [], cmp), (164, [], .agg #[.string v164.Key, sv_ v164.Versions]), (168, [], .agg #[.string v168.Key, sv_ v168.Versions])] ?_
           refine reg_enterV (fo := (Operand.tmp 158)) (aa := #[(Operand.tmp 164), (Operand.tmp 168)]) (ts := #[143, 143]) (fv := cmp) (ty := 3) (dst := some 169) #[Value.agg #[Value.string v164.Key, sv_ v164.Versions], Value.agg #[Value.string v168.Key, sv_ v168.Versions]] (by kernel_rfl) (by kernel_rfl) (by kernel_rfl) (CallsV.mono h ?_)
           rintro _ w18 ⟨v169, rfl, h⟩
           refine ⟨_, rfl, ?_⟩
           refine Zf P2 [(0, sv_ data), (1, .int .i64 a_), (2, .int .i64 m_), (3, .int .i64 b_), (4, cmp), (18, .int .i64 (IntKind.i64.wrap (Int.fdiv (IntKind.u64.wrap (IntKind.i64.wrap (a_ + b_))) (2 ^ 1)))), (19, .int .i64 (IntKind.i64.wrap ((IntKind.i64.wrap (Int.fdiv (IntKind.u64.wrap (IntKind.i64.wrap (a_ + b_))) (2 ^ 1))) + m_))), (20, .int .i64 start1), (21, .int .i64 r1), (22, .int .i64 (IntKind.i64.wrap ((IntKind.i64.wrap ((IntKind.i64.wrap (Int.fdiv (IntKind.u64.wrap (IntKind.i64.wrap (a_ + b_))) (2 ^ 1))) + m_)) - 1))), (23, .int .i64 (IntKind.i64.wrap (Int.fdiv (IntKind.u64.wrap (IntKind.i64.wrap (start1 + r1))) (2 ^ 1)))), (171, .bool (!(decide (v169 < 0))))] ?_
           change WpE _ _ c129_152 _ _ _
           refine Zc 171 (!(decide (v169 < 0))) c129_153 c129_155 (fun hb => ?_) (fun hb => ?_)
           · replace h := h.1 hb
             refine Zr r129_153 ?_
             refine Zf P3 [(0, sv_ data), (1, .int .i64 a_), (2, .int .i64 m_), (3, .int .i64 b_), (4, cmp), (18, .int .i64 (IntKind.i64.wrap (Int.fdiv (IntKind.u64.wrap (IntKind.i64.wrap (a_ + b_))) (2 ^ 1)))), (19, .int .i64 (IntKind.i64.wrap ((IntKind.i64.wrap (Int.fdiv (IntKind.u64.wrap (IntKind.i64.wrap (a_ + b_))) (2 ^ 1))) + m_))), (20, .int .i64 (IntKind.i64.wrap ((IntKind.i64.wrap (Int.fdiv (IntKind.u64.wrap (IntKind.i64.wrap (start1 + r1))) (2 ^ 1))) + 1))), (21, .int .i64 r1), (22, .int .i64 (IntKind.i64.wrap ((IntKind.i64.wrap ((IntKind.i64.wrap (Int.fdiv (IntKind.u64.wrap (IntKind.i64.wrap (a_ + b_))) (2 ^ 1))) + m_)) - 1)))] ?_
             have hb_ := again_4_h _ _ _ h
             exact ⟨_, hb_.2, [(0, sv_ data), (1, Value.int .i64 a_), (2, Value.int .i64 m_), (3, Value.int .i64 b_), (4, cmp), (18, Value.int .i64 (IntKind.i64.wrap (Int.fdiv (IntKind.u64.wrap (IntKind.i64.wrap (a_ + b_))) (2 ^ 1)))), (19, Value.int .i64 (IntKind.i64.wrap ((IntKind.i64.wrap (Int.fdiv (IntKind.u64.wrap (IntKind.i64.wrap (a_ + b_))) (2 ^ 1))) + m_))), (20, Value.int .i64 (IntKind.i64.wrap ((IntKind.i64.wrap (Int.fdiv (IntKind.u64.wrap (IntKind.i64.wrap (start1 + r1))) (2 ^ 1))) + 1))), (21, Value.int .i64 r1), (22, Value.int .i64 (IntKind.i64.wrap ((IntKind.i64.wrap ((IntKind.i64.wrap (Int.fdiv (IntKind.u64.wrap (IntKind.i64.wrap (a_ + b_))) (2 ^ 1))) + m_)) - 1)))], Sub.mk (by kernel_rfl), (IntKind.i64.wrap ((IntKind.i64.wrap (Int.fdiv (IntKind.u64.wrap (IntKind.i64.wrap (start1 + r1))) (2 ^ 1))) + 1)), r1, rfl, hb_.1, rfl⟩
           · replace h := h.2 hb
             refine Zr r129_155 ?_
             refine Zf P2 [(0, sv_ data), (1, .int .i64 a_), (2, .int .i64 m_), (3, .int .i64 b_), (4, cmp), (18, .int .i64 (IntKind.i64.wrap (Int.fdiv (IntKind.u64.wrap (IntKind.i64.wrap (a_ + b_))) (2 ^ 1)))), (19, .int .i64 (IntKind.i64.wrap ((IntKind.i64.wrap (Int.fdiv (IntKind.u64.wrap (IntKind.i64.wrap (a_ + b_))) (2 ^ 1))) + m_))), (20, .int .i64 start1), (21, .int .i64 (IntKind.i64.wrap (Int.fdiv (IntKind.u64.wrap (IntKind.i64.wrap (start1 + r1))) (2 ^ 1)))), (22, .int .i64 (IntKind.i64.wrap ((IntKind.i64.wrap ((IntKind.i64.wrap (Int.fdiv (IntKind.u64.wrap (IntKind.i64.wrap (a_ + b_))) (2 ^ 1))) + m_)) - 1)))] ?_
             have hb_ := again_4_h _ _ _ h
             exact ⟨_, hb_.2, [(0, sv_ data), (1, Value.int .i64 a_), (2, Value.int .i64 m_), (3, Value.int .i64 b_), (4, cmp), (18, Value.int .i64 (IntKind.i64.wrap (Int.fdiv (IntKind.u64.wrap (IntKind.i64.wrap (a_ + b_))) (2 ^ 1)))), (19, Value.int .i64 (IntKind.i64.wrap ((IntKind.i64.wrap (Int.fdiv (IntKind.u64.wrap (IntKind.i64.wrap (a_ + b_))) (2 ^ 1))) + m_))), (20, Value.int .i64 start1), (21, Value.int .i64 (IntKind.i64.wrap (Int.fdiv (IntKind.u64.wrap (IntKind.i64.wrap (start1 + r1))) (2 ^ 1)))), (22, Value.int .i64 (IntKind.i64.wrap ((IntKind.i64.wrap ((IntKind.i64.wrap (Int.fdiv (IntKind.u64.wrap (IntKind.i64.wrap (a_ + b_))) (2 ^ 1))) + m_)) - 1)))], Sub.mk (by kernel_rfl), start1, (IntKind.i64.wrap (Int.fdiv (IntKind.u64.wrap (IntKind.i64.wrap (start1 + r1))) (2 ^ 1))), rfl, hb_.1, rfl⟩
         · replace h := h.2 hb
           refine wpE_exit (id := 8) (by kernel_rfl) ?_
           change WpE _ _ c129_157 _ _ _
           refine Zp c129_160 P4 [(0, sv_ data), (1, .int .i64 a_), (2, .int .i64 m_), (3, .int .i64 b_), (4, cmp), (18, .int .i64 (IntKind.i64.wrap (Int.fdiv (IntKind.u64.wrap (IntKind.i64.wrap (a_ + b_))) (2 ^ 1)))), (20, .int .i64 start1), (24, .int .i64 (IntKind.i64.wrap ((IntKind.i64.wrap ((IntKind.i64.wrap (Int.fdiv (IntKind.u64.wrap (IntKind.i64.wrap (a_ + b_))) (2 ^ 1))) + m_)) - start1)))] ?_
           refine wpE_seq_cut (x := c129_161) (y := c129_168) (by kernel_rfl) (fun l w => l = [(0, sv_ data), (1, Value.int .i64 a_), (3, Value.int .i64 b_), (4, cmp), (18, Value.int .i64 (IntKind.i64.wrap (Int.fdiv (IntKind.u64.wrap (IntKind.i64.wrap (a_ + b_))) (2 ^ 1)))), (20, Value.int .i64 start1), (24, Value.int .i64 (IntKind.i64.wrap ((IntKind.i64.wrap ((IntKind.i64.wrap (Int.fdiv (IntKind.u64.wrap (IntKind.i64.wrap (a_ + b_))) (2 ^ 1))) + m_)) - start1)))] ∧ F_slices_symMergeCmpFunc_api_Held_k6 data a_ m_ b_ cmp R start1 w) ?_ ?_
           · refine Zp c129_164 [.plain, .plain, .plain, .plain, .plain, .plain, .plain, .pick] [(0, sv_ data), (1, .int .i64 a_), (2, .int .i64 m_), (3, .int .i64 b_), (4, cmp), (18, .int .i64 (IntKind.i64.wrap (Int.fdiv (IntKind.u64.wrap (IntKind.i64.wrap (a_ + b_))) (2 ^ 1)))), (20, .int .i64 start1), (24, .int .i64 (IntKind.i64.wrap ((IntKind.i64.wrap ((IntKind.i64.wrap (Int.fdiv (IntKind.u64.wrap (IntKind.i64.wrap (a_ + b_))) (2 ^ 1))) + m_)) - start1))), (185, .bool ((decide (start1 < m_)) && (decide (m_ < (IntKind.i64.wrap ((IntKind.i64.wrap ((IntKind.i64.wrap (Int.fdiv (IntKind.u64.wrap (IntKind.i64.wrap (a_ + b_))) (2 ^ 1))) + m_)) - start1))))))] ?_
             refine Zc 185 ((decide (start1 < m_)) && (decide (m_ < (IntKind.i64.wrap ((IntKind.i64.wrap ((IntKind.i64.wrap (Int.fdiv (IntKind.u64.wrap (IntKind.i64.wrap (a_ + b_))) (2 ^ 1))) + m_)) - start1))))) c129_165 c129_167 (fun hb => ?_) (fun hb => ?_)
             · replace h := h.1 hb
               refine Zr r129_165 ?_
               refine Zn (Pl 5) 5 [(0, [], sv_ data), (1, [], .int .i64 a_), (3, [], .int .i64 b_), (4, [], cmp), (18, [], .int .i64 (IntKind.i64.wrap (Int.fdiv (IntKind.u64.wrap (IntKind.i64.wrap (a_ + b_))) (2 ^ 1)))), (20, [], .int .i64 start1), (24, [], .int .i64 (IntKind.i64.wrap ((IntKind.i64.wrap ((IntKind.i64.wrap (Int.fdiv (IntKind.u64.wrap (IntKind.i64.wrap (a_ + b_))) (2 ^ 1))) + m_)) - start1))), (186, [], sv_ data), (187, [], .int .i64 start1), (188, [], .int .i64 m_), (189, [], .int .i64 (IntKind.i64.wrap ((IntKind.i64.wrap ((IntKind.i64.wrap (Int.fdiv (IntKind.u64.wrap (IntKind.i64.wrap (a_ + b_))) (2 ^ 1))) + m_)) - start1))), (190, [], cmp)] ?_
               refine Zm 138 #[sv_ data, .int .i64 start1, .int .i64 m_, .int .i64 (IntKind.i64.wrap ((IntKind.i64.wrap ((IntKind.i64.wrap (Int.fdiv (IntKind.u64.wrap (IntKind.i64.wrap (a_ + b_))) (2 ^ 1))) + m_)) - start1)), cmp] (some 191) (Calls.mono h ?_)
               rintro _ w23 ⟨rfl, h⟩
               refine ⟨_, rfl, ?_⟩
               refine Ze [(0, sv_ data), (1, .int .i64 a_), (3, .int .i64 b_), (4, cmp), (18, .int .i64 (IntKind.i64.wrap (Int.fdiv (IntKind.u64.wrap (IntKind.i64.wrap (a_ + b_))) (2 ^ 1)))), (20, .int .i64 start1), (24, .int .i64 (IntKind.i64.wrap ((IntKind.i64.wrap ((IntKind.i64.wrap (Int.fdiv (IntKind.u64.wrap (IntKind.i64.wrap (a_ + b_))) (2 ^ 1))) + m_)) - start1)))] ?_
               exact ⟨[(0, sv_ data), (1, Value.int .i64 a_), (3, Value.int .i64 b_), (4, cmp), (18, Value.int .i64 (IntKind.i64.wrap (Int.fdiv (IntKind.u64.wrap (IntKind.i64.wrap (a_ + b_))) (2 ^ 1)))), (20, Value.int .i64 start1), (24, Value.int .i64 (IntKind.i64.wrap ((IntKind.i64.wrap ((IntKind.i64.wrap (Int.fdiv (IntKind.u64.wrap (IntKind.i64.wrap (a_ + b_))) (2 ^ 1))) + m_)) - start1)))], Sub.mk (by kernel_rfl), rfl, h⟩
             · replace h := h.2 hb
               refine wpE_skip (by kernel_rfl) ?_
               exact ⟨[(0, sv_ data), (1, Value.int .i64 a_), (3, Value.int .i64 b_), (4, cmp), (18, Value.int .i64 (IntKind.i64.wrap (Int.fdiv (IntKind.u64.wrap (IntKind.i64.wrap (a_ + b_))) (2 ^ 1)))), (20, Value.int .i64 start1), (24, Value.int .i64 (IntKind.i64.wrap ((IntKind.i64.wrap ((IntKind.i64.wrap (Int.fdiv (IntKind.u64.wrap (IntKind.i64.wrap (a_ + b_))) (2 ^ 1))) + m_)) - start1)))], Sub.mk (by kernel_rfl), rfl, h⟩
           · rintro _ w19 ⟨rfl, h⟩
             unfold F_slices_symMergeCmpFunc_api_Held_k6 at h
             refine wpE_seq_cut (x := c129_169) (y := c129_176) (by kernel_rfl) (fun l w => l = [(0, sv_ data), (3, Value.int .i64 b_), (4, cmp), (18, Value.int .i64 (IntKind.i64.wrap (Int.fdiv (IntKind.u64.wrap (IntKind.i64.wrap (a_ + b_))) (2 ^ 1)))), (24, Value.int .i64 (IntKind.i64.wrap ((IntKind.i64.wrap ((IntKind.i64.wrap (Int.fdiv (IntKind.u64.wrap (IntKind.i64.wrap (a_ + b_))) (2 ^ 1))) + m_)) - start1)))] ∧ F_slices_symMergeCmpFunc_api_Held_k7 data a_ m_ b_ cmp R start1 w) ?_ ?_
             · refine Zp c129_172 [.plain, .plain, .plain, .plain, .plain, .plain, .plain, .pick] [(0, sv_ data), (1, .int .i64 a_), (3, .int .i64 b_), (4, cmp), (18, .int .i64 (IntKind.i64.wrap (Int.fdiv (IntKind.u64.wrap (IntKind.i64.wrap (a_ + b_))) (2 ^ 1)))), (20, .int .i64 start1), (24, .int .i64 (IntKind.i64.wrap ((IntKind.i64.wrap ((IntKind.i64.wrap (Int.fdiv (IntKind.u64.wrap (IntKind.i64.wrap (a_ + b_))) (2 ^ 1))) + m_)) - start1))), (199, .bool ((decide (a_ < start1)) && (decide (start1 < (IntKind.i64.wrap (Int.fdiv (IntKind.u64.wrap (IntKind.i64.wrap (a_ + b_))) (2 ^ 1)))))))] ?_
               refine Zc 199 ((decide (a_ < start1)) && (decide (start1 < (IntKind.i64.wrap (Int.fdiv (IntKind.u64.wrap (IntKind.i64.wrap (a_ + b_))) (2 ^ 1)))))) c129_173 c129_175 (fun hb => ?_) (fun hb => ?_)
               · replace h := h.1 hb
                 refine Zr r129_173 ?_
                 refine Zn (Pl 5) 5 [(0, [], sv_ data), (3, [], .int .i64 b_), (4, [], cmp), (18, [], .int .i64 (IntKind.i64.wrap (Int.fdiv (IntKind.u64.wrap (IntKind.i64.wrap (a_ + b_))) (2 ^ 1)))), (24, [], .int .i64 (IntKind.i64.wrap ((IntKind.i64.wrap ((IntKind.i64.wrap (Int.fdiv (IntKind.u64.wrap (IntKind.i64.wrap (a_ + b_))) (2 ^ 1))) + m_)) - start1))), (200, [], sv_ data), (201, [], .int .i64 a_), (202, [], .int .i64 start1), (203, [], .int .i64 (IntKind.i64.wrap (Int.fdiv (IntKind.u64.wrap (IntKind.i64.wrap (a_ + b_))) (2 ^ 1)))), (204, [], cmp)] ?_
                 refine Zm 129 #[sv_ data, .int .i64 a_, .int .i64 start1, .int .i64 (IntKind.i64.wrap (Int.fdiv (IntKind.u64.wrap (IntKind.i64.wrap (a_ + b_))) (2 ^ 1))), cmp] (some 205) (Calls.mono h ?_)
                 rintro _ w22 ⟨rfl, h⟩
                 refine ⟨_, rfl, ?_⟩
                 refine Ze [(0, sv_ data), (3, .int .i64 b_), (4, cmp), (18, .int .i64 (IntKind.i64.wrap (Int.fdiv (IntKind.u64.wrap (IntKind.i64.wrap (a_ + b_))) (2 ^ 1)))), (24, .int .i64 (IntKind.i64.wrap ((IntKind.i64.wrap ((IntKind.i64.wrap (Int.fdiv (IntKind.u64.wrap (IntKind.i64.wrap (a_ + b_))) (2 ^ 1))) + m_)) - start1)))] ?_
                 exact ⟨[(0, sv_ data), (3, Value.int .i64 b_), (4, cmp), (18, Value.int .i64 (IntKind.i64.wrap (Int.fdiv (IntKind.u64.wrap (IntKind.i64.wrap (a_ + b_))) (2 ^ 1)))), (24, Value.int .i64 (IntKind.i64.wrap ((IntKind.i64.wrap ((IntKind.i64.wrap (Int.fdiv (IntKind.u64.wrap (IntKind.i64.wrap (a_ + b_))) (2 ^ 1))) + m_)) - start1)))], Sub.mk (by kernel_rfl), rfl, h⟩
               · replace h := h.2 hb
                 refine wpE_skip (by kernel_rfl) ?_
                 exact ⟨[(0, sv_ data), (3, Value.int .i64 b_), (4, cmp), (18, Value.int .i64 (IntKind.i64.wrap (Int.fdiv (IntKind.u64.wrap (IntKind.i64.wrap (a_ + b_))) (2 ^ 1)))), (24, Value.int .i64 (IntKind.i64.wrap ((IntKind.i64.wrap ((IntKind.i64.wrap (Int.fdiv (IntKind.u64.wrap (IntKind.i64.wrap (a_ + b_))) (2 ^ 1))) + m_)) - start1)))], Sub.mk (by kernel_rfl), rfl, h⟩
             · rintro _ w20 ⟨rfl, h⟩
               unfold F_slices_symMergeCmpFunc_api_Held_k7 at h
               refine Zp c129_179 [.plain, .plain, .plain, .plain, .plain, .plain, .plain, .pick] [(0, sv_ data), (3, .int .i64 b_), (4, cmp), (18, .int .i64 (IntKind.i64.wrap (Int.fdiv (IntKind.u64.wrap (IntKind.i64.wrap (a_ + b_))) (2 ^ 1)))), (24, .int .i64 (IntKind.i64.wrap ((IntKind.i64.wrap ((IntKind.i64.wrap (Int.fdiv (IntKind.u64.wrap (IntKind.i64.wrap (a_ + b_))) (2 ^ 1))) + m_)) - start1))), (213, .bool ((decide ((IntKind.i64.wrap (Int.fdiv (IntKind.u64.wrap (IntKind.i64.wrap (a_ + b_))) (2 ^ 1))) < (IntKind.i64.wrap ((IntKind.i64.wrap ((IntKind.i64.wrap (Int.fdiv (IntKind.u64.wrap (IntKind.i64.wrap (a_ + b_))) (2 ^ 1))) + m_)) - start1)))) && (decide ((IntKind.i64.wrap ((IntKind.i64.wrap ((IntKind.i64.wrap (Int.fdiv (IntKind.u64.wrap (IntKind.i64.wrap (a_ + b_))) (2 ^ 1))) + m_)) - start1)) < b_))))] ?_
               refine Zc 213 ((decide ((IntKind.i64.wrap (Int.fdiv (IntKind.u64.wrap (IntKind.i64.wrap (a_ + b_))) (2 ^ 1))) < (IntKind.i64.wrap ((IntKind.i64.wrap ((IntKind.i64.wrap (Int.fdiv (IntKind.u64.wrap (IntKind.i64.wrap (a_ + b_))) (2 ^ 1))) + m_)) - start1)))) && (decide ((IntKind.i64.wrap ((IntKind.i64.wrap ((IntKind.i64.wrap (Int.fdiv (IntKind.u64.wrap (IntKind.i64.wrap (a_ + b_))) (2 ^ 1))) + m_)) - start1)) < b_))) c129_180 c129_182 (fun hb => ?_) (fun hb => ?_)
               · replace h := h.1 hb
                 refine Zr r129_180 ?_
                 refine Zn (Pl 5) 5 [(214, [], sv_ data), (215, [], .int .i64 (IntKind.i64.wrap (Int.fdiv (IntKind.u64.wrap (IntKind.i64.wrap (a_ + b_))) (2 ^ 1)))), (216, [], .int .i64 (IntKind.i64.wrap ((IntKind.i64.wrap ((IntKind.i64.wrap (Int.fdiv (IntKind.u64.wrap (IntKind.i64.wrap (a_ + b_))) (2 ^ 1))) + m_)) - start1))), (217, [], .int .i64 b_), (218, [], cmp)] ?_
                 refine Zm 129 #[sv_ data, .int .i64 (IntKind.i64.wrap (Int.fdiv (IntKind.u64.wrap (IntKind.i64.wrap (a_ + b_))) (2 ^ 1))), .int .i64 (IntKind.i64.wrap ((IntKind.i64.wrap ((IntKind.i64.wrap (Int.fdiv (IntKind.u64.wrap (IntKind.i64.wrap (a_ + b_))) (2 ^ 1))) + m_)) - start1)), .int .i64 b_, cmp] (some 219) (Calls.mono h ?_)
                 rintro _ w21 ⟨rfl, h⟩
                 refine ⟨_, rfl, ?_⟩
                 refine Ze [] ?_
                 repeat (first | refine seqQ_exit ?_ | refine loopQ_exit ?_ | refine cutQ_exit ?_ | refine blockQ_hit ?_ | refine blockQ_miss (by kernel_rfl) ?_)
                 refine retQ_normal ?_
                 repeat (first | refine seqQ_ret ?_ | refine blockQ_ret ?_ | refine loopQ_ret ?_ | refine cutQ_ret ?_)
                 exact retT (rs := []) (vs := []) (by kernel_rfl) (trivial) (by kernel_rfl) ⟨rfl, h⟩
               · replace h := h.2 hb
                 refine wpE_skip (by kernel_rfl) ?_
                 repeat (first | refine seqQ_exit ?_ | refine loopQ_exit ?_ | refine cutQ_exit ?_ | refine blockQ_hit ?_ | refine blockQ_miss (by kernel_rfl) ?_)
                 refine retQ_normal ?_
                 repeat (first | refine seqQ_ret ?_ | refine blockQ_ret ?_ | refine loopQ_ret ?_ | refine cutQ_ret ?_)
                 exact retT (rs := []) (vs := []) (by kernel_rfl) (trivial) (by kernel_rfl) ⟨rfl, h⟩
 · rintro e w' ⟨v, rfl, rfl, h⟩; exact ⟨rfl, h⟩
end
end Go.Proofs.Ytpedclhflmhakaa
