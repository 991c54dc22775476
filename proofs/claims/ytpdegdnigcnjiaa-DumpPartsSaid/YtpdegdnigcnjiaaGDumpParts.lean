/- WRITTEN BY PROGRAM (dec.py): for each Go function the clean formula F, the call's contract C, and the proof S that F gives C. -/
import Derived.Test.YtpdegdnigcnjiaaRows
import Derived.Test.YtpdegdnigcnjiaaGF
namespace Go.Proofs.Ytpdegdnigcnjiaa
open Go
set_option linter.unusedVariables false
set_option maxRecDepth 100000
set_option maxHeartbeats 4000000
noncomputable section

/-! ### towpath/towpathlaw18.DumpParts (function 8) -/
def c8_0 := cb_ Try.f8
def c8_3 := cr_ c8_0
def c8_13 := cr_ c8_3
def c8_16 := cr_ c8_13
def c8_26 := cr_ c8_16
def c8_29 := cr_ c8_26
def c8_30 := cl_ c8_29
def c8_33 := cr_ c8_30
def c8_34 := cl_ c8_33
def c8_35 := cl_ c8_34
def c8_42 := cr_ c8_35
def c8_43 := cl_ c8_42
def c8_44 := cl_ c8_43
def c8_45 := cl_ c8_44
def r8_45 := co_ c8_45
def c8_47 := cr_ c8_44
def c8_48 := cl_ c8_47
def c8_49 := cl_ c8_48
def r8_49 := co_ c8_49
def c8_61 := cr_ c8_29
def c8_64 := cr_ c8_61
def c8_74 := cr_ c8_64
def c8_75 := cl_ c8_74
def c8_78 := cr_ c8_75
def c8_79 := cl_ c8_78
def c8_80 := cl_ c8_79
def c8_87 := cr_ c8_80
def c8_88 := cl_ c8_87
def c8_89 := cl_ c8_88
def c8_92 := cr_ c8_89
def c8_93 := cl_ c8_92
def c8_94 := cl_ c8_93
def r8_94 := co_ c8_94
def c8_102 := cr_ c8_92
def c8_105 := cr_ c8_102
def c8_106 := cl_ c8_105
def c8_107 := cl_ c8_106
def c8_114 := cr_ c8_107
def c8_115 := cl_ c8_114
def c8_116 := cl_ c8_115
def c8_117 := cl_ c8_116
def r8_117 := co_ c8_117
def c8_119 := cr_ c8_116
def c8_120 := cl_ c8_119
def r8_120 := co_ c8_120
def o_towpathlaw18_DumpParts_45 : List Nat := [0, 1, 2, 3, 4, 5, 6, 7, 8, 9, 10, 11, 12]
def o_towpathlaw18_DumpParts_49 : List Nat := [0, 1, 2, 3, 4, 5, 6, 7, 8, 9, 10, 11, 12, 13, 14, 15, 16, 17, 18, 19, 20, 21, 22, 23, 24, 25, 26, 27, 28, 29, 30, 31, 32]
def o_towpathlaw18_DumpParts_117 : List Nat := [0, 1, 2, 3, 4, 5, 6, 7, 8, 9, 10, 11, 12, 13, 14, 15, 16]
def o_towpathlaw18_DumpParts_120 : List Nat := [0, 1, 2, 3, 4, 5, 6, 7, 8, 9, 10, 11, 12, 13, 14, 15, 16]

theorem S_towpathlaw18_DumpParts {c : T_api_Config} {s : T_api_Saved} {w : World} {R : Bool → World → Prop} (h : F_towpathlaw18_DumpParts c s R w) : C_towpathlaw18_DumpParts c s w R := by
 unfold F_towpathlaw18_DumpParts at h
 refine Yh Try.func8 ?_
 · refine Yt ?_
   refine Yw pv_ h fun b_ w1 h => ?_
   refine Yw pv_ h fun b_1 w2 h => ?_
   refine Yf P1 [2, 3] ?_
   refine Ys ?_
   refine Ycut (fun l w => ∃ (t38 : Bool), l = [(2, pv_ b_), (3, pv_ b_1), (38, Value.bool t38)] ∧ F_towpathlaw18_DumpParts_k0 R b_ b_1 t38 w) ?_ ?_
   · refine Yr ?_
     refine Ym1 h fun v21 w26 h => ?_
     refine Yn P2 ?_
     refine Yspl 23 h (fun h => ?_) fun h => ?_
     · refine Yf [.skip, .skip, .skip, .skip, .plain, .plain, .skip, .skip, .skip, .plain, .plain, .skip, .skip, .skip, .plain] [2, 3, 38] ?_
       exact ⟨_, Sub.mk (by kernel_rfl), true, rfl, h⟩
     · refine YL h fun v24 h => ?_
       refine Ym1 h fun v25 w27 h => ?_
       refine Yw (sl_ 1 1) h fun b_3 w28 h => ?_
       refine Ym1 h fun v27 w29 h => ?_
       refine Yn P2 ?_
       refine Yspl 29 h (fun h => ?_) fun h => ?_
       · refine Yf [.skip, .skip, .skip, .plain, .plain, .skip, .skip, .skip, .plain] [2, 3, 38] ?_
         exact ⟨_, Sub.mk (by kernel_rfl), true, rfl, h⟩
       · refine YL h fun v30 h => ?_
         refine Ym1 h fun v31 w30 h => ?_
         refine Yn [.sure, .plain, .plain] ?_
         refine Yspl 34 h (fun h => ?_) fun h => ?_
         · refine Yf [.skip, .skip, .skip, .plain] [2, 3, 38] ?_
           exact ⟨_, Sub.mk (by kernel_rfl), true, rfl, h⟩
         · refine YL h fun v35 h => ?_
           refine Ym1 h fun v36 w31 h => ?_
           refine Yf [.sure, .plain] [2, 3, 38] ?_
           exact ⟨_, Sub.mk (by kernel_rfl), (v36 != 0), rfl, h⟩
   · rintro _ w3 ⟨t38, rfl, h⟩
     unfold F_towpathlaw18_DumpParts_k0 at h
     refine Yc h (fun h => ?_) fun h => ?_
     · refine Yt ?_
       refine Ym1 h fun v39 w4 h => ?_
       refine Yf P1 [4] ?_
       exact YS ⟨v39, rfl, h⟩
     · refine Yskip ?_
       refine Yt ?_
       refine YL h fun v41 h => ?_
       refine YL h fun v42 h => ?_
       refine Ym2 h fun l_ e w5 h => ?_
       refine Yf (Pl 5) [2, 3, 5, 6] ?_
       refine Ys ?_
       refine Ycut (fun l w => ∃ (t54 : Bool), l = [(2, pv_ b_), (3, pv_ b_1), (5, sv_ l_), (54, Value.bool t54)] ∧ F_towpathlaw18_DumpParts_k1 R b_ b_1 l_ t54 w) ?_ ?_
       · refine Yr ?_
         refine Yn (Pl 6) ?_
         refine Yspl 48 h (fun h => ?_) fun h => ?_
         · refine Yf [.skip, .skip, .plain] [2, 3, 5, 54] ?_
           exact ⟨_, Sub.mk (by kernel_rfl), true, rfl, h⟩
         · refine Yl h fun v52 h => ?_
           refine Yf [.sure, .plain] [2, 3, 5, 54] ?_
           exact ⟨_, Sub.mk (by kernel_rfl), (((l_.len : Nat) : Int) != v52), rfl, h⟩
       · rintro _ w6 ⟨t54, rfl, h⟩
         unfold F_towpathlaw18_DumpParts_k1 at h
         refine Yc h (fun h => ?_) fun h => ?_
         · refine Yp P1 [4] ?_
           exact YS ⟨false, rfl, h⟩
         · refine Yskip ?_
           refine Yt ?_
           refine Yn P2 ?_
           obtain ⟨h0, h1, h2, h⟩ := h
           refine reg_makeSlice (t := 25) (e := 3) (lo := (Operand.tmp 56)) (co := (Operand.tmp 56)) (l := ((l_.len : Nat) : Int)) (c := ((l_.len : Nat) : Int)) (sz := 1) (by_ := 8) (zs := [Value.int .i64 0]) (ty := 25) (dst := some 57) (by kernel_rfl) (by kernel_rfl) (by kernel_rfl) (by kernel_rfl) (by kernel_rfl) (by kernel_rfl) (by kernel_rfl) (by kernel_rfl) (by kernel_rfl) h0 h1 h2 (fun b_2 w7 hb hw => ?_)
           replace h := h b_2 w7 hb hw
           clear hb hw
           refine Yf P1 [2, 3, 5, 7] ?_
           refine Ys ?_
           refine Yp P1 [2, 3, 5, 7, 8] ?_
           refine Yd 0 ?_
           obtain ⟨I, μ, h0, hr⟩ := h
           refine Yloop (fun m l w => ∃ (i : Int), l = [(2, pv_ b_), (3, pv_ b_1), (5, sv_ l_), (7, Value.slice (some ⟨b_2, 0, none⟩) (((l_.len : Nat) : Int).toNat) (((l_.len : Nat) : Int).toNat)), (8, Value.int .i64 i)] ∧ I i w ∧ μ i w = m) ⟨0, rfl, h0, rfl⟩ ?_
           rintro _ _ w8 ⟨i, rfl, hI, rfl⟩
           obtain ⟨again_, again__h, h⟩ : ∃ again_ : Int → World → Prop, (∀ i' w', again_ i' w' → I i' w' ∧ μ i' w' < μ i w8) ∧ F_towpathlaw18_DumpParts_L2 R b_ b_1 l_ b_2 again_ i w8 := ⟨_, fun _ _ h => h, hr i w8 hI⟩
           clear h0 hI
           unfold F_towpathlaw18_DumpParts_L2 at h
           refine Ys ?_
           refine Yt ?_
           refine Yn P2 ?_
           refine Yl h fun v60 h => ?_
           refine Yf P2 [2, 3, 5, 7, 8, 62] ?_
           refine Yc h (fun h => ?_) fun h => ?_
           · refine Yskip ?_
             refine Ys ?_
             refine Yd 1 ?_
             refine Ys ?_
             refine wpE_mixregion (id := 10) (ops := r8_45) o_towpathlaw18_DumpParts_45 (by kernel_rfl) (by kernel_rfl) (by kernel_rfl) (by kernel_rfl) (fun w9 hw => ?_)
             replace h := h w9 hw
             clear hw
             refine ML 0 h fun v66 hc h => ?_
             refine Mn P1 ?_
             refine Ml 2 h fun v68 hc h => ?_
             refine Mn P1 ?_
             obtain ⟨hp_55, h⟩ := h
             refine Mu 68 (fun pp => .slice pp v68.len v68.cap) hp_55 ?_
             refine Mi 4 h fun h => ?_
             refine Mn P1 ?_
             refine Ml 6 h fun v72 hc h => ?_
             refine mreg_enter (op := (Op.call (Call.mk (Callee.value (Operand.func 32)) #[(Operand.tmp 66), (Operand.tmp 72)] #[63, 9]))) (ty := 69) (dst := some 73) 7 [0, 6, 5, 4, 2, 3, 1] [] 32 #[Value.agg #[Value.int .i64 v66.Lanes, Value.int .i64 v66.Shards, Value.int .i64 v66.Window, Value.int .i64 v66.Queue], Value.string v72] (by kernel_rfl) (by kernel_rfl) (by kernel_rfl) (by kernel_rfl) (by kernel_rfl) (fun ww => by kernel_rfl) (Calls.mono h ?_)
             rintro _ w10 ⟨n_, f, rfl, h⟩
             refine ⟨_, rfl, trivial, ?_⟩
             refine Mf (Pl 5) [2, 3, 5, 7, 8, 9, 10] ?_
             refine Ys ?_
             refine Ycut (fun l w => ∃ (t108 : Bool), l = [(2, pv_ b_), (3, pv_ b_1), (5, sv_ l_), (7, Value.slice (some ⟨b_2, 0, none⟩) (((l_.len : Nat) : Int).toNat) (((l_.len : Nat) : Int).toNat)), (8, Value.int .i64 i), (9, Value.int .i64 n_), (108, Value.bool t108)] ∧ F_towpathlaw18_DumpParts_k3 R l_ b_2 i again_ n_ t108 w) ?_ ?_
             · refine wpE_mixregion (id := 11) (ops := r8_49) o_towpathlaw18_DumpParts_49 (by kernel_rfl) (by kernel_rfl) (by kernel_rfl) (by kernel_rfl) (fun w13 hw => ?_)
               replace h := h w13 hw
               clear hw
               refine Mn (Pl 5) ?_
               refine Mspl 78 h (fun h => ?_) fun h => ?_
               · refine Mf [.skip, .skip, .skip, .skip, .skip, .skip, .skip, .skip, .plain, .plain, .skip, .skip, .skip, .skip, .skip, .skip, .skip, .skip, .skip, .skip, .skip, .skip, .skip, .skip, .skip, .skip, .skip, .plain] [2, 3, 5, 7, 8, 9, 108] ?_
                 exact ⟨_, Sub.mk (by kernel_rfl), true, rfl, h⟩
               · refine Mi1 5 h fun h => ?_
                 refine Ml 6 h fun v82 hc h => ?_
                 refine Mn [.sure, .sure] ?_
                 obtain ⟨hp_68, h⟩ := h
                 refine Mu 83 (fun pp => .slice pp l_.len l_.cap) hp_68 ?_
                 refine Mi1 9 h fun h => ?_
                 refine Ml 10 h fun v86 hc h => ?_
                 refine Mn [.sure, .sure, .plain, .plain, .plain, .plain] ?_
                 refine Mspl 90 h (fun h => ?_) fun h => ?_
                 · refine Mf [.skip, .skip, .skip, .skip, .skip, .skip, .skip, .skip, .skip, .skip, .skip, .skip, .skip, .skip, .skip, .plain] [2, 3, 5, 7, 8, 9, 108] ?_
                   exact ⟨_, Sub.mk (by kernel_rfl), true, rfl, h⟩
                 · obtain ⟨hp_69, h⟩ := h
                   refine Mu 91 (fun pp => .slice pp l_.len l_.cap) hp_69 ?_
                   refine Mi1 17 h fun h => ?_
                   refine Ml 18 h fun v94 hc h => ?_
                   refine Mn [.sure, .sure] ?_
                   refine Mi1 21 h fun h => ?_
                   refine Ml 22 h fun v98 hc h => ?_
                   obtain ⟨hp_70, h⟩ := h
                   refine Mu 94 (fun pp => .slice pp v94.len v94.cap) hp_70 ?_
                   refine Mi 23 h fun h => ?_
                   refine ML 24 h fun v100 hc h => ?_
                   refine Mn [.sure] ?_
                   refine Ml 26 h fun v102 hc h => ?_
                   refine Mn [.sure] ?_
                   obtain ⟨hp_71, h⟩ := h
                   refine Mu 102 (fun pp => .slice pp v102.len v102.cap) hp_71 ?_
                   refine Mi 28 h fun h => ?_
                   refine ML 29 h fun v105 hc h => ?_
                   refine mreg_enter (op := (Op.call (Call.mk (Callee.value (Operand.func 33)) #[(Operand.tmp 100), (Operand.tmp 105)] #[73, 73]))) (ty := 4) (dst := some 106) 30 [14, 24, 29, 2, 13, 23, 28, 1, 12, 18, 22, 26, 27, 0, 6, 11, 17, 21, 25, 5, 10, 15, 16, 19, 20, 3, 4, 9, 7, 8] [] 33 #[Value.agg #[Value.string v100.Key, sv_ v100.Versions], Value.agg #[Value.string v105.Key, sv_ v105.Versions]] (by kernel_rfl) (by kernel_rfl) (by kernel_rfl) (by kernel_rfl) (by kernel_rfl) (fun ww => by kernel_rfl) (Calls.mono h ?_)
                   rintro _ w14 ⟨v106, rfl, h⟩
                   refine ⟨_, rfl, trivial, ?_⟩
                   refine Mf [.sure, .plain] [2, 3, 5, 7, 8, 9, 108] ?_
                   exact ⟨_, Sub.mk (by kernel_rfl), (!v106), rfl, h⟩
             · rintro _ w11 ⟨t108, rfl, h⟩
               unfold F_towpathlaw18_DumpParts_k3 at h
               refine Yc h (fun h => ?_) fun h => ?_
               · refine Yp P1 [4] ?_
                 exact YS ⟨false, rfl, h⟩
               · refine Yskip ?_
                 refine Yr ?_
                 refine Yn P2 ?_
                 refine Yi1 h fun h => ?_
                 refine Yl h fun v112 h => ?_
                 refine Yn P1 ?_
                 refine Yi1 h fun h => ?_
                 refine Yo h fun w12 h => ?_
                 refine Yf [] [2, 3, 5, 7, 8] ?_
                 refine Yr ?_
                 refine Yf P3 [2, 3, 5, 7, 8] ?_
                 have hb_ := again__h _ _ h
                 exact ⟨_, hb_.2, _, Sub.mk (by kernel_rfl), (IntKind.i64.wrap (i + 1)), rfl, hb_.1, rfl⟩
           · refine Yexit 0 ?_
             refine Yt ?_
             refine Yn P1 ?_
             refine Yl h fun v117 h => ?_
             refine Ym2 h fun whole g w15 h => ?_
             refine Yf (Pl 5) [3, 5, 7, 11, 12] ?_
             refine Ys ?_
             refine Yp P2 [3, 5, 7, 11, 122] ?_
             refine Yc h (fun h => ?_) fun h => ?_
             · refine Yp P1 [4] ?_
               exact YS ⟨false, rfl, h⟩
             · refine Yskip ?_
               refine Ys ?_
               refine Yp P1 [3, 5, 7, 11, 13] ?_
               refine Yd 2 ?_
               obtain ⟨I, μ, h0, hr⟩ := h
               refine Yloop (fun m l w => ∃ (n_1 : Int), l = [(3, pv_ b_1), (5, sv_ l_), (7, Value.slice (some ⟨b_2, 0, none⟩) (((l_.len : Nat) : Int).toNat) (((l_.len : Nat) : Int).toNat)), (11, Value.pointer whole), (13, Value.int .i64 n_1)] ∧ I n_1 w ∧ μ n_1 w = m) ⟨0, rfl, h0, rfl⟩ ?_
               rintro _ _ w16 ⟨n_1, rfl, hI, rfl⟩
               obtain ⟨again_1, again_1_h, h⟩ : ∃ again_1 : Int → World → Prop, (∀ n_1' w', again_1 n_1' w' → I n_1' w' ∧ μ n_1' w' < μ n_1 w16) ∧ F_towpathlaw18_DumpParts_L4 R b_1 l_ b_2 whole again_1 n_1 w16 := ⟨_, fun _ _ h => h, hr n_1 w16 hI⟩
               clear h0 hI
               unfold F_towpathlaw18_DumpParts_L4 at h
               refine Ys ?_
               refine Yp P4 [3, 5, 7, 11, 13, 126] ?_
               refine Yc h (fun h => ?_) fun h => ?_
               · refine Yskip ?_
                 refine Ys ?_
                 refine Yd 3 ?_
                 refine Yt ?_
                 refine Yn P2 ?_
                 obtain ⟨hp_151, h⟩ := h
                 refine Yu 130 (fun pp => .slice pp l_.len l_.cap) hp_151 ?_
                 refine Yi1 h fun h => ?_
                 refine Yl h fun v133 h => ?_
                 refine Ym2 h fun x f1 w17 h => ?_
                 refine Yf (Pl 5) [3, 5, 7, 11, 13, 14, 15] ?_
                 refine Ys ?_
                 refine Ycut (fun l w => ∃ (t150 : Bool), l = [(3, pv_ b_1), (5, sv_ l_), (7, Value.slice (some ⟨b_2, 0, none⟩) (((l_.len : Nat) : Int).toNat) (((l_.len : Nat) : Int).toNat)), (11, Value.pointer whole), (13, Value.int .i64 n_1), (14, Value.pointer x), (150, Value.bool t150)] ∧ F_towpathlaw18_DumpParts_k5 R b_1 l_ whole n_1 again_1 x t150 w) ?_ ?_
                 · refine wpE_drawregion (id := 21) (ops := r8_94) (by kernel_rfl) (by kernel_rfl) (by kernel_rfl) ?_
                   refine Qn (Pl 5) ?_
                   refine Qspl 139 h (fun h => ?_) fun h => ?_
                   · refine Qf [.skip, .skip, .skip, .skip, .skip, .skip, .skip, .skip, .plain] [3, 5, 7, 11, 13, 14, 150] h fun w24 h => ?_
                     exact ⟨_, Sub.mk (by kernel_rfl), true, rfl, h⟩
                   · refine Qi1 h fun h => ?_
                     refine Ql h fun v143 h => ?_
                     refine Qn [.sure, .sure] ?_
                     obtain ⟨hp_175, h⟩ := h
                     refine Qu 144 (fun pp => .slice pp l_.len l_.cap) hp_175 ?_
                     refine Qi1 h fun h => ?_
                     refine Ql h fun v147 h => ?_
                     refine Qf [.sure, .sure, .plain] [3, 5, 7, 11, 13, 14, 150] h fun w25 h => ?_
                     exact ⟨_, Sub.mk (by kernel_rfl), (v143 != ((v147.len : Nat) : Int)), rfl, h⟩
                 · rintro _ w18 ⟨t150, rfl, h⟩
                   unfold F_towpathlaw18_DumpParts_k5 at h
                   refine Yc h (fun h => ?_) fun h => ?_
                   · refine Yp P1 [4] ?_
                     exact YS ⟨false, rfl, h⟩
                   · refine Yskip ?_
                     refine Yp P1 [3, 5, 7, 11, 13, 14, 16] ?_
                     refine Yd 4 ?_
                     obtain ⟨I, μ, h0, hr⟩ := h
                     refine Yloop (fun m l w => ∃ (i1 : Int), l = [(3, pv_ b_1), (5, sv_ l_), (7, Value.slice (some ⟨b_2, 0, none⟩) (((l_.len : Nat) : Int).toNat) (((l_.len : Nat) : Int).toNat)), (11, Value.pointer whole), (13, Value.int .i64 n_1), (14, Value.pointer x), (16, Value.int .i64 i1)] ∧ I i1 w ∧ μ i1 w = m) ⟨0, rfl, h0, rfl⟩ ?_
                     rintro _ _ w19 ⟨i1, rfl, hI, rfl⟩
                     obtain ⟨again_2, again_2_h, h⟩ : ∃ again_2 : Int → World → Prop, (∀ i1' w', again_2 i1' w' → I i1' w' ∧ μ i1' w' < μ i1 w19) ∧ F_towpathlaw18_DumpParts_L6 R b_1 l_ whole n_1 again_1 x again_2 i1 w19 := ⟨_, fun _ _ h => h, hr i1 w19 hI⟩
                     clear h0 hI
                     unfold F_towpathlaw18_DumpParts_L6 at h
                     refine Ys ?_
                     refine Yt ?_
                     refine Yn P3 ?_
                     obtain ⟨hp_158, h⟩ := h
                     refine Yu 152 (fun pp => .slice pp l_.len l_.cap) hp_158 ?_
                     refine Yi1 h fun h => ?_
                     refine Yl h fun v155 h => ?_
                     refine Yf P2 [3, 5, 7, 11, 13, 14, 16, 157] ?_
                     refine Yc h (fun h => ?_) fun h => ?_
                     · refine Yskip ?_
                       refine Ys ?_
                       refine Yd 5 ?_
                       refine Ys ?_
                       refine wpE_mixregion (id := 26) (ops := r8_117) o_towpathlaw18_DumpParts_117 (by kernel_rfl) (by kernel_rfl) (by kernel_rfl) (by kernel_rfl) (fun w20 hw => ?_)
                       replace h := h w20 hw
                       clear hw
                       refine Mn P3 ?_
                       obtain ⟨hp_169, h⟩ := h
                       refine Mu 162 (fun pp => .slice pp l_.len l_.cap) hp_169 ?_
                       refine Mi1 3 h fun h => ?_
                       refine Ml 4 h fun v165 hc h => ?_
                       refine Mn P1 ?_
                       obtain ⟨hp_170, h⟩ := h
                       refine Mu 165 (fun pp => .slice pp v165.len v165.cap) hp_170 ?_
                       refine Mi 6 h fun h => ?_
                       refine Mn P1 ?_
                       refine Ml 8 h fun v169 hc h => ?_
                       refine Mn P1 ?_
                       refine Ml 10 h fun v171 hc h => ?_
                       refine mreg_enter (op := (Op.call (Call.mk (Callee.value (Operand.func 35)) #[(Operand.tmp 161), (Operand.tmp 169), (Operand.tmp 171)] #[75, 9, 3]))) (ty := 78) (dst := some 172) 11 [0, 8, 10, 7, 9, 6, 4, 5, 3, 1, 2] [] 35 #[Value.pointer x, Value.string v169, Value.int .i64 v171] (by kernel_rfl) (by kernel_rfl) (by kernel_rfl) (by kernel_rfl) (by kernel_rfl) (fun ww => by kernel_rfl) (Calls.mono h ?_)
                       rintro _ w21 ⟨v, ok, rfl, h⟩
                       refine ⟨_, rfl, trivial, ?_⟩
                       refine Mf (Pl 5) [3, 5, 7, 11, 13, 14, 16, 17, 18] ?_
                       refine Ys ?_
                       refine wpE_mixregion (id := 27) (ops := r8_120) o_towpathlaw18_DumpParts_120 (by kernel_rfl) (by kernel_rfl) (by kernel_rfl) (by kernel_rfl) (fun w22 hw => ?_)
                       replace h := h w22 hw
                       clear hw
                       refine Mn P3 ?_
                       obtain ⟨hp_173, h⟩ := h
                       refine Mu 177 (fun pp => .slice pp l_.len l_.cap) hp_173 ?_
                       refine Mi1 3 h fun h => ?_
                       refine Ml 4 h fun v180 hc h => ?_
                       refine Mn P1 ?_
                       obtain ⟨hp_174, h⟩ := h
                       refine Mu 180 (fun pp => .slice pp v180.len v180.cap) hp_174 ?_
                       refine Mi 6 h fun h => ?_
                       refine Mn P1 ?_
                       refine Ml 8 h fun v184 hc h => ?_
                       refine Mn P1 ?_
                       refine Ml 10 h fun v186 hc h => ?_
                       refine mreg_enter (op := (Op.call (Call.mk (Callee.value (Operand.func 35)) #[(Operand.tmp 176), (Operand.tmp 184), (Operand.tmp 186)] #[75, 9, 3]))) (ty := 78) (dst := some 187) 11 [0, 8, 10, 7, 9, 6, 4, 5, 3, 1, 2] [] 35 #[Value.pointer whole, Value.string v184, Value.int .i64 v186] (by kernel_rfl) (by kernel_rfl) (by kernel_rfl) (by kernel_rfl) (by kernel_rfl) (fun ww => by kernel_rfl) (Calls.mono h ?_)
                       rintro _ w23 ⟨w_, is, rfl, h⟩
                       refine ⟨_, rfl, trivial, ?_⟩
                       refine Mf (Pl 5) [3, 5, 7, 11, 13, 14, 16, 17, 18, 19, 20] ?_
                       refine Yp [.plain, .plain, .plain, .plain, .plain, .plain, .plain, .pick] [3, 5, 7, 11, 13, 14, 16, 197] ?_
                       refine Yc h (fun h => ?_) fun h => ?_
                       · refine Yp P1 [4] ?_
                         exact YS ⟨false, rfl, h⟩
                       · refine Yskip ?_
                         refine Yr ?_
                         refine Yf P3 [3, 5, 7, 11, 13, 14, 16] ?_
                         have hb_ := again_2_h _ _ h
                         exact ⟨_, hb_.2, _, Sub.mk (by kernel_rfl), (IntKind.i64.wrap (i1 + 1)), rfl, hb_.1, rfl⟩
                     · refine Yexit 4 ?_
                       refine Yr ?_
                       refine Yf P3 [3, 5, 7, 11, 13] ?_
                       have hb_ := again_1_h _ _ h
                       exact ⟨_, hb_.2, _, Sub.mk (by kernel_rfl), (IntKind.i64.wrap (n_1 + 1)), rfl, hb_.1, rfl⟩
               · refine Yexit 2 ?_
                 refine Yp P1 [4] ?_
                 exact YS ⟨true, rfl, h⟩
end
end Go.Proofs.Ytpdegdnigcnjiaa
