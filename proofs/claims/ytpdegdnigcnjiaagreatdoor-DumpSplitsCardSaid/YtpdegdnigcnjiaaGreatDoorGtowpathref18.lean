/- WRITTEN BY PROGRAM (dec.py): for each Go function the clean formula F, the call's contract C, and the proof S that F gives C. -/
import Derived.Test.YtpdegdnigcnjiaaGreatDoorRows
import Derived.Test.YtpdegdnigcnjiaaGreatDoorGF
namespace Go.Proofs.YtpdegdnigcnjiaaGreatDoor
open Go
set_option linter.unusedVariables false
set_option maxRecDepth 100000
set_option maxHeartbeats 4000000
noncomputable section

/-! ### towpath/towpathref18.Split (function 28) -/
def c28_0 := cb_ Tryz.f28
def c28_3 := cr_ c28_0
def c28_13 := cr_ c28_3
def c28_23 := cr_ c28_13
def c28_26 := cr_ c28_23
def c28_27 := cl_ c28_26
def c28_30 := cr_ c28_27
def c28_31 := cl_ c28_30
def c28_32 := cl_ c28_31
def c28_39 := cr_ c28_32
def c28_40 := cl_ c28_39
def c28_41 := cl_ c28_40
def c28_44 := cr_ c28_41
def c28_45 := cl_ c28_44
def c28_48 := cr_ c28_45
def c28_49 := cl_ c28_48
def c28_50 := cl_ c28_49
def c28_57 := cr_ c28_50
def c28_58 := cl_ c28_57
def c28_59 := cl_ c28_58
def c28_60 := cl_ c28_59
def r28_60 := co_ c28_60
def o_towpathref18_Split_60 : List Nat := [0, 1, 2, 3, 4, 5, 6, 7, 8, 9, 10, 11, 12]

theorem S_towpathref18_Split {c : T_api_Config} {s : T_api_Saved} {w : World} {R : Slc → Int → World → Prop} (h : F_towpathref18_Split c s R w) : C_towpathref18_Split c s w R := by
 unfold F_towpathref18_Split at h
 refine Yh Tryz.func28 ?_
 · refine Yt ?_
   refine Yw pv_ h fun b_ w1 h => ?_
   refine Yw pv_ h fun b_1 w2 h => ?_
   refine Yf P2 [2, 3] ?_
   refine Ys ?_
   refine Yt ?_
   refine YL h fun v12 h => ?_
   refine Ym1 h fun v13 w3 h => ?_
   refine Yf P1 [2, 3, 14] ?_
   refine Yc h (fun h => ?_) fun h => ?_
   · refine Yp P2 [4, 5] ?_
     exact YT2 ⟨(Slc.mk none 0 0), 7, rfl, h⟩
   · refine Yskip ?_
     refine Ys ?_
     refine Yt ?_
     refine YL h fun v15 h => ?_
     refine Ym1 h fun v16 w4 h => ?_
     refine Yf P1 [2, 3, 17] ?_
     refine Yc h (fun h => ?_) fun h => ?_
     · refine Yp P2 [4, 5] ?_
       exact YT2 ⟨(Slc.mk none 0 0), 1, rfl, h⟩
     · refine Yskip ?_
       refine Yp P1 [2, 3, 6] ?_
       refine Ys ?_
       refine Yp P1 [2, 3, 6, 7] ?_
       refine Yd 0 ?_
       obtain ⟨I, μ, h0, hr⟩ := h
       refine Yloop (fun m l w => ∃ (out : Slc) (n_ : Int), l = [(2, pv_ b_), (3, pv_ b_1), (6, sv_ out), (7, Value.int .i64 n_)] ∧ I out n_ w ∧ μ out n_ w = m) ⟨(Slc.mk none 0 0), 0, rfl, h0, rfl⟩ ?_
       rintro _ _ w5 ⟨out, n_, rfl, hI, rfl⟩
       obtain ⟨again_, again__h, h⟩ : ∃ again_ : Slc → Int → World → Prop, (∀ out' n_' w', again_ out' n_' w' → I out' n_' w' ∧ μ out' n_' w' < μ out n_ w5) ∧ F_towpathref18_Split_L0 R b_ b_1 again_ out n_ w5 := ⟨_, fun _ _ _ h => h, hr out n_ w5 hI⟩
       clear h0 hI
       unfold F_towpathref18_Split_L0 at h
       refine Ys ?_
       refine Yt ?_
       refine Yn P2 ?_
       refine Yl h fun v20 h => ?_
       refine Yf P1 [2, 3, 6, 7, 21] ?_
       refine Yc h (fun h => ?_) fun h => ?_
       · refine Yskip ?_
         refine Ys ?_
         refine Yd 1 ?_
         refine Yp P1 [2, 3, 6, 7, 8] ?_
         refine Ys ?_
         refine Yp P1 [2, 3, 6, 7, 8, 9] ?_
         refine Yd 2 ?_
         obtain ⟨I, μ, h0, hr⟩ := h
         refine Yloop (fun m l w => ∃ (l_ : Slc) (i : Int), l = [(2, pv_ b_), (3, pv_ b_1), (6, sv_ out), (7, Value.int .i64 n_), (8, sv_ l_), (9, Value.int .i64 i)] ∧ I l_ i w ∧ μ l_ i w = m) ⟨(Slc.mk none 0 0), 0, rfl, h0, rfl⟩ ?_
         rintro _ _ w6 ⟨l_, i, rfl, hI, rfl⟩
         obtain ⟨again_1, again_1_h, h⟩ : ∃ again_1 : Slc → Int → World → Prop, (∀ l_' i' w', again_1 l_' i' w' → I l_' i' w' ∧ μ l_' i' w' < μ l_ i w6) ∧ F_towpathref18_Split_L1 b_ b_1 out n_ again_ again_1 l_ i w6 := ⟨_, fun _ _ _ h => h, hr l_ i w6 hI⟩
         clear h0 hI
         unfold F_towpathref18_Split_L1 at h
         refine Ys ?_
         refine Yt ?_
         refine Yn P2 ?_
         refine Yl h fun v26 h => ?_
         refine Yf P2 [2, 3, 6, 7, 8, 9, 28] ?_
         refine Yc h (fun h => ?_) fun h => ?_
         · refine Yskip ?_
           refine Ycut (fun l w => ∃ (l_1 : Slc), l = [(2, pv_ b_), (3, pv_ b_1), (6, sv_ out), (7, Value.int .i64 n_), (8, sv_ l_1), (9, Value.int .i64 i)] ∧ F_towpathref18_Split_k2 i again_1 l_1 w) ?_ ?_
           · refine Yd 3 ?_
             refine Ys ?_
             refine wpE_mixregion (id := 13) (ops := r28_60) o_towpathref18_Split_60 (by kernel_rfl) (by kernel_rfl) (by kernel_rfl) (by kernel_rfl) (fun w8 hw => ?_)
             replace h := h w8 hw
             clear hw
             refine ML 0 h fun v32 hc h => ?_
             refine Mn P1 ?_
             refine Ml 2 h fun v34 hc h => ?_
             refine Mn P1 ?_
             obtain ⟨hp_46, h⟩ := h
             refine Mu 34 (fun pp => .slice pp v34.len v34.cap) hp_46 ?_
             refine Mi 4 h fun h => ?_
             refine Mn P1 ?_
             refine Ml 6 h fun v38 hc h => ?_
             refine mreg_enter (op := (Op.call (Call.mk (Callee.value (Operand.func 96)) #[(Operand.tmp 32), (Operand.tmp 38)] #[65, 9]))) (ty := 105) (dst := some 39) 7 [0, 6, 5, 4, 2, 3, 1] [] 96 #[Value.agg #[Value.int .i64 v32.Lanes, Value.int .i64 v32.Shards, Value.int .i64 v32.Window, Value.int .i64 v32.Queue], Value.string v38] (by kernel_rfl) (by kernel_rfl) (by kernel_rfl) (by kernel_rfl) (by kernel_rfl) (fun ww => by kernel_rfl) (Calls.mono h ?_)
             rintro _ w9 ⟨shard, v39_1, rfl, h⟩
             refine ⟨_, rfl, trivial, ?_⟩
             refine Mf (Pl 5) [2, 3, 6, 7, 8, 9, 10] ?_
             refine Yp P3 [2, 3, 6, 7, 8, 9, 44] ?_
             refine Yc h (fun h => ?_) fun h => ?_
             · refine Yr ?_
               refine Yn P2 ?_
               refine Yl h fun v47 h => ?_
               refine Yn P1 ?_
               obtain ⟨hp_47, h⟩ := h
               refine Yu 47 (fun pp => .slice pp v47.len v47.cap) hp_47 ?_
               refine Yi h fun h => ?_
               refine YL h fun v50 h => ?_
               refine Yw (sl_ 1 1) h fun b_2 w10 h => ?_
               obtain ⟨src, hs, h⟩ := h
               refine reg_append (t := 66) (tx := 66) (e := 104) (a := (Operand.tmp 45)) (xo := (Operand.tmp 51)) (s := l_) (x := (Slc.mk (some ⟨b_2, 0, none⟩) 1 1)) (sz := 2) (by_ := 40) (zs := [Value.string ByteArray.empty, Value.slice none 0 0]) (ty := 66) (dst := some 52)  src (by kernel_rfl) (by kernel_rfl) (by kernel_rfl) (by kernel_rfl) (by kernel_rfl) (by kernel_rfl) (by kernel_rfl) (by kernel_rfl) (by kernel_rfl) hs (AppendW.mono h (fun l_2 w11 h => ?_))
               refine Yf P1 [2, 3, 6, 7, 8, 9] ?_
               exact ⟨_, Sub.mk (by kernel_rfl), l_2, rfl, h⟩
             · refine Yskip ?_
               exact ⟨_, Sub.mk (by kernel_rfl), l_, rfl, h⟩
           · rintro _ w7 ⟨l_1, rfl, h⟩
             unfold F_towpathref18_Split_k2 at h
             refine Yr ?_
             refine Yf P3 [2, 3, 6, 7, 8, 9] ?_
             have hb_ := again_1_h _ _ _ h
             exact ⟨_, hb_.2, _, Sub.mk (by kernel_rfl), l_1, (IntKind.i64.wrap (i + 1)), rfl, hb_.1, rfl⟩
         · refine Yexit 2 ?_
           refine Yr ?_
           refine Yn P2 ?_
           refine Ym1 h fun v55 w12 h => ?_
           refine Yw (sl_ 1 1) h fun b_3 w13 h => ?_
           obtain ⟨src, hs, h⟩ := h
           refine reg_append (t := 71) (tx := 71) (e := 66) (a := (Operand.tmp 53)) (xo := (Operand.tmp 56)) (s := out) (x := (Slc.mk (some ⟨b_3, 0, none⟩) 1 1)) (sz := 1) (by_ := 24) (zs := [Value.slice none 0 0]) (ty := 71) (dst := some 57)  src (by kernel_rfl) (by kernel_rfl) (by kernel_rfl) (by kernel_rfl) (by kernel_rfl) (by kernel_rfl) (by kernel_rfl) (by kernel_rfl) (by kernel_rfl) hs (AppendW.mono h (fun out1 w14 h => ?_))
           refine Yf P1 [2, 3, 6, 7] ?_
           refine Yr ?_
           refine Yf P3 [2, 3, 6, 7] ?_
           have hb_ := again__h _ _ _ h
           exact ⟨_, hb_.2, _, Sub.mk (by kernel_rfl), out1, (IntKind.i64.wrap (n_ + 1)), rfl, hb_.1, rfl⟩
       · refine Yexit 0 ?_
         refine Yp P3 [4, 5] ?_
         exact YT2 ⟨out, 0, rfl, h⟩

/-! ### towpath/towpathref18.Check (function 95) -/
def c95_0 := cb_ Tryz.f95
def c95_3 := cr_ c95_0
def c95_13 := cr_ c95_3
def c95_14 := cl_ c95_13
def c95_17 := cr_ c95_14
def c95_18 := cl_ c95_17
def c95_19 := cl_ c95_18
def c95_26 := cr_ c95_19
def c95_27 := cl_ c95_26
def c95_28 := cl_ c95_27
def c95_31 := cr_ c95_28
def c95_34 := cr_ c95_31
def c95_35 := cl_ c95_34
def c95_36 := cl_ c95_35
def c95_43 := cr_ c95_36
def c95_44 := cl_ c95_43
def c95_45 := cl_ c95_44
def c95_46 := cl_ c95_45
def r95_46 := co_ c95_46
def c95_48 := cr_ c95_45
def c95_58 := cr_ c95_48
def c95_59 := cl_ c95_58
def r95_59 := co_ c95_59
def o_towpathref18_Check_59 : List Nat := [0, 1, 2, 3, 4, 5, 6, 7, 8]

theorem S_towpathref18_Check {s : T_api_Saved} {w : World} {R : Int → World → Prop} (h : F_towpathref18_Check s R w) : C_towpathref18_Check s w R := by
 unfold F_towpathref18_Check at h
 refine Yh Tryz.func95 ?_
 · refine Yt ?_
   refine Yw pv_ h fun b_ w1 h => ?_
   refine Yf P1 [1] ?_
   refine Ys ?_
   refine Ycut (fun l w => ∃ (t17 : Bool), l = [(1, pv_ b_), (17, Value.bool t17)] ∧ F_towpathref18_Check_k0 R b_ t17 w) ?_ ?_
   · refine Yr ?_
     refine Yn P1 ?_
     refine Yl h fun v7 h => ?_
     refine Yn P1 ?_
     refine Yl h fun v9 h => ?_
     refine Ym1 h fun v10 w10 h => ?_
     refine Yn P3 ?_
     refine Yspl 12 h (fun h => ?_) fun h => ?_
     · refine Yf [.skip, .skip, .skip, .plain] [1, 17] ?_
       exact ⟨_, Sub.mk (by kernel_rfl), true, rfl, h⟩
     · refine Yl h fun v14 h => ?_
       refine Ym1 h fun v15 w11 h => ?_
       refine Yf [.sure, .plain] [1, 17] ?_
       exact ⟨_, Sub.mk (by kernel_rfl), (!v15), rfl, h⟩
   · rintro _ w2 ⟨t17, rfl, h⟩
     unfold F_towpathref18_Check_k0 at h
     refine Yc h (fun h => ?_) fun h => ?_
     · refine Yp P1 [2] ?_
       exact YS ⟨1, rfl, h⟩
     · refine Yskip ?_
       refine Ys ?_
       refine Yp P1 [1, 3] ?_
       refine Yd 0 ?_
       obtain ⟨I, μ, h0, hr⟩ := h
       refine Yloop (fun m l w => ∃ (i : Int), l = [(1, pv_ b_), (3, Value.int .i64 i)] ∧ I i w ∧ μ i w = m) ⟨0, rfl, h0, rfl⟩ ?_
       rintro _ _ w3 ⟨i, rfl, hI, rfl⟩
       obtain ⟨again_, again__h, h⟩ : ∃ again_ : Int → World → Prop, (∀ i' w', again_ i' w' → I i' w' ∧ μ i' w' < μ i w3) ∧ F_towpathref18_Check_L1 R b_ again_ i w3 := ⟨_, fun _ _ h => h, hr i w3 hI⟩
       clear h0 hI
       unfold F_towpathref18_Check_L1 at h
       refine Ys ?_
       refine Yt ?_
       refine Yn P2 ?_
       refine Yl h fun v20 h => ?_
       refine Yf P2 [1, 3, 22] ?_
       refine Yc h (fun h => ?_) fun h => ?_
       · refine Yskip ?_
         refine Ys ?_
         refine Yd 1 ?_
         refine Yt ?_
         refine Yn P1 ?_
         refine Yl h fun v26 h => ?_
         refine Yn P1 ?_
         obtain ⟨hp_43, h⟩ := h
         refine Yu 26 (fun pp => .slice pp v26.len v26.cap) hp_43 ?_
         refine Yi h fun h => ?_
         refine Yn P1 ?_
         refine Yl h fun v h => ?_
         refine Yf P1 [1, 3, 4] ?_
         refine Yp P1 [1, 3, 4, 5] ?_
         refine Yd 2 ?_
         obtain ⟨I, μ, h0, hr⟩ := h
         refine Yloop (fun m l w => ∃ (k_ : Int), l = [(1, pv_ b_), (3, Value.int .i64 i), (4, sv_ v), (5, Value.int .i64 k_)] ∧ I k_ w ∧ μ k_ w = m) ⟨0, rfl, h0, rfl⟩ ?_
         rintro _ _ w4 ⟨k_, rfl, hI, rfl⟩
         obtain ⟨again_1, again_1_h, h⟩ : ∃ again_1 : Int → World → Prop, (∀ k_' w', again_1 k_' w' → I k_' w' ∧ μ k_' w' < μ k_ w4) ∧ F_towpathref18_Check_L2 R b_ i again_ v again_1 k_ w4 := ⟨_, fun _ _ h => h, hr k_ w4 hI⟩
         clear h0 hI
         unfold F_towpathref18_Check_L2 at h
         refine Ys ?_
         refine Yp P4 [1, 3, 4, 5, 34] ?_
         refine Yc h (fun h => ?_) fun h => ?_
         · refine Yskip ?_
           refine Ycut (fun l w => l = [(1, pv_ b_), (3, Value.int .i64 i), (4, sv_ v), (5, Value.int .i64 k_)] ∧ F_towpathref18_Check_k3 k_ again_1 w) ?_ ?_
           · refine Yd 3 ?_
             refine Ys ?_
             refine wpE_drawregion (id := 10) (ops := r95_46) (by kernel_rfl) (by kernel_rfl) (by kernel_rfl) ?_
             refine Qn P2 ?_
             obtain ⟨hp_51, h⟩ := h
             refine Qu 37 (fun pp => .slice pp v.len v.cap) hp_51 ?_
             refine Qi h fun h => ?_
             refine Qn P1 ?_
             refine Ql h fun v41 h => ?_
             refine Qn P1 ?_
             refine Ql h fun v43 h => ?_
             refine Qf P1 [1, 3, 4, 5, 44] h fun w6 h => ?_
             refine Yc h (fun h => ?_) fun h => ?_
             · refine Ycut (fun l w => ∃ (t53 : Bool), l = [(1, pv_ b_), (3, Value.int .i64 i), (4, sv_ v), (5, Value.int .i64 k_), (53, Value.bool t53)] ∧ F_towpathref18_Check_k4 R k_ again_1 t53 w) ?_ ?_
               · refine Yr ?_
                 refine Yn (Pl 5) ?_
                 refine Yspl 47 h (fun h => ?_) fun h => ?_
                 · refine Yf [.skip, .skip, .skip, .plain] [1, 3, 4, 5, 53] ?_
                   exact ⟨_, Sub.mk (by kernel_rfl), true, rfl, h⟩
                 · obtain ⟨hp_53, h⟩ := h
                   refine Yu 48 (fun pp => .slice pp v.len v.cap) hp_53 ?_
                   refine Yi h fun h => ?_
                   refine Yn [.sure] ?_
                   refine Yl h fun v52 h => ?_
                   refine Yf P1 [1, 3, 4, 5, 53] ?_
                   exact ⟨_, Sub.mk (by kernel_rfl), v52, rfl, h⟩
               · rintro _ w7 ⟨t53, rfl, h⟩
                 unfold F_towpathref18_Check_k4 at h
                 refine Yc h (fun h => ?_) fun h => ?_
                 · refine Yp P1 [2] ?_
                   exact YS ⟨1, rfl, h⟩
                 · refine Yskip ?_
                   exact ⟨_, Sub.mk (by kernel_rfl), rfl, h⟩
             · refine Ys ?_
               refine wpE_mixregion (id := 13) (ops := r95_59) o_towpathref18_Check_59 (by kernel_rfl) (by kernel_rfl) (by kernel_rfl) (by kernel_rfl) (fun w8 hw => ?_)
               replace h := h w8 hw
               clear hw
               refine Mn P1 ?_
               refine Ml 1 h fun v55 hc h => ?_
               refine Mn P2 ?_
               obtain ⟨hp_55, h⟩ := h
               refine Mu 56 (fun pp => .slice pp v.len v.cap) hp_55 ?_
               refine Mi 4 h fun h => ?_
               refine Mn P1 ?_
               refine Ml 6 h fun v60 hc h => ?_
               refine mreg_enter (op := (Op.call (Call.mk (Callee.value (Operand.func 156)) #[(Operand.tmp 55), (Operand.tmp 60)] #[23, 3]))) (ty := 4) (dst := some 61) 7 [1, 6, 0, 5, 4, 2, 3] [] 156 #[sv_ v55, Value.int .i64 v60] (by kernel_rfl) (by kernel_rfl) (by kernel_rfl) (by kernel_rfl) (by kernel_rfl) (fun ww => by kernel_rfl) (Calls.mono h ?_)
               rintro _ w9 ⟨v61, rfl, h⟩
               refine ⟨_, rfl, trivial, ?_⟩
               refine Mf P1 [1, 3, 4, 5, 62] ?_
               refine Yc h (fun h => ?_) fun h => ?_
               · refine Yp P1 [2] ?_
                 exact YS ⟨1, rfl, h⟩
               · refine Yskip ?_
                 exact ⟨_, Sub.mk (by kernel_rfl), rfl, h⟩
           · rintro _ w5 ⟨rfl, h⟩
             unfold F_towpathref18_Check_k3 at h
             refine Yr ?_
             refine Yf P3 [1, 3, 4, 5] ?_
             have hb_ := again_1_h _ _ h
             exact ⟨_, hb_.2, _, Sub.mk (by kernel_rfl), (IntKind.i64.wrap (k_ + 1)), rfl, hb_.1, rfl⟩
         · refine Yexit 2 ?_
           refine Yr ?_
           refine Yf P3 [1, 3] ?_
           have hb_ := again__h _ _ h
           exact ⟨_, hb_.2, _, Sub.mk (by kernel_rfl), (IntKind.i64.wrap (i + 1)), rfl, hb_.1, rfl⟩
       · refine Yexit 0 ?_
         refine Yp P1 [2] ?_
         exact YS ⟨0, rfl, h⟩

/-! ### towpath/towpathref18.among (function 156) -/

theorem S_towpathref18_among {l_ : Slc} {n_ : Int} {w : World} {R : Bool → World → Prop} (h : F_towpathref18_among l_ n_ R w) : C_towpathref18_among l_ n_ w R := by
 unfold F_towpathref18_among at h
 refine Yh Tryz.func156 ?_
 · refine Yp P1 [0, 1] ?_
   refine Ys ?_
   refine Yp P1 [0, 1, 5] ?_
   refine Yd 0 ?_
   obtain ⟨I, μ, h0, hr⟩ := h
   refine Yloop (fun m l w => ∃ (i : Int), l = [(0, sv_ l_), (1, Value.int .i64 n_), (5, Value.int .i64 i)] ∧ I i w ∧ μ i w = m) ⟨0, rfl, h0, rfl⟩ ?_
   rintro _ _ w1 ⟨i, rfl, hI, rfl⟩
   obtain ⟨again_, again__h, h⟩ : ∃ again_ : Int → World → Prop, (∀ i' w', again_ i' w' → I i' w' ∧ μ i' w' < μ i w1) ∧ F_towpathref18_among_L0 l_ n_ R again_ i w1 := ⟨_, fun _ _ h => h, hr i w1 hI⟩
   clear h0 hI
   unfold F_towpathref18_among_L0 at h
   refine Ys ?_
   refine Yp P4 [0, 1, 5, 9] ?_
   refine Yc h (fun h => ?_) fun h => ?_
   · refine Yskip ?_
     refine Ys ?_
     refine Yd 1 ?_
     refine Yt ?_
     refine Yn P2 ?_
     obtain ⟨hp_7, h⟩ := h
     refine Yu 12 (fun pp => .slice pp l_.len l_.cap) hp_7 ?_
     refine Yi1 h fun h => ?_
     refine Yl h fun v15 h => ?_
     refine Yf P2 [0, 1, 5, 17] ?_
     refine Yc h (fun h => ?_) fun h => ?_
     · refine Yp P1 [4] ?_
       exact YS ⟨true, rfl, h⟩
     · refine Yskip ?_
       refine Yr ?_
       refine Yf P3 [0, 1, 5] ?_
       have hb_ := again__h _ _ h
       exact ⟨_, hb_.2, _, Sub.mk (by kernel_rfl), (IntKind.i64.wrap (i + 1)), rfl, hb_.1, rfl⟩
   · refine Yexit 0 ?_
     refine Yp P1 [4] ?_
     exact YS ⟨false, rfl, h⟩
end
end Go.Proofs.YtpdegdnigcnjiaaGreatDoor
