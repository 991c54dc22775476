/- WRITTEN BY PROGRAM (dec.py): for each Go function the clean formula F, the call's contract C, and the proof S that F gives C. -/
import Derived.Test.YtpedclhflmhakaaRows
import Derived.Test.YtpedclhflmhakaaGF
namespace Go.Proofs.Ytpedclhflmhakaa
open Go
set_option linter.unusedVariables false
set_option maxRecDepth 100000
set_option maxHeartbeats 4000000
noncomputable section

/-! ### towpath/towpathlaw17.lives (function 30) -/

theorem S_towpathlaw17_lives {w : World} {R : Bool → World → Prop} (h : F_towpathlaw17_lives R w) : C_towpathlaw17_lives w R := by
 unfold F_towpathlaw17_lives at h
 refine Yh Try.func30 ?_
 · refine Yp P1 [] ?_
   refine Yt ?_
   refine Yn P1 ?_
   refine Yw pv_ h fun b_ w1 h => ?_
   refine Yo h fun w2 h => ?_
   refine Yf [] [1] ?_
   refine Yt ?_
   refine YL h fun v13 h => ?_
   refine Yn P1 ?_
   refine Ym2 h fun t_ e w3 h => ?_
   refine Yf (Pl 5) [2, 3] ?_
   refine Ys ?_
   refine Ycut (fun l w => ∃ (t24 : Bool), l = [(2, Value.pointer t_), (24, Value.bool t24)] ∧ F_towpathlaw17_lives_k0 R t_ t24 w) ?_ ?_
   · refine Yr ?_
     refine Yn P4 ?_
     refine Yspl 20 h (fun h => ?_) fun h => ?_
     · refine Yf [.skip, .skip, .plain] [2, 24] ?_
       exact ⟨_, Sub.mk (by kernel_rfl), true, rfl, h⟩
     · refine Ym1 h fun v22 w17 h => ?_
       refine Yf [.sure, .plain] [2, 24] ?_
       exact ⟨_, Sub.mk (by kernel_rfl), (v22 != 0), rfl, h⟩
   · rintro _ w4 ⟨t24, rfl, h⟩
     unfold F_towpathlaw17_lives_k0 at h
     refine Yc h (fun h => ?_) fun h => ?_
     · refine Yp P1 [0] ?_
       exact YS ⟨false, rfl, h⟩
     · refine Yskip ?_
       refine Yt ?_
       refine Yn P1 ?_
       refine Ym3 h fun k_ v27_1 ok w5 h => ?_
       refine Yn P4 ?_
       refine Yw pv_ h fun b_1 w6 h => ?_
       refine Yn P1 ?_
       refine Yo h fun w7 h => ?_
       refine Yf P1 [2, 4, 5, 6] ?_
       refine Ys ?_
       refine Ycut (fun l w => ∃ (t66 : Bool), l = [(2, Value.pointer t_), (66, Value.bool t66)] ∧ F_towpathlaw17_lives_k1 R t_ t66 w) ?_ ?_
       · refine Yr ?_
         refine Yn [.plain, .plain, .plain, .plain, .plain, .pick, .plain, .plain] ?_
         refine Yspl 37 h (fun h => ?_) fun h => ?_
         · refine Yf [.skip, .skip, .plain, .plain, .skip, .skip, .skip, .plain, .plain, .skip, .skip, .skip, .plain, .plain, .skip, .skip, .skip, .plain, .plain, .skip, .skip, .skip, .plain, .plain, .skip, .skip, .skip, .plain] [2, 66] ?_
           exact ⟨_, Sub.mk (by kernel_rfl), true, rfl, h⟩
         · refine Yl h fun v39 h => ?_
           refine Yn [.sure, .plain, .plain, .plain] ?_
           refine Yspl 42 h (fun h => ?_) fun h => ?_
           · refine Yf [.skip, .skip, .plain, .plain, .skip, .skip, .skip, .plain, .plain, .skip, .skip, .skip, .plain, .plain, .skip, .skip, .skip, .plain, .plain, .skip, .skip, .skip, .plain] [2, 66] ?_
             exact ⟨_, Sub.mk (by kernel_rfl), true, rfl, h⟩
           · refine Yl h fun v44 h => ?_
             refine Yn [.sure, .plain, .plain, .plain] ?_
             refine Yspl 47 h (fun h => ?_) fun h => ?_
             · refine Yf [.skip, .skip, .plain, .plain, .skip, .skip, .skip, .plain, .plain, .skip, .skip, .skip, .plain, .plain, .skip, .skip, .skip, .plain] [2, 66] ?_
               exact ⟨_, Sub.mk (by kernel_rfl), true, rfl, h⟩
             · refine Yl h fun v49 h => ?_
               refine Yn [.sure, .plain, .plain, .plain] ?_
               refine Yspl 52 h (fun h => ?_) fun h => ?_
               · refine Yf [.skip, .skip, .plain, .plain, .skip, .skip, .skip, .plain, .plain, .skip, .skip, .skip, .plain] [2, 66] ?_
                 exact ⟨_, Sub.mk (by kernel_rfl), true, rfl, h⟩
               · refine Ym1 h fun v54 w14 h => ?_
                 refine Yn [.sure, .plain, .plain, .plain] ?_
                 refine Yspl 57 h (fun h => ?_) fun h => ?_
                 · refine Yf [.skip, .skip, .plain, .plain, .skip, .skip, .skip, .plain] [2, 66] ?_
                   exact ⟨_, Sub.mk (by kernel_rfl), true, rfl, h⟩
                 · refine Ym1 h fun v59 w15 h => ?_
                   refine Yn [.sure, .plain, .plain, .plain] ?_
                   refine Yspl 62 h (fun h => ?_) fun h => ?_
                   · refine Yf [.skip, .skip, .plain] [2, 66] ?_
                     exact ⟨_, Sub.mk (by kernel_rfl), true, rfl, h⟩
                   · refine Ym1 h fun v64 w16 h => ?_
                     refine Yf [.sure, .plain] [2, 66] ?_
                     exact ⟨_, Sub.mk (by kernel_rfl), (v64 != 9), rfl, h⟩
       · rintro _ w8 ⟨t66, rfl, h⟩
         unfold F_towpathlaw17_lives_k1 at h
         refine Yc h (fun h => ?_) fun h => ?_
         · refine Yp P1 [0] ?_
           exact YS ⟨false, rfl, h⟩
         · refine Yskip ?_
           refine Yt ?_
           refine Yn P2 ?_
           refine Ym1 h fun v69 w9 h => ?_
           refine Yf P1 [2, 3] ?_
           refine Yt ?_
           refine Yn P2 ?_
           refine Ym1 h fun v72 w10 h => ?_
           refine Yf P1 [2, 3, 7] ?_
           refine Yt ?_
           refine Yn P1 ?_
           refine Ym3 h fun v75 v75_1 g w11 h => ?_
           refine Yn P4 ?_
           refine Yw pv_ h fun b_2 w12 h => ?_
           refine Yo h fun w13 h => ?_
           refine Yf P2 [3, 7, 8, 10] ?_
           refine Yt ?_
           refine Yn [.plain, .plain, .plain, .plain, .plain, .pick, .plain, .plain, .plain, .pick, .plain, .plain] ?_
           refine Yspl 89 h (fun h => ?_) fun h => ?_
           · refine Yl h fun v91 h => ?_
             refine Yn [.sure, .plain, .plain, .plain] ?_
             refine Yspl 94 h (fun h => ?_) fun h => ?_
             · refine Yl h fun v96 h => ?_
               refine Yn [.sure, .plain, .plain, .plain] ?_
               refine Yspl 99 h (fun h => ?_) fun h => ?_
               · refine Yl h fun v101 h => ?_
                 refine Yf P2 [0] ?_
                 exact YS ⟨v101, rfl, h⟩
               · refine Yf [.skip, .plain, .plain] [0] ?_
                 exact YS ⟨false, rfl, h⟩
             · refine Yf [.skip, .skip, .plain, .plain, .skip, .skip, .plain, .plain] [0] ?_
               exact YS ⟨false, rfl, h⟩
           · refine Yf [.skip, .skip, .plain, .plain, .skip, .skip, .skip, .plain, .plain, .skip, .skip, .plain, .plain] [0] ?_
             exact YS ⟨false, rfl, h⟩

/-! ### towpath/towpathlaw17.asks (function 38) -/

theorem S_towpathlaw17_asks {t_ : Option Addr} {x : Option Addr} {a_ : T_towpathlaw17_Ask} {w : World} {R : Bool → World → Prop} (h : F_towpathlaw17_asks t_ x a_ R w) : C_towpathlaw17_asks t_ x a_ w R := by
 unfold F_towpathlaw17_asks at h
 refine Yh Try.func38 ?_
 · refine Yt ?_
   refine Yw pv_ h fun b_ w1 h => ?_
   refine Yf P1 [0, 1, 5] ?_
   refine Ys ?_
   refine Yt ?_
   refine Yn P1 ?_
   refine Yl h fun v18 h => ?_
   refine Yf [] [0, 1, 5, 18] ?_
   refine Yd 0 ?_
   refine Yp P2 [0, 1, 5, 18, 19] ?_
   refine Yc h (fun h => ?_) fun h => ?_
   · refine Yt ?_
     refine Yn P1 ?_
     refine Yl h fun v22 h => ?_
     refine Ym1 h fun v23 w2 h => ?_
     refine Yf P1 [0, 1, 5, 7] ?_
     refine Yt ?_
     refine Yn P2 ?_
     refine Yl h fun v26 h => ?_
     refine Yn P1 ?_
     refine Yl h fun v28 h => ?_
     refine Yn P1 ?_
     refine Ym1 h fun v30 w3 h => ?_
     refine Yf P1 [1, 5, 7, 8] ?_
     refine Ycut (fun l w => ∃ (ok : Bool), l = [(7, sv_ v23), (9, Value.bool ok)] ∧ F_towpathlaw17_asks_k0 R v23 ok w) ?_ ?_
     · refine Yr ?_
       refine Yn P3 ?_
       refine Yl h fun v34 h => ?_
       refine Yn P1 ?_
       refine Yl h fun v36 h => ?_
       refine Yn P1 ?_
       refine Yl h fun v38 h => ?_
       refine Ym1 h fun v39 w7 h => ?_
       refine Yn P4 ?_
       refine Yspl 41 h (fun h => ?_) fun h => ?_
       · refine Yl h fun v44 h => ?_
         refine Ym1 h fun v45 w8 h => ?_
         refine Yf P2 [7, 9] ?_
         exact ⟨_, Sub.mk (by kernel_rfl), v45, rfl, h⟩
       · refine Yf [.skip, .skip, .plain, .plain] [7, 9] ?_
         exact ⟨_, Sub.mk (by kernel_rfl), false, rfl, h⟩
     · rintro _ w4 ⟨ok, rfl, h⟩
       unfold F_towpathlaw17_asks_k0 at h
       refine Ys ?_
       refine Yp P1 [7, 9, 10] ?_
       refine Yd 1 ?_
       obtain ⟨I, μ, h0, hr⟩ := h
       refine Yloop (fun m l w => ∃ (i : Int), l = [(7, sv_ v23), (9, Value.bool ok), (10, Value.int .i64 i)] ∧ I i w ∧ μ i w = m) ⟨0, rfl, h0, rfl⟩ ?_
       rintro _ _ w5 ⟨i, rfl, hI, rfl⟩
       obtain ⟨again_, again__h, h⟩ : ∃ again_ : Int → World → Prop, (∀ i' w', again_ i' w' → I i' w' ∧ μ i' w' < μ i w5) ∧ F_towpathlaw17_asks_L1 R v23 ok again_ i w5 := ⟨_, fun _ _ h => h, hr i w5 hI⟩
       clear h0 hI
       unfold F_towpathlaw17_asks_L1 at h
       refine Ys ?_
       refine Yp P4 [7, 9, 10, 50] ?_
       refine Yc h (fun h => ?_) fun h => ?_
       · refine Yskip ?_
         refine Ys ?_
         refine Yd 2 ?_
         refine Yr ?_
         refine Yn P2 ?_
         obtain ⟨hp_79, h⟩ := h
         refine Yu 53 (fun pp => .slice pp v23.len v23.cap) hp_79 ?_
         refine Yi1 h fun h => ?_
         refine Yo h fun w6 h => ?_
         refine Yf [] [7, 9, 10] ?_
         refine Yr ?_
         refine Yf P3 [7, 9, 10] ?_
         have hb_ := again__h _ _ h
         exact ⟨_, hb_.2, _, Sub.mk (by kernel_rfl), (IntKind.i64.wrap (i + 1)), rfl, hb_.1, rfl⟩
       · refine Yexit 1 ?_
         refine Yp P2 [6] ?_
         exact YS ⟨ok, rfl, h⟩
   · refine Yp P2 [0, 1, 5, 57] ?_
     refine Yc h (fun h => ?_) fun h => ?_
     · refine Yt ?_
       refine Yn P1 ?_
       refine YL h fun v60 h => ?_
       refine Ym1 h fun v61 w9 h => ?_
       refine Yw pv_ h fun b_1 w10 h => ?_
       refine Yo h fun w11 h => ?_
       refine Yf [] [0, 1, 5, 11] ?_
       refine Yt ?_
       refine Yn P1 ?_
       refine YL h fun v63 h => ?_
       refine Ym1 h fun v64 w12 h => ?_
       refine Yf P1 [1, 5, 11, 12] ?_
       refine Ycut (fun l w => ∃ (ok1 : Bool), l = [(11, pv_ b_1), (13, Value.bool ok1)] ∧ F_towpathlaw17_asks_k2 R b_1 ok1 w) ?_ ?_
       · refine Yr ?_
         refine Yn P3 ?_
         refine YL h fun v68 h => ?_
         refine Ym1 h fun v69 w20 h => ?_
         refine Yn P2 ?_
         refine Yspl 71 h (fun h => ?_) fun h => ?_
         · refine YL h fun v72 h => ?_
           refine Yn [.sure] ?_
           refine YL h fun v74 h => ?_
           refine Ym1 h fun v75 w21 h => ?_
           refine Yf P2 [11, 13] ?_
           exact ⟨_, Sub.mk (by kernel_rfl), v75, rfl, h⟩
         · refine Yf [.skip, .skip, .skip, .skip, .plain, .plain] [11, 13] ?_
           exact ⟨_, Sub.mk (by kernel_rfl), false, rfl, h⟩
       · rintro _ w13 ⟨ok1, rfl, h⟩
         unfold F_towpathlaw17_asks_k2 at h
         refine Ys ?_
         refine Yp P1 [11, 13, 14] ?_
         refine Yd 3 ?_
         obtain ⟨I, μ, h0, hr⟩ := h
         refine Yloop (fun m l w => ∃ (i1 : Int), l = [(11, pv_ b_1), (13, Value.bool ok1), (14, Value.int .i64 i1)] ∧ I i1 w ∧ μ i1 w = m) ⟨0, rfl, h0, rfl⟩ ?_
         rintro _ _ w14 ⟨i1, rfl, hI, rfl⟩
         obtain ⟨again_1, again_1_h, h⟩ : ∃ again_1 : Int → World → Prop, (∀ i1' w', again_1 i1' w' → I i1' w' ∧ μ i1' w' < μ i1 w14) ∧ F_towpathlaw17_asks_L3 R b_1 ok1 again_1 i1 w14 := ⟨_, fun _ _ h => h, hr i1 w14 hI⟩
         clear h0 hI
         unfold F_towpathlaw17_asks_L3 at h
         refine Ys ?_
         refine Yt ?_
         refine Yn P2 ?_
         refine Yl h fun v79 h => ?_
         refine Yf P2 [11, 13, 14, 81] ?_
         refine Yc h (fun h => ?_) fun h => ?_
         · refine Yskip ?_
           refine Ys ?_
           refine Yd 4 ?_
           refine Yr ?_
           refine Yn P1 ?_
           refine Yl h fun v85 h => ?_
           refine Yn P2 ?_
           obtain ⟨hp_83, h⟩ := h
           refine Yu 85 (fun pp => .slice pp v85.len v85.cap) hp_83 ?_
           refine Yi h fun h => ?_
           refine Yo h fun w15 h => ?_
           refine Yf [] [11, 13, 14] ?_
           refine Yr ?_
           refine Yf P3 [11, 13, 14] ?_
           have hb_ := again_1_h _ _ h
           exact ⟨_, hb_.2, _, Sub.mk (by kernel_rfl), (IntKind.i64.wrap (i1 + 1)), rfl, hb_.1, rfl⟩
         · refine Yexit 3 ?_
           refine Ys ?_
           refine Yp P1 [11, 13, 15] ?_
           refine Yd 5 ?_
           obtain ⟨I, μ, h0, hr⟩ := h
           refine Yloop (fun m l w => ∃ (i2 : Int), l = [(11, pv_ b_1), (13, Value.bool ok1), (15, Value.int .i64 i2)] ∧ I i2 w ∧ μ i2 w = m) ⟨0, rfl, h0, rfl⟩ ?_
           rintro _ _ w16 ⟨i2, rfl, hI, rfl⟩
           obtain ⟨again_2, again_2_h, h⟩ : ∃ again_2 : Int → World → Prop, (∀ i2' w', again_2 i2' w' → I i2' w' ∧ μ i2' w' < μ i2 w16) ∧ F_towpathlaw17_asks_L4 R b_1 ok1 again_2 i2 w16 := ⟨_, fun _ _ h => h, hr i2 w16 hI⟩
           clear h0 hI
           unfold F_towpathlaw17_asks_L4 at h
           refine Ys ?_
           refine Yt ?_
           refine Yn P2 ?_
           refine Yl h fun v91 h => ?_
           refine Yf P2 [11, 13, 15, 93] ?_
           refine Yc h (fun h => ?_) fun h => ?_
           · refine Yskip ?_
             refine Ys ?_
             refine Yd 6 ?_
             refine Ys ?_
             refine Yp P1 [11, 13, 15, 16] ?_
             refine Yd 7 ?_
             obtain ⟨I, μ, h0, hr⟩ := h
             refine Yloop (fun m l w => ∃ (k_ : Int), l = [(11, pv_ b_1), (13, Value.bool ok1), (15, Value.int .i64 i2), (16, Value.int .i64 k_)] ∧ I k_ w ∧ μ k_ w = m) ⟨0, rfl, h0, rfl⟩ ?_
             rintro _ _ w17 ⟨k_, rfl, hI, rfl⟩
             obtain ⟨again_3, again_3_h, h⟩ : ∃ again_3 : Int → World → Prop, (∀ k_' w', again_3 k_' w' → I k_' w' ∧ μ k_' w' < μ k_ w17) ∧ F_towpathlaw17_asks_L5 b_1 i2 again_2 again_3 k_ w17 := ⟨_, fun _ _ h => h, hr k_ w17 hI⟩
             clear h0 hI
             unfold F_towpathlaw17_asks_L5 at h
             refine Ys ?_
             refine Yt ?_
             refine Yn P2 ?_
             refine Yl h fun v98 h => ?_
             refine Yn P1 ?_
             obtain ⟨hp_146, h⟩ := h
             refine Yu 98 (fun pp => .slice pp v98.len v98.cap) hp_146 ?_
             refine Yi h fun h => ?_
             refine Yn P1 ?_
             refine Yl h fun v102 h => ?_
             refine Yf P2 [11, 13, 15, 16, 104] ?_
             refine Yc h (fun h => ?_) fun h => ?_
             · refine Yskip ?_
               refine Ys ?_
               refine Yd 8 ?_
               refine Yr ?_
               refine Yn P1 ?_
               refine Yl h fun v108 h => ?_
               refine Yn P1 ?_
               obtain ⟨hp_149, h⟩ := h
               refine Yu 108 (fun pp => .slice pp v108.len v108.cap) hp_149 ?_
               refine Yi h fun h => ?_
               refine Yn P1 ?_
               refine Yl h fun v112 h => ?_
               refine Yn P2 ?_
               obtain ⟨hp_150, h⟩ := h
               refine Yu 112 (fun pp => .slice pp v112.len v112.cap) hp_150 ?_
               refine Yi h fun h => ?_
               refine Yo h fun w18 h => ?_
               refine Yf [] [11, 13, 15, 16] ?_
               refine Yr ?_
               refine Yf P3 [11, 13, 15, 16] ?_
               have hb_ := again_3_h _ _ h
               exact ⟨_, hb_.2, _, Sub.mk (by kernel_rfl), (IntKind.i64.wrap (k_ + 1)), rfl, hb_.1, rfl⟩
             · refine Yexit 7 ?_
               refine Yr ?_
               refine Yn P1 ?_
               refine Yl h fun v117 h => ?_
               refine Yn P2 ?_
               obtain ⟨hp_151, h⟩ := h
               refine Yu 117 (fun pp => .slice pp v117.len v117.cap) hp_151 ?_
               refine Yi h fun h => ?_
               refine Yo h fun w19 h => ?_
               refine Yf [] [11, 13, 15] ?_
               refine Yr ?_
               refine Yf P3 [11, 13, 15] ?_
               have hb_ := again_2_h _ _ h
               exact ⟨_, hb_.2, _, Sub.mk (by kernel_rfl), (IntKind.i64.wrap (i2 + 1)), rfl, hb_.1, rfl⟩
           · refine Yexit 5 ?_
             refine Yp P2 [6] ?_
             exact YS ⟨ok1, rfl, h⟩
     · refine Yskip ?_
       refine Yt ?_
       refine Yn P1 ?_
       refine Ym1 h fun v123 w22 h => ?_
       refine Yn P1 ?_
       refine Ym1 h fun v125 w23 h => ?_
       refine Yf P2 [6] ?_
       exact YS ⟨(v123 == v125), rfl, h⟩

/-! ### towpath/towpathlaw17.stands (function 39) -/

theorem S_towpathlaw17_stands {t_ : Option Addr} {x : Option Addr} {w : World} {R : Bool → World → Prop} (h : F_towpathlaw17_stands t_ x R w) : C_towpathlaw17_stands t_ x w R := by
 unfold F_towpathlaw17_stands at h
 refine Yh Try.func39 ?_
 · refine Yp P1 [0, 1] ?_
   refine Yt ?_
   refine Yn P1 ?_
   refine Ym3 h fun n_ v23_1 ok w1 h => ?_
   refine Yn P4 ?_
   refine Yw pv_ h fun b_ w2 h => ?_
   refine Yn P1 ?_
   refine Yo h fun w3 h => ?_
   refine Yf P1 [0, 1, 5, 6, 7] ?_
   refine Yt ?_
   refine Yn P1 ?_
   refine Ym3 h fun m_ v29_1 is w4 h => ?_
   refine Yn P4 ?_
   refine Yw pv_ h fun b_1 w5 h => ?_
   refine Yn P1 ?_
   refine Yo h fun w6 h => ?_
   refine Yf P1 [0, 1, 5, 6, 7, 8, 9, 10] ?_
   refine Ys ?_
   refine Ycut (fun l w => ∃ (t53 : Bool), l = [(0, Value.pointer t_), (1, Value.pointer x), (53, Value.bool t53)] ∧ F_towpathlaw17_stands_k0 t_ x R t53 w) ?_ ?_
   · refine Yr ?_
     refine Yn [.plain, .plain, .plain, .plain, .plain, .plain, .plain, .pick, .plain] ?_
     refine Yspl 41 h (fun h => ?_) fun h => ?_
     · refine Yf [.skip, .skip, .skip, .skip, .plain, .plain, .skip, .skip, .skip, .skip, .skip, .plain] [0, 1, 53] ?_
       exact ⟨_, Sub.mk (by kernel_rfl), true, rfl, h⟩
     · refine YL h fun v42 h => ?_
       refine YL h fun v43 h => ?_
       refine Ym1 h fun v44 w18 h => ?_
       refine Yn [.sure, .plain, .plain, .plain] ?_
       refine Yspl 47 h (fun h => ?_) fun h => ?_
       · refine Yf [.skip, .skip, .skip, .skip, .plain] [0, 1, 53] ?_
         exact ⟨_, Sub.mk (by kernel_rfl), true, rfl, h⟩
       · refine Ym1 h fun v49 w19 h => ?_
         refine Yn [.sure] ?_
         refine Ym1 h fun v51 w20 h => ?_
         refine Yf [.sure, .plain] [0, 1, 53] ?_
         exact ⟨_, Sub.mk (by kernel_rfl), (!(v49 == v51)), rfl, h⟩
   · rintro _ w7 ⟨t53, rfl, h⟩
     unfold F_towpathlaw17_stands_k0 at h
     refine Yc h (fun h => ?_) fun h => ?_
     · refine Yp P1 [4] ?_
       exact YS ⟨false, rfl, h⟩
     · refine Yskip ?_
       refine Yt ?_
       refine Yn P1 ?_
       refine Ym3 h fun v56 l_ e w8 h => ?_
       refine Yn P4 ?_
       refine Yw pv_ h fun b_2 w9 h => ?_
       refine Yo h fun w10 h => ?_
       refine Yf P2 [0, 1, 11, 12, 13] ?_
       refine Yt ?_
       refine Yn P1 ?_
       refine Ym3 h fun v62 k_ f w11 h => ?_
       refine Yn P4 ?_
       refine Yw pv_ h fun b_3 w12 h => ?_
       refine Yo h fun w13 h => ?_
       refine Yf P2 [0, 1, 11, 12, 13, 14, 15, 16] ?_
       refine Yt ?_
       refine Yn P1 ?_
       refine Ym2 h fun i begun w14 h => ?_
       refine Yf (Pl 5) [1, 11, 12, 13, 14, 15, 16, 17, 18] ?_
       refine Yt ?_
       refine Yn P1 ?_
       refine Ym2 h fun j was w15 h => ?_
       refine Yf (Pl 5) [11, 12, 13, 14, 15, 16, 17, 18, 19, 20] ?_
       refine Yt ?_
       refine Yn P4 ?_
       refine Yspl 79 h (fun h => ?_) fun h => ?_
       · refine YL h fun v80 h => ?_
         refine YL h fun v81 h => ?_
         refine Ym1 h fun v82 w16 h => ?_
         refine Yn P4 ?_
         refine Yspl 84 h (fun h => ?_) fun h => ?_
         · refine Ym1 h fun v87 w17 h => ?_
           refine Yf [.plain, .plain, .plain, .plain, .plain, .pick, .plain, .plain, .plain, .plain, .pick, .plain] [4] ?_
           exact YS ⟨((v87 && (i == j)) && (begun == was)), rfl, h⟩
         · refine Yf [.skip, .plain, .plain, .skip, .skip, .skip, .plain, .plain, .skip, .skip, .skip, .plain, .plain] [4] ?_
           exact YS ⟨false, rfl, h⟩
       · refine Yf [.skip, .skip, .skip, .plain, .plain, .skip, .skip, .skip, .plain, .plain, .skip, .skip, .skip, .plain, .plain, .skip, .skip, .skip, .plain, .plain] [4] ?_
         exact YS ⟨false, rfl, h⟩
end
end Go.Proofs.Ytpedclhflmhakaa
