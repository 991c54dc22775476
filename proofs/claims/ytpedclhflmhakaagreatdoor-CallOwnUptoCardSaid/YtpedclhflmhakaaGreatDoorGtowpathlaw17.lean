/- WRITTEN BY PROGRAM (dec.py): for each Go function the clean formula F, the call's contract C, and the proof S that F gives C. -/
import Derived.Test.YtpedclhflmhakaaGreatDoorRows
import Derived.Test.YtpedclhflmhakaaGreatDoorGF
namespace Go.Proofs.YtpedclhflmhakaaGreatDoor
open Go
set_option linter.unusedVariables false
set_option maxRecDepth 100000
set_option maxHeartbeats 4000000
noncomputable section

/-! ### towpath/towpathlaw17.lives (function 15) -/

theorem S_towpathlaw17_lives {w : World} {R : Bool → World → Prop} (h : F_towpathlaw17_lives R w) : C_towpathlaw17_lives w R := by
 unfold F_towpathlaw17_lives at h
 refine Yh Tryz.func15 ?_
 · refine Yp P1 [] ?_
   refine Yt ?_
   refine Yn P1 ?_
   refine Yw pv_ h fun b_ w1 h => ?_
   refine Yo h fun w2 h => ?_
   refine Yf [] [1] ?_
   refine Yt ?_
   refine YL h fun v13 h => ?_
   refine Yn P1 ?_
   refine Ym2 h fun t_ e w3 h => ?_
   refine Yf (Pl 5) [2, 3] ?_
   refine Ys ?_
   refine Ycut (fun l w => ∃ (t24 : Bool), l = [(2, Value.pointer t_), (24, Value.bool t24)] ∧ F_towpathlaw17_lives_k0 R t_ t24 w) ?_ ?_
   · refine Yr ?_
     refine Yn P4 ?_
     refine Yspl 20 h (fun h => ?_) fun h => ?_
     · refine Yf [.skip, .skip, .plain] [2, 24] ?_
       exact ⟨_, Sub.mk (by kernel_rfl), true, rfl, h⟩
     · refine Ym1 h fun v22 w17 h => ?_
       refine Yf [.sure, .plain] [2, 24] ?_
       exact ⟨_, Sub.mk (by kernel_rfl), (v22 != 0), rfl, h⟩
   · rintro _ w4 ⟨t24, rfl, h⟩
     unfold F_towpathlaw17_lives_k0 at h
     refine Yc h (fun h => ?_) fun h => ?_
     · refine Yp P1 [0] ?_
       exact YS ⟨false, rfl, h⟩
     · refine Yskip ?_
       refine Yt ?_
       refine Yn P1 ?_
       refine Ym3 h fun k_ v27_1 ok w5 h => ?_
       refine Yn P4 ?_
       refine Yw pv_ h fun b_1 w6 h => ?_
       refine Yn P1 ?_
       refine Yo h fun w7 h => ?_
       refine Yf P1 [2, 4, 5, 6] ?_
       refine Ys ?_
       refine Ycut (fun l w => ∃ (t66 : Bool), l = [(2, Value.pointer t_), (66, Value.bool t66)] ∧ F_towpathlaw17_lives_k1 R t_ t66 w) ?_ ?_
       · refine Yr ?_
         refine Yn [.plain, .plain, .plain, .plain, .plain, .pick, .plain, .plain] ?_
         refine Yspl 37 h (fun h => ?_) fun h => ?_
         · refine Yf [.skip, .skip, .plain, .plain, .skip, .skip, .skip, .plain, .plain, .skip, .skip, .skip, .plain, .plain, .skip, .skip, .skip, .plain, .plain, .skip, .skip, .skip, .plain, .plain, .skip, .skip, .skip, .plain] [2, 66] ?_
           exact ⟨_, Sub.mk (by kernel_rfl), true, rfl, h⟩
         · refine Yl h fun v39 h => ?_
           refine Yn [.sure, .plain, .plain, .plain] ?_
           refine Yspl 42 h (fun h => ?_) fun h => ?_
           · refine Yf [.skip, .skip, .plain, .plain, .skip, .skip, .skip, .plain, .plain, .skip, .skip, .skip, .plain, .plain, .skip, .skip, .skip, .plain, .plain, .skip, .skip, .skip, .plain] [2, 66] ?_
             exact ⟨_, Sub.mk (by kernel_rfl), true, rfl, h⟩
           · refine Yl h fun v44 h => ?_
             refine Yn [.sure, .plain, .plain, .plain] ?_
             refine Yspl 47 h (fun h => ?_) fun h => ?_
             · refine Yf [.skip, .skip, .plain, .plain, .skip, .skip, .skip, .plain, .plain, .skip, .skip, .skip, .plain, .plain, .skip, .skip, .skip, .plain] [2, 66] ?_
               exact ⟨_, Sub.mk (by kernel_rfl), true, rfl, h⟩
             · refine Yl h fun v49 h => ?_
               refine Yn [.sure, .plain, .plain, .plain] ?_
               refine Yspl 52 h (fun h => ?_) fun h => ?_
               · refine Yf [.skip, .skip, .plain, .plain, .skip, .skip, .skip, .plain, .plain, .skip, .skip, .skip, .plain] [2, 66] ?_
                 exact ⟨_, Sub.mk (by kernel_rfl), true, rfl, h⟩
               · refine Ym1 h fun v54 w14 h => ?_
                 refine Yn [.sure, .plain, .plain, .plain] ?_
                 refine Yspl 57 h (fun h => ?_) fun h => ?_
                 · refine Yf [.skip, .skip, .plain, .plain, .skip, .skip, .skip, .plain] [2, 66] ?_
                   exact ⟨_, Sub.mk (by kernel_rfl), true, rfl, h⟩
                 · refine Ym1 h fun v59 w15 h => ?_
                   refine Yn [.sure, .plain, .plain, .plain] ?_
                   refine Yspl 62 h (fun h => ?_) fun h => ?_
                   · refine Yf [.skip, .skip, .plain] [2, 66] ?_
                     exact ⟨_, Sub.mk (by kernel_rfl), true, rfl, h⟩
                   · refine Ym1 h fun v64 w16 h => ?_
                     refine Yf [.sure, .plain] [2, 66] ?_
                     exact ⟨_, Sub.mk (by kernel_rfl), (v64 != 9), rfl, h⟩
       · rintro _ w8 ⟨t66, rfl, h⟩
         unfold F_towpathlaw17_lives_k1 at h
         refine Yc h (fun h => ?_) fun h => ?_
         · refine Yp P1 [0] ?_
           exact YS ⟨false, rfl, h⟩
         · refine Yskip ?_
           refine Yt ?_
           refine Yn P2 ?_
           refine Ym1 h fun v69 w9 h => ?_
           refine Yf P1 [2, 3] ?_
           refine Yt ?_
           refine Yn P2 ?_
           refine Ym1 h fun v72 w10 h => ?_
           refine Yf P1 [2, 3, 7] ?_
           refine Yt ?_
           refine Yn P1 ?_
           refine Ym3 h fun v75 v75_1 g w11 h => ?_
           refine Yn P4 ?_
           refine Yw pv_ h fun b_2 w12 h => ?_
           refine Yo h fun w13 h => ?_
           refine Yf P2 [3, 7, 8, 10] ?_
           refine Yt ?_
           refine Yn [.plain, .plain, .plain, .plain, .plain, .pick, .plain, .plain, .plain, .pick, .plain, .plain] ?_
           refine Yspl 89 h (fun h => ?_) fun h => ?_
           · refine Yl h fun v91 h => ?_
             refine Yn [.sure, .plain, .plain, .plain] ?_
             refine Yspl 94 h (fun h => ?_) fun h => ?_
             · refine Yl h fun v96 h => ?_
               refine Yn [.sure, .plain, .plain, .plain] ?_
               refine Yspl 99 h (fun h => ?_) fun h => ?_
               · refine Yl h fun v101 h => ?_
                 refine Yf P2 [0] ?_
                 exact YS ⟨v101, rfl, h⟩
               · refine Yf [.skip, .plain, .plain] [0] ?_
                 exact YS ⟨false, rfl, h⟩
             · refine Yf [.skip, .skip, .plain, .plain, .skip, .skip, .plain, .plain] [0] ?_
               exact YS ⟨false, rfl, h⟩
           · refine Yf [.skip, .skip, .plain, .plain, .skip, .skip, .skip, .plain, .plain, .skip, .skip, .plain, .plain] [0] ?_
             exact YS ⟨false, rfl, h⟩
end
end Go.Proofs.YtpedclhflmhakaaGreatDoor
