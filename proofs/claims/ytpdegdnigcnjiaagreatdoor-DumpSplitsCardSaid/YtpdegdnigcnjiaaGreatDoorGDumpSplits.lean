/- WRITTEN BY PROGRAM (dec.py): for each Go function the clean formula F, the call's contract C, and the proof S that F gives C. -/
import Derived.Test.YtpdegdnigcnjiaaGreatDoorRows
import Derived.Test.YtpdegdnigcnjiaaGreatDoorGF
namespace Go.Proofs.YtpdegdnigcnjiaaGreatDoor
open Go
set_option linter.unusedVariables false
set_option maxRecDepth 100000
set_option maxHeartbeats 4000000
noncomputable section

/-! ### towpath/towpathlaw18.DumpSplits (function 4) -/

theorem S_towpathlaw18_DumpSplits {c : T_api_Config} {s : T_api_Saved} {w : World} {R : Bool → World → Prop} (h : F_towpathlaw18_DumpSplits c s R w) : C_towpathlaw18_DumpSplits c s w R := by
 unfold F_towpathlaw18_DumpSplits at h
 refine Yh Tryz.func4 ?_
 · refine Yt ?_
   refine Yw pv_ h fun b_ w1 h => ?_
   refine Yw pv_ h fun b_1 w2 h => ?_
   refine Yf P1 [2, 3] ?_
   refine Ys ?_
   refine Yt ?_
   refine YL h fun v11 h => ?_
   refine Ym1 h fun v12 w3 h => ?_
   refine Yw (sl_ 1 1) h fun b_2 w4 h => ?_
   refine Ym1 h fun v14 w5 h => ?_
   refine Yf [] [2, 3, 14] ?_
   refine Yc h (fun h => ?_) fun h => ?_
   · refine Yp P1 [4] ?_
     exact YS ⟨true, rfl, h⟩
   · refine Yskip ?_
     refine Yt ?_
     refine YL h fun v15 h => ?_
     refine Ym1 h fun v16 w6 h => ?_
     refine Yw pv_ h fun b_3 w7 h => ?_
     refine Yo h fun w8 h => ?_
     refine Yf [] [2, 3, 5] ?_
     refine Yt ?_
     refine YL h fun v18 h => ?_
     refine YL h fun v19 h => ?_
     refine Ym2 h fun l_ e w9 h => ?_
     refine Yf (Pl 5) [2, 3, 5, 6, 7] ?_
     refine Yt ?_
     refine YL h fun v24 h => ?_
     refine YL h fun v25 h => ?_
     refine Ym2 h fun want f w10 h => ?_
     refine Yf (Pl 5) [3, 5, 6, 7, 8, 9] ?_
     refine Ys ?_
     refine Ycut (fun l w => ∃ (t43 : Bool), l = [(5, pv_ b_3), (6, sv_ l_), (43, Value.bool t43)] ∧ F_towpathlaw18_DumpSplits_k0 R b_3 l_ t43 w) ?_ ?_
     · refine Yr ?_
       refine Yn (Pl 6) ?_
       refine Yspl 32 h (fun h => ?_) fun h => ?_
       · refine Yf [.skip, .skip, .plain, .plain, .skip, .skip, .skip, .skip, .plain] [5, 6, 43] ?_
         exact ⟨_, Sub.mk (by kernel_rfl), true, rfl, h⟩
       · refine Ym1 h fun v35 w17 h => ?_
         refine Yn [.sure, .plain, .plain] ?_
         refine Yspl 38 h (fun h => ?_) fun h => ?_
         · refine Yf [.skip, .skip, .skip, .skip, .plain] [5, 6, 43] ?_
           exact ⟨_, Sub.mk (by kernel_rfl), true, rfl, h⟩
         · refine YL h fun v39 h => ?_
           refine YL h fun v40 h => ?_
           refine Ym1 h fun v41 w18 h => ?_
           refine Yf [.sure, .plain] [5, 6, 43] ?_
           exact ⟨_, Sub.mk (by kernel_rfl), (!v41), rfl, h⟩
     · rintro _ w11 ⟨t43, rfl, h⟩
       unfold F_towpathlaw18_DumpSplits_k0 at h
       refine Yc h (fun h => ?_) fun h => ?_
       · refine Yp P1 [4] ?_
         exact YS ⟨false, rfl, h⟩
       · refine Yskip ?_
         refine Yt ?_
         refine Yn P1 ?_
         refine Yw pv_ h fun b_4 w12 h => ?_
         refine Yo h fun w13 h => ?_
         refine Yf [] [5, 6, 10] ?_
         refine Yt ?_
         refine YL h fun v45 h => ?_
         refine Ym0 h fun w14 h => ?_
         refine Yf [] [6, 10] ?_
         refine Yt ?_
         refine Yn P1 ?_
         refine Ym0 h fun w15 h => ?_
         refine Yf [] [10] ?_
         refine Yt ?_
         refine Ym1 h fun v49 w16 h => ?_
         refine Yf P1 [4] ?_
         exact YS ⟨v49, rfl, h⟩
end
end Go.Proofs.YtpdegdnigcnjiaaGreatDoor
