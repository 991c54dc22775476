/- WRITTEN BY PROGRAM (dec.py): for each Go function the clean formula F, the call's contract C, and the proof S that F gives C. -/
import Derived.Test.YtpdegdnigcnjiaaRows
import Derived.Test.YtpdegdnigcnjiaaGF
namespace Go.Proofs.Ytpdegdnigcnjiaa
open Go
set_option linter.unusedVariables false
set_option maxRecDepth 100000
set_option maxHeartbeats 4000000
noncomputable section

/-! ### towpath/towpathlaw18.DumpOne (function 3) -/

theorem S_towpathlaw18_DumpOne {b_ : Slc} {w : World} {R : Bool → World → Prop} (h : F_towpathlaw18_DumpOne b_ R w) : C_towpathlaw18_DumpOne b_ w R := by
 unfold F_towpathlaw18_DumpOne at h
 refine Yh Try.func3 ?_
 · refine Yp P1 [0] ?_
   refine Ys ?_
   refine Ycut (fun l w => ∃ (t14 : Bool), l = [(0, sv_ b_), (14, Value.bool t14)] ∧ F_towpathlaw18_DumpOne_k0 b_ R t14 w) ?_ ?_
   · refine Yr ?_
     refine Ym1 h fun v7 w9 h => ?_
     refine Yn P4 ?_
     refine Yspl 9 h (fun h => ?_) fun h => ?_
     · refine Yf [.skip, .skip, .plain] [0, 14] ?_
       exact ⟨_, Sub.mk (by kernel_rfl), true, rfl, h⟩
     · refine Yw (sl_ 1 1) h fun b_2 w10 h => ?_
       refine Ym1 h fun v13 w11 h => ?_
       refine Yf P1 [0, 14] ?_
       exact ⟨_, Sub.mk (by kernel_rfl), v13, rfl, h⟩
   · rintro _ w1 ⟨t14, rfl, h⟩
     unfold F_towpathlaw18_DumpOne_k0 at h
     refine Yc h (fun h => ?_) fun h => ?_
     · refine Yt ?_
       refine Ym1 h fun v15 w2 h => ?_
       refine Yf P1 [2] ?_
       exact YS ⟨v15, rfl, h⟩
     · refine Yskip ?_
       refine Yt ?_
       refine Yn P1 ?_
       refine Ym2 h fun v18 e w3 h => ?_
       refine Yn P3 ?_
       refine Yw pv_ h fun b_1 w4 h => ?_
       refine Yo h fun w5 h => ?_
       refine Yf P1 [0, 3, 4] ?_
       refine Ys ?_
       refine Yp P2 [0, 3, 22] ?_
       refine Yc h (fun h => ?_) fun h => ?_
       · refine Yt ?_
         refine Yn P1 ?_
         refine Yl h fun v24 h => ?_
         refine Yn P3 ?_
         refine Yspl 26 h (fun h => ?_) fun h => ?_
         · refine Yl h fun v28 h => ?_
           refine Yn [.sure, .sure] ?_
           refine Yl h fun v31 h => ?_
           refine Yf [.sure, .sure, .sure, .plain, .plain] [2] ?_
           exact YS ⟨((IntKind.i64.wrap (((v28.len : Nat) : Int) + ((v31.len : Nat) : Int))) == 0), rfl, h⟩
         · refine Yf [.skip, .skip, .skip, .skip, .skip, .skip, .skip, .plain, .plain] [2] ?_
           exact YS ⟨false, rfl, h⟩
       · refine Yskip ?_
         refine Yt ?_
         refine YL h fun v37 h => ?_
         refine Ym2 h fun c f w6 h => ?_
         refine Yf (Pl 5) [0, 3, 5, 6] ?_
         refine Yt ?_
         refine Yn P3 ?_
         refine Yspl 43 h (fun h => ?_) fun h => ?_
         · refine YL h fun v44 h => ?_
           refine Ym1 h fun v45 w7 h => ?_
           refine Yn [.sure, .plain, .plain, .plain, .plain] ?_
           refine Yspl 48 h (fun h => ?_) fun h => ?_
           · refine Ym1 h fun v51 w8 h => ?_
             refine Yf P2 [2] ?_
             exact YS ⟨v51, rfl, h⟩
           · refine Yf [.skip, .plain, .plain] [2] ?_
             exact YS ⟨false, rfl, h⟩
         · refine Yf [.skip, .skip, .skip, .plain, .plain, .skip, .skip, .skip, .plain, .plain] [2] ?_
           exact YS ⟨false, rfl, h⟩
end
end Go.Proofs.Ytpdegdnigcnjiaa
