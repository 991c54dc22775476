/- WRITTEN BY PROGRAM (dec.py): for each Go function the clean formula F, the call's contract C, and the proof S that F gives C. -/
import Derived.Test.YtpdegdnigcnjiaaGreatDoorRows
import Derived.Test.YtpdegdnigcnjiaaGreatDoorGF
namespace Go.Proofs.YtpdegdnigcnjiaaGreatDoor
open Go
set_option linter.unusedVariables false
set_option maxRecDepth 100000
set_option maxHeartbeats 4000000
noncomputable section

/-! ### towpath/towpathref12.May (function 154) -/
def c154_0 := cb_ Tryz.f154
def c154_3 := cr_ c154_0
def c154_13 := cr_ c154_3
def c154_14 := cl_ c154_13
def c154_17 := cr_ c154_14
def c154_18 := cl_ c154_17
def c154_19 := cl_ c154_18
def c154_26 := cr_ c154_19
def c154_27 := cl_ c154_26
def c154_28 := cl_ c154_27
def c154_29 := cl_ c154_28
def r154_29 := co_ c154_29

theorem S_towpathref12_May {mark : Int} {beyond : Slc} {w : World} {R : Bool → World → Prop} (h : F_towpathref12_May mark beyond R w) : C_towpathref12_May mark beyond w R := by
 unfold F_towpathref12_May at h
 refine Yh Tryz.func154 ?_
 · refine Yp P1 [0, 1] ?_
   refine Ys ?_
   refine Yp [.plain, .plain, .plain, .plain, .plain, .pick] [0, 1, 11] ?_
   refine Yc h (fun h => ?_) fun h => ?_
   · refine Yp P1 [4] ?_
     exact YS ⟨false, rfl, h⟩
   · refine Yskip ?_
     refine Ys ?_
     refine Yp P1 [0, 1, 5] ?_
     refine Yd 0 ?_
     obtain ⟨I, μ, h0, hr⟩ := h
     refine Yloop (fun m l w => ∃ (i : Int), l = [(0, Value.int .i64 mark), (1, sv_ beyond), (5, Value.int .i64 i)] ∧ I i w ∧ μ i w = m) ⟨0, rfl, h0, rfl⟩ ?_
     rintro _ _ w1 ⟨i, rfl, hI, rfl⟩
     obtain ⟨again_, again__h, h⟩ : ∃ again_ : Int → World → Prop, (∀ i' w', again_ i' w' → I i' w' ∧ μ i' w' < μ i w1) ∧ F_towpathref12_May_L0 mark beyond R again_ i w1 := ⟨_, fun _ _ h => h, hr i w1 hI⟩
     clear h0 hI
     unfold F_towpathref12_May_L0 at h
     refine Ys ?_
     refine Yp P4 [0, 1, 5, 15] ?_
     refine Yc h (fun h => ?_) fun h => ?_
     · refine Yskip ?_
       refine Ys ?_
       refine Yd 1 ?_
       refine Ycut (fun l w => ∃ (t47 : Bool), l = [(0, Value.int .i64 mark), (1, sv_ beyond), (5, Value.int .i64 i), (47, Value.bool t47)] ∧ F_towpathref12_May_k1 R i again_ t47 w) ?_ ?_
       · refine wpE_drawregion (id := 6) (ops := r154_29) (by kernel_rfl) (by kernel_rfl) (by kernel_rfl) ?_
         refine Qn P2 ?_
         obtain ⟨hp_28, h⟩ := h
         refine Qu 18 (fun pp => .slice pp beyond.len beyond.cap) hp_28 ?_
         refine Qi1 h fun h => ?_
         refine Ql h fun v21 h => ?_
         refine Qn (Pl 6) ?_
         refine Qspl 25 h (fun h => ?_) fun h => ?_
         · refine Qf [.skip, .skip, .skip, .plain, .plain, .skip, .skip, .skip, .skip, .skip, .skip, .skip, .skip, .skip, .skip, .skip, .skip, .skip, .skip, .plain] [0, 1, 5, 47] h fun w3 h => ?_
           exact ⟨_, Sub.mk (by kernel_rfl), true, rfl, h⟩
         · obtain ⟨hp_29, h⟩ := h
           refine Qu 26 (fun pp => .slice pp beyond.len beyond.cap) hp_29 ?_
           refine Qi1 h fun h => ?_
           refine Ql h fun v29 h => ?_
           refine Qn [.sure, .plain, .plain, .plain, .plain, .plain, .plain, .plain, .plain] ?_
           refine Qspl 32 h (fun h => ?_) fun h => ?_
           · refine Qf [.skip, .skip, .skip, .skip, .skip, .skip, .skip, .skip, .plain] [0, 1, 5, 47] h fun w4 h => ?_
             exact ⟨_, Sub.mk (by kernel_rfl), true, rfl, h⟩
           · refine Qspl 35 h (fun h => ?_) fun h => ?_
             · obtain ⟨hp_30, h⟩ := h
               refine Qu 36 (fun pp => .slice pp beyond.len beyond.cap) hp_30 ?_
               refine Qi1 h fun h => ?_
               refine Ql h fun v40 h => ?_
               refine Qn [.sure, .sure] ?_
               obtain ⟨hp_31, h⟩ := h
               refine Qu 41 (fun pp => .slice pp beyond.len beyond.cap) hp_31 ?_
               refine Qi1 h fun h => ?_
               refine Ql h fun v44 h => ?_
               refine Qf [.sure, .sure, .plain] [0, 1, 5, 47] h fun w5 h => ?_
               exact ⟨_, Sub.mk (by kernel_rfl), (decide (v40 ≥ v44)), rfl, h⟩
             · refine Qf [.skip, .skip, .skip, .skip, .skip, .skip, .skip, .sure, .plain] [0, 1, 5, 47] h fun w6 h => ?_
               exact ⟨_, Sub.mk (by kernel_rfl), false, rfl, h⟩
       · rintro _ w2 ⟨t47, rfl, h⟩
         unfold F_towpathref12_May_k1 at h
         refine Yc h (fun h => ?_) fun h => ?_
         · refine Yp P1 [4] ?_
           exact YS ⟨false, rfl, h⟩
         · refine Yskip ?_
           refine Yr ?_
           refine Yf P3 [0, 1, 5] ?_
           have hb_ := again__h _ _ h
           exact ⟨_, hb_.2, _, Sub.mk (by kernel_rfl), (IntKind.i64.wrap (i + 1)), rfl, hb_.1, rfl⟩
     · refine Yexit 0 ?_
       refine Yp P1 [4] ?_
       exact YS ⟨true, rfl, h⟩
end
end Go.Proofs.YtpdegdnigcnjiaaGreatDoor
