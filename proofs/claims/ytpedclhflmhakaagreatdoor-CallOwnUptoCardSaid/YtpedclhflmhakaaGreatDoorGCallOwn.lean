/- WRITTEN BY PROGRAM (dec.py): for each Go function the clean formula F, the call's contract C, and the proof S that F gives C. -/
import Derived.Test.YtpedclhflmhakaaGreatDoorRows
import Derived.Test.YtpedclhflmhakaaGreatDoorGF
namespace Go.Proofs.YtpedclhflmhakaaGreatDoor
open Go
set_option linter.unusedVariables false
set_option maxRecDepth 100000
set_option maxHeartbeats 4000000
noncomputable section

/-! ### towpath/towpathlaw17.CallOwn (function 4) -/
def c4_0 := cb_ Tryz.f4
def c4_3 := cr_ c4_0
def c4_6 := cr_ c4_3
def c4_16 := cr_ c4_6
def c4_19 := cr_ c4_16
def c4_20 := cl_ c4_19
def c4_23 := cr_ c4_20
def c4_24 := cl_ c4_23
def c4_25 := cl_ c4_24
def c4_32 := cr_ c4_25
def c4_33 := cl_ c4_32
def c4_34 := cl_ c4_33
def c4_35 := cl_ c4_34
def c4_38 := cr_ c4_35
def c4_39 := cl_ c4_38
def c4_42 := cr_ c4_39
def c4_43 := cl_ c4_42
def r4_43 := co_ c4_43

theorem S_towpathlaw17_CallOwn {m_ : T_towpathlaw17_Made} {q : Slc} {w : World} {R : Bool → World → Prop} (h : F_towpathlaw17_CallOwn m_ q R w) : C_towpathlaw17_CallOwn m_ q w R := by
 unfold F_towpathlaw17_CallOwn at h
 refine Yh Tryz.func4 ?_
 · refine Yt ?_
   refine Yw pv_ h fun b_ w1 h => ?_
   refine Yf P1 [1, 2] ?_
   refine Yt ?_
   refine Yn P1 ?_
   refine Yl h fun v17 h => ?_
   refine Yn P1 ?_
   refine YL h fun v19 h => ?_
   refine Yn P1 ?_
   refine YL h fun v21 h => ?_
   refine Ym2 h fun t_ e w2 h => ?_
   refine Yf (Pl 5) [1, 5, 6] ?_
   refine Ys ?_
   refine Yp P2 [1, 5, 26] ?_
   refine Yc h (fun h => ?_) fun h => ?_
   · refine Yt ?_
     refine Ym1 h fun v27 w3 h => ?_
     refine Yf P1 [4] ?_
     exact YS ⟨v27, rfl, h⟩
   · refine Yskip ?_
     refine Yt ?_
     refine Yw pv_ h fun b_1 w4 h => ?_
     refine Yf [] [1, 5, 7] ?_
     refine Ys ?_
     refine Yp P1 [1, 5, 7, 8] ?_
     refine Yd 0 ?_
     obtain ⟨I, μ, h0, hr⟩ := h
     refine Yloop (fun m l w => ∃ (i : Int), l = [(1, sv_ q), (5, Value.pointer t_), (7, pv_ b_1), (8, Value.int .i64 i)] ∧ I i w ∧ μ i w = m) ⟨0, rfl, h0, rfl⟩ ?_
     rintro _ _ w5 ⟨i, rfl, hI, rfl⟩
     obtain ⟨again_, again__h, h⟩ : ∃ again_ : Int → World → Prop, (∀ i' w', again_ i' w' → I i' w' ∧ μ i' w' < μ i w5) ∧ F_towpathlaw17_CallOwn_L0 q R t_ b_1 again_ i w5 := ⟨_, fun _ _ h => h, hr i w5 hI⟩
     clear h0 hI
     unfold F_towpathlaw17_CallOwn_L0 at h
     refine Ys ?_
     refine Yp [.plain, .plain, .plain, .plain, .plain, .plain, .plain, .pick] [1, 5, 7, 8, 35] ?_
     refine Yc h (fun h => ?_) fun h => ?_
     · refine Yskip ?_
       refine Ys ?_
       refine Yd 1 ?_
       refine Ycut (fun l w => l = [(1, sv_ q), (5, Value.pointer t_), (7, pv_ b_1), (8, Value.int .i64 i)] ∧ F_towpathlaw17_CallOwn_k1 t_ b_1 i again_ w) ?_ ?_
       · refine Yt ?_
         refine Yn P2 ?_
         obtain ⟨hp_43, h⟩ := h
         refine Yu 38 (fun pp => .slice pp q.len q.cap) hp_43 ?_
         refine Yi h fun h => ?_
         refine Yn P1 ?_
         refine Yl h fun v42 h => ?_
         refine Yf [] [1, 5, 7, 8, 42] ?_
         refine Yd 2 ?_
         refine Yp P2 [1, 5, 7, 8, 42, 45] ?_
         refine Yc h (fun h => ?_) fun h => ?_
         · refine wpE_tailregion (id := 11) (ops := r4_43) (by kernel_rfl) 16 (by kernel_rfl) (by kernel_rfl) (fun w16 hw => ?_)
           replace h := h w16 hw
           clear hw
           refine Qn P3 ?_
           obtain ⟨hp_44, h⟩ := h
           refine Qu 48 (fun pp => .slice pp q.len q.cap) hp_44 ?_
           refine Qi h fun h => ?_
           refine Qn P1 ?_
           refine Ql h fun v52 h => ?_
           refine Qn P2 ?_
           obtain ⟨hp_45, h⟩ := h
           refine Qu 53 (fun pp => .slice pp q.len q.cap) hp_45 ?_
           refine Qi h fun h => ?_
           refine Qn P1 ?_
           refine Ql h fun v57 h => ?_
           refine Qn P2 ?_
           obtain ⟨hp_46, h⟩ := h
           refine Qu 58 (fun pp => .slice pp q.len q.cap) hp_46 ?_
           refine Qi h fun h => ?_
           refine Qn P1 ?_
           refine Ql h fun v62 h => ?_
           refine qreg_tail (by kernel_rfl) ?_
           refine Ym1 h fun v63 w17 h => ?_
           refine Yf [] [1, 5, 7, 8] ?_
           exact ⟨_, Sub.mk (by kernel_rfl), rfl, h⟩
         · refine Yp P2 [1, 5, 7, 8, 64] ?_
           refine Yc h (fun h => ?_) fun h => ?_
           · refine Yr ?_
             refine Yn P3 ?_
             obtain ⟨hp_47, h⟩ := h
             refine Yu 67 (fun pp => .slice pp q.len q.cap) hp_47 ?_
             refine Yi h fun h => ?_
             refine Yn P1 ?_
             refine YL h fun v71 h => ?_
             refine Ym1 h fun v72 w18 h => ?_
             refine Ym1 h fun v73 w19 h => ?_
             refine Yf [] [1, 5, 7, 8] ?_
             exact ⟨_, Sub.mk (by kernel_rfl), rfl, h⟩
           · refine Yr ?_
             refine Yn P1 ?_
             refine Ym1 h fun v44 w20 h => ?_
             refine Yf [] [1, 5, 7, 8] ?_
             exact ⟨_, Sub.mk (by kernel_rfl), rfl, h⟩
       · rintro _ w6 ⟨rfl, h⟩
         unfold F_towpathlaw17_CallOwn_k1 at h
         refine Yt ?_
         refine Yn P1 ?_
         refine Ym3 h fun v76 v76_1 v76_2 w7 h => ?_
         refine Yn P4 ?_
         refine Yw pv_ h fun b_2 w8 h => ?_
         refine Yn P1 ?_
         refine Yo h fun w9 h => ?_
         refine Yf P1 [1, 5, 7, 8, 10] ?_
         refine Yt ?_
         refine Yn P1 ?_
         refine Ym3 h fun v82 l_ v82_2 w10 h => ?_
         refine Yn P4 ?_
         refine Yw pv_ h fun b_3 w11 h => ?_
         refine Yo h fun w12 h => ?_
         refine Yf P2 [1, 5, 7, 8, 10, 12, 13] ?_
         refine Yt ?_
         refine YL h fun v86 h => ?_
         refine Ym0 h fun w13 h => ?_
         refine Yf [] [1, 5, 7, 8, 12, 13] ?_
         refine Yt ?_
         refine YL h fun v88 h => ?_
         refine Ym0 h fun w14 h => ?_
         refine Yf [] [1, 5, 7, 8, 13] ?_
         refine Yr ?_
         refine Yn P1 ?_
         refine Ym0 h fun w15 h => ?_
         refine Yf [] [1, 5, 7, 8] ?_
         refine Yr ?_
         refine Yf P3 [1, 5, 7, 8] ?_
         have hb_ := again__h _ _ h
         exact ⟨_, hb_.2, _, Sub.mk (by kernel_rfl), (IntKind.i64.wrap (i + 1)), rfl, hb_.1, rfl⟩
     · refine Yexit 0 ?_
       refine Yt ?_
       refine Ym1 h fun v92 w21 h => ?_
       refine Yn P1 ?_
       refine Yspl 93 h (fun h => ?_) fun h => ?_
       · refine Ym1 h fun v94 w22 h => ?_
         refine Yf P2 [4] ?_
         exact YS ⟨v94, rfl, h⟩
       · refine Yf [.skip, .plain, .plain] [4] ?_
         exact YS ⟨false, rfl, h⟩
end
end Go.Proofs.YtpedclhflmhakaaGreatDoor
