/- WRITTEN BY PROGRAM (dec.py): for each Go function the clean formula F, the call's contract C, and the proof S that F gives C. -/
import Derived.Test.YtpdegdnigcnjiaaRows
import Derived.Test.YtpdegdnigcnjiaaGF
namespace Go.Proofs.Ytpdegdnigcnjiaa
open Go
set_option linter.unusedVariables false
set_option maxRecDepth 100000
set_option maxHeartbeats 4000000
noncomputable section

/-! ### towpath/towpathlaw01.Beyond (function 10) -/

theorem S_towpathlaw01_Beyond {l_ : Slc} {w : World} {R : Bool → World → Prop} (h : F_towpathlaw01_Beyond l_ R w) : C_towpathlaw01_Beyond l_ w R := by
 unfold F_towpathlaw01_Beyond at h
 refine Yh Try.func10 ?_
 · refine Yp P1 [0] ?_
   refine Yp P1 [0, 3] ?_
   refine Ys ?_
   refine Yp P1 [0, 3, 4] ?_
   refine Yd 0 ?_
   obtain ⟨I, μ, h0, hr⟩ := h
   refine Yloop (fun m l w => ∃ (n_ : Int) (i : Int), l = [(0, sv_ l_), (3, Value.int .i64 n_), (4, Value.int .i64 i)] ∧ I n_ i w ∧ μ n_ i w = m) ⟨0, 0, rfl, h0, rfl⟩ ?_
   rintro _ _ w1 ⟨n_, i, rfl, hI, rfl⟩
   obtain ⟨again_, again__h, h⟩ : ∃ again_ : Int → Int → World → Prop, (∀ n_' i' w', again_ n_' i' w' → I n_' i' w' ∧ μ n_' i' w' < μ n_ i w1) ∧ F_towpathlaw01_Beyond_L0 l_ R again_ n_ i w1 := ⟨_, fun _ _ _ h => h, hr n_ i w1 hI⟩
   clear h0 hI
   unfold F_towpathlaw01_Beyond_L0 at h
   refine Ys ?_
   refine Yp P4 [0, 3, 4, 8] ?_
   refine Yc h (fun h => ?_) fun h => ?_
   · refine Yskip ?_
     refine Ys ?_
     refine Yd 1 ?_
     refine Yt ?_
     refine Yn P3 ?_
     obtain ⟨hp_7, h⟩ := h
     refine Yu 12 (fun pp => .slice pp l_.len l_.cap) hp_7 ?_
     refine Yi1 h fun h => ?_
     refine Yl h fun v15 h => ?_
     refine Yf P2 [0, 3, 4] ?_
     refine Yp P2 [0, 3, 4, 18] ?_
     refine Yc h (fun h => ?_) fun h => ?_
     · refine Yp P1 [2] ?_
       exact YS ⟨true, rfl, h⟩
     · refine Yskip ?_
       refine Yr ?_
       refine Yf P3 [0, 3, 4] ?_
       have hb_ := again__h _ _ _ h
       exact ⟨_, hb_.2, _, Sub.mk (by kernel_rfl), (IntKind.i64.wrap (n_ + v15)), (IntKind.i64.wrap (i + 1)), rfl, hb_.1, rfl⟩
   · refine Yexit 0 ?_
     refine Yp P1 [2] ?_
     exact YS ⟨false, rfl, h⟩

/-! ### towpath/towpathlaw01.SameBytes (function 14) -/
def c14_0 := cb_ Try.f14
def c14_3 := cr_ c14_0
def c14_13 := cr_ c14_3
def c14_14 := cl_ c14_13
def c14_17 := cr_ c14_14
def c14_18 := cl_ c14_17
def c14_19 := cl_ c14_18
def c14_26 := cr_ c14_19
def c14_27 := cl_ c14_26
def c14_28 := cl_ c14_27
def c14_29 := cl_ c14_28
def r14_29 := co_ c14_29

theorem S_towpathlaw01_SameBytes {a_ : Slc} {b_ : Slc} {w : World} {R : Bool → World → Prop} (h : F_towpathlaw01_SameBytes a_ b_ R w) : C_towpathlaw01_SameBytes a_ b_ w R := by
 unfold F_towpathlaw01_SameBytes at h
 refine Yh Try.func14 ?_
 · refine Yp P1 [0, 1] ?_
   refine Ys ?_
   refine Yp (Pl 5) [0, 1, 10] ?_
   refine Yc h (fun h => ?_) fun h => ?_
   · refine Yp P1 [4] ?_
     exact YS ⟨false, rfl, h⟩
   · refine Yskip ?_
     refine Ys ?_
     refine Yp P1 [0, 1, 5] ?_
     refine Yd 0 ?_
     obtain ⟨I, μ, h0, hr⟩ := h
     refine Yloop (fun m l w => ∃ (i : Int), l = [(0, sv_ a_), (1, sv_ b_), (5, Value.int .i64 i)] ∧ I i w ∧ μ i w = m) ⟨0, rfl, h0, rfl⟩ ?_
     rintro _ _ w1 ⟨i, rfl, hI, rfl⟩
     obtain ⟨again_, again__h, h⟩ : ∃ again_ : Int → World → Prop, (∀ i' w', again_ i' w' → I i' w' ∧ μ i' w' < μ i w1) ∧ F_towpathlaw01_SameBytes_L0 a_ b_ R again_ i w1 := ⟨_, fun _ _ h => h, hr i w1 hI⟩
     clear h0 hI
     unfold F_towpathlaw01_SameBytes_L0 at h
     refine Ys ?_
     refine Yp P4 [0, 1, 5, 14] ?_
     refine Yc h (fun h => ?_) fun h => ?_
     · refine Yskip ?_
       refine Ys ?_
       refine Yd 1 ?_
       refine Ys ?_
       refine wpE_drawregion (id := 6) (ops := r14_29) (by kernel_rfl) (by kernel_rfl) (by kernel_rfl) ?_
       refine Qn P2 ?_
       obtain ⟨hp_14, h⟩ := h
       refine Qu 17 (fun pp => .slice pp a_.len a_.cap) hp_14 ?_
       refine Qi1 h fun h => ?_
       refine Ql h fun v20 h => ?_
       refine Qn P2 ?_
       obtain ⟨hp_15, h⟩ := h
       refine Qu 21 (fun pp => .slice pp b_.len b_.cap) hp_15 ?_
       refine Qi1 h fun h => ?_
       refine Ql h fun v24 h => ?_
       refine Qf P1 [0, 1, 5, 25] h fun w2 h => ?_
       refine Yc h (fun h => ?_) fun h => ?_
       · refine Yp P1 [4] ?_
         exact YS ⟨false, rfl, h⟩
       · refine Yskip ?_
         refine Yr ?_
         refine Yf P3 [0, 1, 5] ?_
         have hb_ := again__h _ _ h
         exact ⟨_, hb_.2, _, Sub.mk (by kernel_rfl), (IntKind.i64.wrap (i + 1)), rfl, hb_.1, rfl⟩
     · refine Yexit 0 ?_
       refine Yp P1 [4] ?_
       exact YS ⟨true, rfl, h⟩
end
end Go.Proofs.Ytpdegdnigcnjiaa
