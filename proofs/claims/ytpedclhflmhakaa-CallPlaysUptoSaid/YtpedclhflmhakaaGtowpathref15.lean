/- WRITTEN BY PROGRAM (dec.py): for each Go function the clean formula F, the call's contract C, and the proof S that F gives C. -/
import Derived.Test.YtpedclhflmhakaaRows
import Derived.Test.YtpedclhflmhakaaGF
namespace Go.Proofs.Ytpedclhflmhakaa
open Go
set_option linter.unusedVariables false
set_option maxRecDepth 100000
set_option maxHeartbeats 4000000
noncomputable section

/-! ### towpath/towpathref15.Key (function 59) -/

theorem S_towpathref15_Key {s : ByteArray} {w : World} {R : Bool → World → Prop} (h : F_towpathref15_Key s R w) : C_towpathref15_Key s w R := by
 unfold F_towpathref15_Key at h
 refine Yh Try.func59 ?_
 · refine Yp P1 [0] ?_
   refine Yp [.plain, .plain, .plain, .plain, .plain, .plain, .plain, .pick, .plain] [2] ?_
   exact YS ⟨((decide (((s.size : Nat) : Int) > 0)) && (decide (((s.size : Nat) : Int) ≤ 64))), rfl, h⟩

/-! ### towpath/towpathref15.Above (function 97) -/

theorem S_towpathref15_Above {l_ : Slc} {than : Int} {w : World} {R : Bool → World → Prop} (h : F_towpathref15_Above l_ than R w) : C_towpathref15_Above l_ than w R := by
 unfold F_towpathref15_Above at h
 refine Yh Try.func97 ?_
 · refine Yp P1 [0, 1] ?_
   refine Ys ?_
   refine Yp P1 [0, 1, 5] ?_
   refine Yd 0 ?_
   obtain ⟨I, μ, h0, hr⟩ := h
   refine Yloop (fun m l w => ∃ (than1 : Int) (i : Int), l = [(0, sv_ l_), (1, Value.int .i64 than1), (5, Value.int .i64 i)] ∧ I than1 i w ∧ μ than1 i w = m) ⟨than, 0, rfl, h0, rfl⟩ ?_
   rintro _ _ w1 ⟨than1, i, rfl, hI, rfl⟩
   obtain ⟨again_, again__h, h⟩ : ∃ again_ : Int → Int → World → Prop, (∀ than1' i' w', again_ than1' i' w' → I than1' i' w' ∧ μ than1' i' w' < μ than1 i w1) ∧ F_towpathref15_Above_L0 l_ R again_ than1 i w1 := ⟨_, fun _ _ _ h => h, hr than1 i w1 hI⟩
   clear h0 hI
   unfold F_towpathref15_Above_L0 at h
   refine Ys ?_
   refine Yp P4 [0, 1, 5, 9] ?_
   refine Yc h (fun h => ?_) fun h => ?_
   · refine Yskip ?_
     refine Ys ?_
     refine Yd 1 ?_
     refine Ys ?_
     refine Ycut (fun l w => ∃ (t24 : Bool), l = [(0, sv_ l_), (5, Value.int .i64 i), (24, Value.bool t24)] ∧ F_towpathref15_Above_k1 l_ R i again_ t24 w) ?_ ?_
     · refine Yr ?_
       refine Yn P2 ?_
       obtain ⟨hp_34, h⟩ := h
       refine Yu 12 (fun pp => .slice pp l_.len l_.cap) hp_34 ?_
       refine Yi1 h fun h => ?_
       refine Yl h fun v15 h => ?_
       refine Yn (Pl 5) ?_
       refine Yspl 18 h (fun h => ?_) fun h => ?_
       · refine Yf [.skip, .skip, .skip, .plain] [0, 5, 24] ?_
         exact ⟨_, Sub.mk (by kernel_rfl), true, rfl, h⟩
       · obtain ⟨hp_35, h⟩ := h
         refine Yu 19 (fun pp => .slice pp l_.len l_.cap) hp_35 ?_
         refine Yi1 h fun h => ?_
         refine Yl h fun v22 h => ?_
         refine Yf [.sure, .plain] [0, 5, 24] ?_
         exact ⟨_, Sub.mk (by kernel_rfl), (decide (v22 > 65536)), rfl, h⟩
     · rintro _ w2 ⟨t24, rfl, h⟩
       unfold F_towpathref15_Above_k1 at h
       refine Yc h (fun h => ?_) fun h => ?_
       · refine Yp P1 [4] ?_
         exact YS ⟨false, rfl, h⟩
       · refine Yskip ?_
         refine Yr ?_
         refine Yn P2 ?_
         obtain ⟨hp_33, h⟩ := h
         refine Yu 25 (fun pp => .slice pp l_.len l_.cap) hp_33 ?_
         refine Yi1 h fun h => ?_
         refine Yl h fun than2 h => ?_
         refine Yf P1 [0, 1, 5] ?_
         refine Yr ?_
         refine Yf P3 [0, 1, 5] ?_
         have hb_ := again__h _ _ _ h
         exact ⟨_, hb_.2, _, Sub.mk (by kernel_rfl), than2, (IntKind.i64.wrap (i + 1)), rfl, hb_.1, rfl⟩
   · refine Yexit 0 ?_
     refine Yp P1 [4] ?_
     exact YS ⟨true, rfl, h⟩
end
end Go.Proofs.Ytpedclhflmhakaa
