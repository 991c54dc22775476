/- WRITTEN BY PROGRAM (dec.py): for each Go function the clean formula F, the call's contract C, and the proof S that F gives C. -/
import Derived.Test.YtpdegdnigcnjiaaRows
import Derived.Test.YtpdegdnigcnjiaaGF
namespace Go.Proofs.Ytpdegdnigcnjiaa
open Go
set_option linter.unusedVariables false
set_option maxRecDepth 100000
set_option maxHeartbeats 4000000
noncomputable section

/-! ### sort.Search (function 92) -/

theorem S_sort_Search {n_ : Int} {f : Value} {w : World} {R : Int → World → Prop} (h : F_sort_Search n_ f R w) : C_sort_Search n_ f w R := by
 unfold F_sort_Search at h
 refine Yh Try.func92 ?_
 · refine Yp P1 [0, 1] ?_
   refine Yp P3 [1, 5, 6] ?_
   refine Ys ?_
   refine Yd 0 ?_
   obtain ⟨I, μ, h0, hr⟩ := h
   refine Yloop (fun m l w => ∃ (i : Int) (j : Int), l = [(1, f), (5, Value.int .i64 i), (6, Value.int .i64 j)] ∧ I i j w ∧ μ i j w = m) ⟨0, n_, rfl, h0, rfl⟩ ?_
   rintro _ _ w1 ⟨i, j, rfl, hI, rfl⟩
   obtain ⟨again_, again__h, h⟩ : ∃ again_ : Int → Int → World → Prop, (∀ i' j' w', again_ i' j' w' → I i' j' w' ∧ μ i' j' w' < μ i j w1) ∧ F_sort_Search_L0 f R again_ i j w1 := ⟨_, fun _ _ _ h => h, hr i j w1 hI⟩
   clear h0 hI
   unfold F_sort_Search_L0 at h
   refine Ys ?_
   refine Yp P3 [1, 5, 6, 11] ?_
   refine Yc h (fun h => ?_) fun h => ?_
   · refine Yskip ?_
     refine Yd 1 ?_
     refine Yp (Pl 7) [1, 5, 6, 7] ?_
     refine Yt ?_
     refine Yn P2 ?_
     refine reg_enterV (fo := (Operand.tmp 18)) (aa := #[(Operand.tmp 19)]) (ts := #[3]) (fv := f) (ty := 4) (dst := some 20) #[Value.int .i64 (IntKind.i64.wrap (Int.fdiv (IntKind.u64.wrap (IntKind.i64.wrap (i + j))) (2 ^ 1)))] (by kernel_rfl) (by kernel_rfl) (by kernel_rfl) (CallsV.mono h ?_)
     rintro _ w2 ⟨v20, rfl, h⟩
     refine ⟨_, rfl, ?_⟩
     refine Yf P1 [1, 5, 6, 7, 21] ?_
     refine Yc h (fun h => ?_) fun h => ?_
     · refine Yr ?_
       refine Yf P3 [1, 5, 6] ?_
       have hb_ := again__h _ _ _ h
       exact ⟨_, hb_.2, _, Sub.mk (by kernel_rfl), (IntKind.i64.wrap ((IntKind.i64.wrap (Int.fdiv (IntKind.u64.wrap (IntKind.i64.wrap (i + j))) (2 ^ 1))) + 1)), j, rfl, hb_.1, rfl⟩
     · refine Yr ?_
       refine Yf P2 [1, 5, 6] ?_
       have hb_ := again__h _ _ _ h
       exact ⟨_, hb_.2, _, Sub.mk (by kernel_rfl), i, (IntKind.i64.wrap (Int.fdiv (IntKind.u64.wrap (IntKind.i64.wrap (i + j))) (2 ^ 1))), rfl, hb_.1, rfl⟩
   · refine Yexit 0 ?_
     refine Yp P2 [4] ?_
     exact YS ⟨i, rfl, h⟩
end
end Go.Proofs.Ytpdegdnigcnjiaa
