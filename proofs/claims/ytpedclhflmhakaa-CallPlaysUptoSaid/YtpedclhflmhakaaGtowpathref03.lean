/- WRITTEN BY PROGRAM (dec.py): for each Go function the clean formula F, the call's contract C, and the proof S that F gives C. -/
import Derived.Test.YtpedclhflmhakaaRows
import Derived.Test.YtpedclhflmhakaaGF
namespace Go.Proofs.Ytpedclhflmhakaa
open Go
set_option linter.unusedVariables false
set_option maxRecDepth 100000
set_option maxHeartbeats 4000000
noncomputable section

/-! ### towpath/towpathref03.Hash (function 118) -/

theorem S_towpathref03_Hash {key : ByteArray} {w : World} {R : Int → World → Prop} (h : F_towpathref03_Hash key R w) : C_towpathref03_Hash key w R := by
 unfold F_towpathref03_Hash at h
 refine Yh Try.func118 ?_
 · refine Yp P1 [0] ?_
   refine Yp P1 [0, 3] ?_
   refine Ys ?_
   refine Yp P1 [0, 3, 4] ?_
   refine Yd 0 ?_
   obtain ⟨I, μ, h0, hr⟩ := h
   refine Yloop (fun m l w => ∃ (h_ : Int) (i : Int), l = [(0, Value.string key), (3, Value.int .u32 h_), (4, Value.int .i64 i)] ∧ I h_ i w ∧ μ h_ i w = m) ⟨2166136261, 0, rfl, h0, rfl⟩ ?_
   rintro _ _ w1 ⟨h_, i, rfl, hI, rfl⟩
   obtain ⟨again_, again__h, h⟩ : ∃ again_ : Int → Int → World → Prop, (∀ h_' i' w', again_ h_' i' w' → I h_' i' w' ∧ μ h_' i' w' < μ h_ i w1) ∧ F_towpathref03_Hash_L0 key R again_ h_ i w1 := ⟨_, fun _ _ _ h => h, hr h_ i w1 hI⟩
   clear h0 hI
   unfold F_towpathref03_Hash_L0 at h
   refine Ys ?_
   refine Yp P4 [0, 3, 4, 8] ?_
   refine Yc h (fun h => ?_) fun h => ?_
   · refine Yskip ?_
     refine Ys ?_
     refine Yd 1 ?_
     refine Yr ?_
     refine Yn P3 ?_
     obtain ⟨h0, h1, h⟩ := h
     refine reg_indexStr (t := 9) (x := (Operand.tmp 12)) (ix := (Operand.tmp 13)) (s := key) (k := .i64) (j := i) (ty := 5) (dst := some 14) (by kernel_rfl) (by kernel_rfl) (by kernel_rfl) (by kernel_rfl) h0 h1 ?_
     refine Yf P4 [0, 3, 4] ?_
     refine Yr ?_
     refine Yf P3 [0, 3, 4] ?_
     have hb_ := again__h _ _ _ h
     exact ⟨_, hb_.2, _, Sub.mk (by kernel_rfl), (IntKind.u32.wrap ((bxor .u32 h_ (IntKind.u32.wrap (byteAt key i))) * 16777619)), (IntKind.i64.wrap (i + 1)), rfl, hb_.1, rfl⟩
   · refine Yexit 0 ?_
     refine Yp P2 [2] ?_
     exact YS ⟨h_, rfl, h⟩
end
end Go.Proofs.Ytpedclhflmhakaa
