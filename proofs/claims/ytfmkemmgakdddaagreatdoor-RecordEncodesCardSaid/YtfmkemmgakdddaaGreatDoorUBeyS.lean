/- Sizes that are not beyond the bound. -/
import Derived.Test.YtfmkemmgakdddaaGreatDoorUOwn
import Derived.Test.YtfmkemmgakdddaaGreatDoorUBeyond
namespace Go.Proofs.YtfmkemmgakdddaaGreatDoor
open Go
set_option linter.unusedVariables false
set_option linter.unusedSimpArgs false

theorem beyond_s1 {v : Int} (h0 : 0 ≤ v) (h1 : v ≤ 400000000000000) (h : beyondF 0 [v] = false) : v ≤ 1048576 := by
  unfold beyondF at h
  rw [i64_in _ (by omega) (by omega), Int.zero_add] at h
  by_cases hv : v > 1048576
  · rw [if_pos hv] at h; cases h
  · omega
theorem beyond_s2 {v m : Int} (h0 : 0 ≤ v) (h1 : v ≤ 400000000000000) (h2 : 0 ≤ m) (h3 : m ≤ 400000000000000) (h : beyondF 0 [v, m] = false) : v + m ≤ 1048576 := by
  unfold beyondF at h
  rw [i64_in _ (by omega) (by omega), Int.zero_add] at h
  by_cases hv : v > 1048576
  · rw [if_pos hv] at h; cases h
  · rw [if_neg hv] at h
    unfold beyondF at h
    rw [i64_in _ (by omega) (by omega)] at h
    by_cases hv : v + m > 1048576
    · rw [if_pos hv] at h; cases h
    · omega
section
variable {w w1 : World} {b : Nat} {T : TypeId} {x y : Int}
theorem sp_BeyondS1 {R : Bool → World → Prop} (hb : b = w.heap.size) (hw : w1 = w.alloc (Obj.cells ([Value.int .i64 x]).toArray T (0, 0))) (h0 : 0 ≤ x) (h1 : x ≤ 400000000000000) (k : ∀ v, (v = false → x ≤ 1048576) → R v w1) :
    C_towpathlaw01_Beyond (Slc.mk (some ⟨b, 0, none⟩) 1 1) w1 R :=
  sp_towpathlaw01_Beyond (xs := [x]) (srcAt_new hb hw rfl) (by show 1 ≤ _; omega) (k _ (beyond_s1 h0 h1))
theorem sp_BeyondS2 {R : Bool → World → Prop} (hb : b = w.heap.size) (hw : w1 = w.alloc (Obj.cells ([Value.int .i64 x, Value.int .i64 y]).toArray T (0, 0))) (h0 : 0 ≤ x) (h1 : x ≤ 400000000000000) (h2 : 0 ≤ y) (h3 : y ≤ 400000000000000) (k : ∀ v, (v = false → x + y ≤ 1048576) → R v w1) :
    C_towpathlaw01_Beyond (Slc.mk (some ⟨b, 0, none⟩) 2 2) w1 R :=
  sp_towpathlaw01_Beyond (xs := [x, y]) (srcAt_new hb hw rfl) (by show 2 ≤ _; omega) (k _ (beyond_s2 h0 h1 h2 h3))
end
end Go.Proofs.YtfmkemmgakdddaaGreatDoor
