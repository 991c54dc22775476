/- Rows of ints compared. -/
import Derived.Test.YtpdegdnigcnjiaaUOwn
import Derived.Test.YtpdegdnigcnjiaaGtowpathlaw01
namespace Go.Proofs.Ytpdegdnigcnjiaa
open Go
set_option linter.unusedVariables false
set_option linter.unusedSimpArgs false

section
variable {w : World}
theorem sp_SameInts {s t : Slc} {xs : List Int} {R : Bool → World → Prop} (h1 : SrcAt w s 1 (xs.map iV)) (h2 : SrcAt w t 1 (xs.map iV)) (hl : s.len ≤ 17592186043904) (k : ∀ w', Ext w w' → R true w') : C_towpathlaw01_SameInts s t w R := by
  apply S_towpathlaw01_SameInts
  unfold F_towpathlaw01_SameInts
  have l1 := h1.len_eq
  have l2 := h2.len_eq
  refine ⟨fun h => ?_, fun _ => ⟨fun i w' => ∃ p : Nat, i = (p : Int) ∧ p ≤ s.len ∧ Ext w w', fun i _ => s.len - i.toNat, ⟨0, rfl, by omega, Ext.refl _⟩, ?_⟩⟩
  · have h : ¬ ((s.len : Nat) : Int) = ((t.len : Nat) : Int) := by simpa using h
    omega
  rintro i w1 ⟨p, rfl, hp, e⟩
  unfold F_towpathlaw01_SameInts_L0
  refine ⟨fun hi => ?_, fun hi => k w1 e⟩
  have hi := of_decide_eq_true hi
  obtain ⟨a1, x1, hx1, hc1⟩ := SrcAt.get (e.src h1) (i := (p : Int)) (by omega) hi
  obtain ⟨a2, x2, hx2, hc2⟩ := SrcAt.get (e.src h2) (i := (p : Int)) (by omega) (by omega)
  obtain rfl : x1 = x2 := by rw [hx1] at hx2; exact Option.some.inj hx2
  have wp : IntKind.i64.wrap ((p : Int) + 1) = ((p + 1 : Nat) : Int) := by rw [i64_in _ (by omega) (by omega)]; omega
  refine ⟨a1, by omega, hi, x1, hc1, a2, by omega, by omega, x1, hc2, fun w2 e2 => ⟨fun h => by simp at h, fun _ => ?_⟩⟩
  rw [wp]
  exact ⟨⟨p + 1, rfl, by omega, e.trans e2⟩, by show _ - _ < _ - _; omega⟩
end
end Go.Proofs.Ytpdegdnigcnjiaa
