/- Chapter 06: logs compared. -/
import Derived.Test.YtpdegdnigcnjiaaULogM
import Derived.Test.YtpdegdnigcnjiaaURecordS
namespace Go.Proofs.Ytpdegdnigcnjiaa
open Go
set_option linter.unusedVariables false
set_option linter.unusedSimpArgs false

section
variable {w0 : Base} {w : World} {fr : List Chunk}
theorem sp_SameTxnsL {s1 s2 : Slc} {ts : List Tx} {l1 l2 : List Slc} {R : Bool → World → Prop} (h1 : LAt w s1 ts l1) (h2 : LAt w s2 ts l2) (hl : s1.len ≤ 4398046511104) (k : ∀ w', Ext w w' → R true w') : C_towpathlaw01_SameTxns s1 s2 w R := by
  apply S_towpathlaw01_SameTxns
  unfold F_towpathlaw01_SameTxns
  have e1 := h1.slen
  have e2 := h2.slen
  refine ⟨fun h => ?_, fun _ => ⟨fun i w' => ∃ p : Nat, i = (p : Int) ∧ p ≤ s1.len ∧ Ext w w', fun i _ => s1.len - i.toNat, ⟨0, rfl, by omega, Ext.refl _⟩, ?_⟩⟩
  · have h : ¬ ((s1.len : Nat) : Int) = ((s2.len : Nat) : Int) := by simpa using h
    omega
  rintro i w1 ⟨p, rfl, hp, e⟩
  unfold F_towpathlaw01_SameTxns_L0
  refine ⟨fun hi => ?_, fun hi => k w1 e⟩
  have hi := of_decide_eq_true hi
  obtain ⟨a1, t, x1, ht, hx1, hc1, hr1, g1, g2⟩ := (h1.ext e).get (p := p) (by omega)
  obtain ⟨a2, t', x2, ht', hx2, hc2, hr2, g3, g4⟩ := (h2.ext e).get (p := p) (by omega)
  rw [ht] at ht'
  obtain rfl := Option.some.inj ht'
  have wp : IntKind.i64.wrap ((p : Int) + 1) = ((p + 1 : Nat) : Int) := by rw [i64_in _ (by omega) (by omega)]; omega
  refine ⟨a1, by omega, hi, ⟨t.1, x1⟩, by rw [Int.toNat_natCast]; exact hc1, a2, by omega, by omega, ⟨t.1, x2⟩, by rw [Int.toNat_natCast]; exact hc2, true, fun w' e' => ?_, fun w3 e3 => ⟨fun h => by simp at h, fun _ => ?_⟩⟩
  · refine sp_SameTxn (a := ⟨t.1, x1⟩) (b := ⟨t.1, x2⟩) (e'.src hr1) (e'.src hr2) (by show x1.len ≤ _; omega) fun w'' e'' => ⟨?_, e''⟩
    exact decide_eq_true ⟨rfl, rfl⟩
  · rw [wp]
    exact ⟨⟨p + 1, rfl, by omega, e.trans e3⟩, by show _ - _ < _ - _; omega⟩
end

end Go.Proofs.Ytpdegdnigcnjiaa
