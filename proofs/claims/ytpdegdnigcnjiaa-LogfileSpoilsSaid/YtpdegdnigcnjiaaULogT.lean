/- Chapter 06: the size of a log's transactions. -/
import Derived.Test.YtpdegdnigcnjiaaULogM
import Derived.Test.YtpdegdnigcnjiaaURecordS
namespace Go.Proofs.Ytpdegdnigcnjiaa
open Go
set_option linter.unusedVariables false
set_option linter.unusedSimpArgs false

section
variable {w0 : Base} {w : World} {fr : List Chunk}
theorem sp_TxnsSizeL {sl : Slc} {ts : List Tx} {sls : List Slc} {R : Int → World → Prop} (ha : LAt w sl ts sls) (hl : sl.len ≤ 4398046511104) (k : ∀ v w', Ext w w' → R v w') : C_towpathlaw01_TxnsSize sl w R := by
  apply S_towpathlaw01_TxnsSize
  refine ⟨fun _ i w' => ∃ p : Nat, i = (p : Int) ∧ p ≤ sl.len ∧ Ext w w', fun _ i _ => sl.len - i.toNat, ⟨0, rfl, by omega, Ext.refl _⟩, ?_⟩
  rintro n i w1 ⟨p, rfl, hp, e⟩
  unfold F_towpathlaw01_TxnsSize_L0
  refine ⟨fun hi => ?_, fun hi => k _ _ e⟩
  simp only [Bool.and_eq_true, decide_eq_true_eq] at hi
  have hi1 := hi.1
  obtain ⟨a, t, s, ht, hs, hct, hsr, hcp1, hcp2⟩ := (ha.ext e).get (p := p) (by omega)
  have wp : IntKind.i64.wrap ((p : Int) + 1) = ((p + 1 : Nat) : Int) := by rw [i64_in _ (by omega) (by omega)]; omega
  refine ⟨a, by omega, hi1, ⟨t.1, s⟩, by rw [Int.toNat_natCast]; exact hct, sp_TxnSize (t := ⟨t.1, s⟩) hsr (by show s.len ≤ _; omega) fun v w2 e2 => ?_⟩
  rw [wp]
  exact ⟨⟨p + 1, rfl, by omega, e.trans e2⟩, by show _ - _ < _ - _; omega⟩
end

end Go.Proofs.Ytpdegdnigcnjiaa
