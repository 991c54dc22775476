/- Chapter 08: the document's newest. -/
import Derived.Test.YtcgfmkpddhhmgaaDoorURefChain
namespace Go.Proofs.YtcgfmkpddhhmgaaDoor
open Go
set_option linter.unusedVariables false

theorem sp_ref_newest {s : Slc} {vs : List Ver} {at_ : Int} {w : World} {R : Int → World → Prop} (hs : SrcAt w s 3 (vs.flatMap verC)) (hl : s.len ≤ 4398046511104) (hr : Rises vs) (k : R (((upF at_ vs : Nat) : Int) - 1) w) : C_towpathref08_newest s at_ w R := by
  apply S_towpathref08_newest
  unfold F_towpathref08_newest
  have hsl := ver_len hs
  have hu := upF_le at_ vs
  refine ⟨fun k i w' => ∃ p : Nat, i = (p : Int) ∧ p ≤ s.len ∧ k = ((min p (upF at_ vs) : Nat) : Int) - 1 ∧ w' = w, fun _ i _ => s.len - i.toNat, ⟨0, rfl, by omega, by simp, rfl⟩, ?_⟩
  rintro kk i w1 ⟨p, rfl, hp, rfl, rfl⟩
  unfold F_towpathref08_newest_L0
  refine ⟨fun hi => ?_, fun hi => ?_⟩
  · have hi := of_decide_eq_true hi
    obtain ⟨a, v, hv, hc⟩ := ver_at hs (i := p) (by omega)
    have hiff := upF_iff (at_ := at_) hr hv
    have wp : IntKind.i64.wrap ((p : Int) + 1) = ((p + 1 : Nat) : Int) := by rw [i64_in _ (by omega) (by omega)]; omega
    unfold F_towpathref08_newest_k1
    rw [wp]
    refine ⟨a, by omega, hi, v.Number, by rw [Int.toNat_natCast]; exact cell0 hc, fun h => ?_, fun h => ?_⟩
    · have := hiff.1 (of_decide_eq_true h)
      exact ⟨⟨p + 1, rfl, by omega, by omega, rfl⟩, by show _ - _ < _ - _; omega⟩
    · have : ¬ p < upF at_ vs := fun hh => of_decide_eq_false h (hiff.2 hh)
      exact ⟨⟨p + 1, rfl, by omega, by omega, rfl⟩, by show _ - _ < _ - _; omega⟩
  · have hi := of_decide_eq_false hi
    rw [show ((min p (upF at_ vs) : Nat) : Int) - 1 = ((upF at_ vs : Nat) : Int) - 1 from by omega]
    exact k

end Go.Proofs.YtcgfmkpddhhmgaaDoor
