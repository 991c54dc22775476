/- Chapter 12: those beyond, as numbers; a gate made again. -/
import Derived.Test.YtchcljkflklddaaUGate
namespace Go.Proofs.Ytchcljkflklddaa
open Go
set_option linter.unusedVariables false

theorem row_src {sz : Nat} {s : Slc} {xs : List Value} {bs l : List Chunk} {w0 : World} (r : RowC sz s xs bs) : ∀ l' w', St w0 (l' ++ (bs ++ l)) w' → SrcAt w' s sz xs := fun l' w' st => r.src st.drop

def beyV (m : GM) : List Int := (beyF m.S m.mark).map fun (n : Nat) => (n : Int)
theorem beyV_map (m : GM) : (beyF m.S m.mark).map (fun (n : Nat) => iV (n : Int)) = (beyV m).map iV := by
  unfold beyV; rw [List.map_map]; rfl
theorem beyV_mem {m : GM} {x : Int} : x ∈ beyV m ↔ ∃ n : Nat, x = (n : Int) ∧ m.mark < n ∧ n ≤ 65536 ∧ m.S n = true := by
  unfold beyV
  rw [List.mem_map]
  constructor
  · rintro ⟨n, hn, rfl⟩; exact ⟨n, rfl, mem_beyF.1 hn⟩
  · rintro ⟨n, rfl, hn⟩; exact ⟨n, mem_beyF.2 hn, rfl⟩
theorem beyV_sorted (m : GM) : (beyV m).Pairwise (· < ·) := by
  unfold beyV
  rw [List.pairwise_map]
  exact (beyF_sorted m.S m.mark).imp fun h => by omega
/-- A gate's own mark and those beyond make a gate, and it has the same. -/
theorem bey_ok {m : GM} (h : m.S (m.mark + 1) = false) : newOk m.mark m.mark (beyV m) = true :=
  newOk_of (beyV_sorted m) fun x hx => by
    obtain ⟨n, rfl, h1, h2, h3⟩ := beyV_mem.1 hx
    have : n ≠ m.mark + 1 := fun e => by rw [e, h] at h3; cases h3
    omega
theorem bey_same {m : GM} {top : Nat} (hS : ∀ n, m.S n = true → m.mark < n ∧ n ≤ m.top) (ht : m.top ≤ 65536) : (fun j : Nat => decide ((j : Int) ∈ beyV m)) = m.S := by
  funext j
  rw [Bool.eq_iff_iff, decide_eq_true_eq, beyV_mem]
  constructor
  · rintro ⟨n, hn, _, _, h⟩; rw [show j = n from by omega]; exact h
  · intro h; have := hS j h; exact ⟨j, rfl, this.1, by omega, h⟩
theorem GateO.facts {g : Option Addr} {m : GM} {bs : List Chunk} (o : GateO g m bs) : m.mark ≤ m.top ∧ m.top ≤ 65536 ∧ ∀ n, m.S n = true → m.mark < n ∧ n ≤ m.top := by
  obtain ⟨b, ws, _, _, _, _, _, h1, h2, h3⟩ := o; exact ⟨h1, h2, h3⟩
/-- Behind Done the one above the mark is not there. -/
theorem next_gap {m : GM} {n : Nat} (hm : m.mark < n) (hn : n ≤ 65536) (hS : ∀ n, m.S n = true → m.mark < n ∧ n ≤ m.top) (ht : m.top ≤ 65536) : (m.next n).S ((m.next n).mark + 1) = false := by
  obtain ⟨h1, h2, h3⟩ := runF_spec (m.done n) (65536 - m.mark) m.mark
  unfold GM.next GM.up
  simp only
  rcases Nat.lt_or_ge (runF (m.done n) m.mark (65536 - m.mark)) (65536 - m.mark) with h | h
  · rw [h3 h]; rfl
  · cases hx : m.done n (m.mark + runF (m.done n) m.mark (65536 - m.mark) + 1) with
    | false => rfl
    | true =>
      unfold GM.done at hx
      simp only [Bool.or_eq_true, decide_eq_true_eq] at hx
      rcases hx with hx | hx
      · have := hS _ hx; unfold GM.done at h; omega
      · unfold GM.done at h; omega

theorem up_same (m : GM) (t n : Nat) : GM.up ⟨m.mark, t, m.S⟩ n = m.up n := rfl
theorem next_mark (m : GM) (t n : Nat) : (m.next n).mark = (GM.next ⟨m.mark, t, m.S⟩ n).mark := by unfold GM.next; rw [up_same]; rfl
theorem next_S (m : GM) (t n : Nat) : (m.next n).S = (GM.next ⟨m.mark, t, m.S⟩ n).S := by unfold GM.next; rw [up_same]; rfl

end Go.Proofs.Ytchcljkflklddaa
