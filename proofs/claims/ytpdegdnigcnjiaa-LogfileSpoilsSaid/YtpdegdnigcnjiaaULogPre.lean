/- Chapter 06: the beginning of a log. -/
import Derived.Test.YtpdegdnigcnjiaaULogM
namespace Go.Proofs.Ytpdegdnigcnjiaa
open Go
set_option linter.unusedVariables false
set_option linter.unusedSimpArgs false

theorem flatMap_take {α β : Type} {f : α → List β} {sz : Nat} (hf : ∀ x, (f x).length = sz) : ∀ (l : List α) (k : Nat), (l.flatMap f).take (k * sz) = (l.take k).flatMap f
  | [], k => by simp
  | x :: l, 0 => by simp
  | x :: l, k + 1 => by
    rw [List.take_succ_cons, List.flatMap_cons, List.flatMap_cons, List.take_append, List.take_of_length_le (by rw [hf, Nat.add_mul]; omega), hf]
    rw [show (k + 1) * sz - sz = k * sz by rw [Nat.add_mul, Nat.one_mul, Nat.add_sub_cancel], flatMap_take hf l k]
theorem zip_take {α β : Type} (l : List α) (m : List β) (k : Nat) : (l.zip m).take k = (l.take k).zip (m.take k) := List.take_zipWith
theorem LAt.pre {w : World} {sl : Slc} {ts : List Tx} {sls : List Slc} {k : Nat} (h : LAt w sl ts sls) (hk : k ≤ sl.len) : LAt w ⟨sl.ptr, k, sl.cap⟩ (ts.take k) (sls.take k) := by
  have hl := h.len
  refine ⟨by rw [List.length_take, List.length_take, hl], ?_, fun i t s h1 h2 => ?_, fun s hs => h.cp s (List.mem_of_mem_take hs)⟩
  · have := h.src.pre hk
    rw [flatMap_take (sz := 2) (fun _ => rfl)] at this
    rw [← zip_take]; exact this
  · have hi : i < k := by have := (List.getElem?_eq_some_iff.1 h1).1; rw [List.length_take] at this; omega
    rw [List.getElem?_take_of_lt hi] at h1 h2
    exact h.wr i t s h1 h2

end Go.Proofs.Ytpdegdnigcnjiaa
