/- A cell of one's own row is written. -/
import Derived.Test.YtpdegdnigcnjiaaUCodecK
namespace Go.Proofs.Ytpdegdnigcnjiaa
open Go
set_option linter.unusedVariables false
set_option linter.unusedSimpArgs false

/-- A cell of one's own slice is written. -/
theorem RowC.set {s : Slc} {xs : List Value} {bs l : List Chunk} {w0 : Base} {w : World} {i : Nat} {v : Value} (h : RowC 1 s xs bs) (st : St w0 (bs ++ l) w) (hi : i < s.len) :
    IsAt s.ptr ∧ Writable w (pblk s.ptr) (poff s.ptr + i) 1 ∧ ∀ w', w' = World.puts (pblk s.ptr) (poff s.ptr + i) [v] w → ∃ bs', RowC 1 s (xs.set i v) bs' ∧ St w0 (bs' ++ l) w' := by
  rcases h with ⟨hp, hl, hcz, rfl, rfl⟩ | ⟨b, pre, rest, suf, hp, rfl, hx, hr, hle⟩
  · omega
  · rw [hp]
    have hx1 : xs.length = s.len := by omega
    refine ⟨rfl, st.writable 0 rfl (by show pre.length + i + 1 ≤ _; simp; omega), fun w' hw => ?_⟩
    have hn := st.put0 hw
    refine ⟨[(b, pre ++ (xs.set i v ++ (rest ++ suf)))], .inr ⟨b, pre, rest, suf, hp, rfl, by rw [List.length_set]; exact hx, by rw [List.length_set]; exact hr, hle⟩, ?_⟩
    have e : putL (poff (some ⟨b, pre.length, none⟩ : Option Addr) + i) [v] (pre ++ (xs ++ (rest ++ suf))) = pre ++ (xs.set i v ++ (rest ++ suf)) := by
      rw [putL_one]
      show (pre ++ (xs ++ (rest ++ suf))).set (pre.length + i) v = _
      rw [List.set_append_right _ _ (by omega), show pre.length + i - pre.length = i from by omega, List.set_append_left _ _ (by omega)]
    rw [e] at hn
    exact hn
end Go.Proofs.Ytpdegdnigcnjiaa
