/- Chapter 16: what the laws share. -/
import Derived.Test.YtpedclhflmhakaaUFeedB
import Derived.Test.YtpedclhflmhakaaULogSA
namespace Go.Proofs.Ytpedclhflmhakaa
open Go
set_option linter.unusedVariables false
set_option linter.unusedSimpArgs false

theorem moreM_ok {m : FdM} {n : Nat} (hc : m.closed = false) (h1 : m.fed ≤ n) (h2 : n ≤ m.ts.length) : moreM (some m) (n : Int) = (0, some { m with fed := n }) := by
  unfold moreM
  simp only
  rw [if_neg (by rw [hc]; decide), if_neg (by omega)]; rfl
theorem readM_ok {m : FdM} {t : Tx} (hh : m.held = none) (hc : m.closed = false) (h : m.at_ < m.fed) (ht : m.ts[m.at_]? = some t) : readM (some m) = (((m.at_ + 1 : Nat) : Int), 0, some { m with at_ := m.at_ + 1, held := some t }) := by
  unfold readM
  simp only [hh]
  rw [if_neg (by rw [hc]; decide), if_pos h, ht]
theorem readM_end {m : FdM} (hh : m.held = none) (hc : m.closed = false) (h : ¬ m.at_ < m.fed) : readM (some m) = (0, 9, some m) := by
  unfold readM
  simp only [hh]
  rw [if_neg (by rw [hc]; decide), if_neg h]
theorem canM_three {m : FdM} {t : Tx} {mark : Int} (hh : m.held = some t) (h1 : ¬ t.1 ∈ m.bey) (h2 : nearP m t mark) : canM (some m) mark = 3 := by
  unfold canM
  simp only [hh]
  rw [if_neg h1, if_pos h2]
theorem dispM_ok {m : FdM} {t : Tx} {mark : Int} (hh : m.held = some t) (h1 : ¬ t.1 ∈ m.bey) (h2 : nearP m t mark) : dispM (some m) mark = (t, 0, some { m with held := none }) := by
  unfold dispM
  simp only [hh]
  rw [if_neg (fun h => h.elim h1 fun h => h h2)]
theorem not_bey {mark : Int} {bs : List Int} (h : upB mark bs bs.length) : ¬ (mark + 1) ∈ bs := fun hm => by
  obtain ⟨i, hi⟩ := List.getElem?_of_mem hm
  have hil := (List.getElem?_eq_some_iff.1 hi).1
  have hs := h i _ hil hi
  cases i with
  | zero => have := hs.2 rfl; omega
  | succ j =>
    have h0 : bs[0]? = some (bs[0]'(by omega)) := List.getElem?_eq_getElem (by omega)
    have hs0 := h 0 _ (by omega) h0
    have h2 := hs0.2 rfl
    have hj : bs[j]? = some (bs[j]'(by omega)) := List.getElem?_eq_getElem (by omega)
    have h1 := hs.1
    rw [lastB_succ hj] at h1
    have h3 : (bs[0]'(by omega)) ∈ bs.take (j + 1) := List.mem_iff_getElem?.2 ⟨0, by rw [List.getElem?_take, if_pos (by omega)]; exact h0⟩
    have h4 := (upB_le (p := j + 1) (fun i x hi hx => h i x (by omega) hx) (by omega)).1 _ h3
    rw [lastB_succ hj] at h4
    omega
theorem newF_zero {ts : List Tx} {mark win : Int} {bs : List Int} (h : newF ts mark bs win = 0) : 0 ≤ mark ∧ 1 ≤ win ∧ win ≤ 64 ∧ upB mark bs bs.length ∧ mark ≤ ((ts.length : Nat) : Int) := by
  unfold newF at h
  by_cases h1 : mark < 0 ∨ win < 1 ∨ win > 64
  · rw [if_pos h1] at h; cases h
  rw [if_neg h1] at h
  by_cases h2 : upB mark bs bs.length
  · rw [if_neg (fun hn => hn h2)] at h
    by_cases h3 : lastB mark bs bs.length > ((ts.length : Nat) : Int)
    · rw [if_pos h3] at h; cases h
    · have := (upB_le h2 (Nat.le_refl _)).2
      exact ⟨by omega, by omega, by omega, h2, by omega⟩
  · rw [if_pos h2] at h; cases h

section
variable {w0 : Base} {w : World} {fr fcs : List Chunk} {s f : Option Addr}
theorem sp_askedF {m : FdM} {R : Slc → World → Prop} (o : FdO w0 s (some m) f fcs) (st : St w0 (fcs ++ fr) w) (k : ∀ t rb w', RowC 1 t ((askL m).map iV) rb → St w0 (rb ++ (fcs ++ fr)) w' → t.len = m.at_ - m.m0 → R t w') : C_logfile_Source_Asked s w R := by
  obtain ⟨b, sb, rfl, rfl, mb, hp, hcs, scs, ok, rfl, hm, hs, hh⟩ := o
  have h1 := ok.len
  have h2 := ok.af
  have h3 := ok.fl
  have st2 : St w0 (scs ++ ((b, fdV (some ⟨sb, 0, none⟩) m.at_ m.fed m.win (some mb) hp m.closed) :: (hcs ++ fr))) w := st.perm (perm_of_sum fun f_ => by simp only [List.map_append, List.map_cons, List.map_nil, List.sum_append, List.sum_cons, List.sum_nil, List.append_nil]; omega)
  exact sp_lf_Asked hs st2 (by rw [askL_len]; omega) fun t rb w1 r st hl => k t rb w1 r (st.perm (perm_of_sum fun f_ => by simp only [List.map_append, List.map_cons, List.map_nil, List.sum_append, List.sum_cons, List.sum_nil, List.append_nil]; omega)) (by rw [hl, askL_len])

end
end Go.Proofs.Ytpedclhflmhakaa
