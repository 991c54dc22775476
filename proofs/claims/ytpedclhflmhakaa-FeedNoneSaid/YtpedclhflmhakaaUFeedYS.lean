/- Chapter 16: Skip. -/
import Derived.Test.YtpedclhflmhakaaUFeed
namespace Go.Proofs.Ytpedclhflmhakaa
open Go
set_option linter.unusedVariables false
set_option linter.unusedSimpArgs false

section
variable {w0 : Base} {w : World} {fr cs : List Chunk} {sp f : Option Addr} {m : Option FdM}
theorem sp_fd_Skip {R : Int → Int → World → Prop} (o : FdO w0 sp m f cs) (st : St w0 (cs ++ fr) w) (k : ∀ cs' w', FdO w0 sp (skipM m).2.2 f cs' → St w0 (cs' ++ fr) w' → R (skipM m).1 (skipM m).2.1 w') : C_feed_Feed_Skip f w R := by
  apply S_feed_Feed_Skip
  unfold F_feed_Feed_Skip
  refine sp_fd_there o st ⟨fun h => ?_, fun h => ?_⟩
  · cases m with
    | none => exact k cs w o st
    | some m => cases h
  cases m with
  | none => cases h
  | some m =>
    obtain ⟨b, sb, rfl, rfl, o⟩ := o
    obtain ⟨mb, hp, hcs, scs, ok, rfl, hm, hs, hh⟩ := id o
    refine ⟨rfl, hp, st.cell 0 rfl rfl, ?_⟩
    cases ht : m.held with
    | none =>
      have e : skipM (some m) = (0, 9, some m) := by unfold skipM; simp only [ht]
      rw [e] at k
      rw [ht] at hh
      obtain ⟨rfl, rfl⟩ := hh
      exact ⟨fun _ => k _ w ⟨b, sb, rfl, rfl, o⟩ st, fun h => (by cases h)⟩
    | some t =>
      have e : skipM (some m) = (if t.1 ∈ m.bey then (t.1, 0, some { m with held := none }) else (0, 6, some m)) := by unfold skipM; simp only [ht]
      rw [e] at k
      rw [ht] at hh
      obtain ⟨hb, s, rb, rfl, rfl, rs⟩ := hh
      refine ⟨fun h => (by cases h), fun _ => sp_fd_skips o st ht fun w1 st => ⟨fun h => ?_, fun h => ?_⟩⟩
      · have h : ¬ t.1 ∈ m.bey := by simpa using h
        rw [if_neg h] at k; exact k _ w1 ⟨b, sb, rfl, rfl, o⟩ st
      · have h : t.1 ∈ m.bey := by simpa using h
        rw [if_pos h] at k
        refine ⟨rfl, _, st.cell 0 rfl rfl, rfl, t.1, st.cell 1 rfl rfl, rfl, st.writable 0 rfl (by show 5 + 1 ≤ 7; omega), fun w2 hw2 => ?_⟩
        have st2 : St w0 (((b, fdV (some ⟨sb, 0, none⟩) m.at_ m.fed m.win (some mb) none m.closed) :: (((hb, txW t.1 s) :: rb) ++ scs)) ++ fr) w2 := st.put0 hw2
        exact k ((b, fdV (some ⟨sb, 0, none⟩) m.at_ m.fed m.win (some mb) none m.closed) :: ([] ++ scs)) w2 ⟨b, sb, rfl, rfl, mb, none, [], scs, ok.drop, rfl, hm, hs, rfl, rfl⟩ (st2.weak ((hb, txW t.1 s) :: rb) (perm_of_sum fun f_ => by simp only [List.map_append, List.map_cons, List.map_nil, List.sum_append, List.sum_cons, List.sum_nil, List.append_nil]; omega))

end
end Go.Proofs.Ytpedclhflmhakaa
