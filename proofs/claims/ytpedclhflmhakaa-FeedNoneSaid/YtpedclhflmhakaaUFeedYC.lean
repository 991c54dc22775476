/- Chapter 16: Close and Held. -/
import Derived.Test.YtpedclhflmhakaaUFeed
namespace Go.Proofs.Ytpedclhflmhakaa
open Go
set_option linter.unusedVariables false
set_option linter.unusedSimpArgs false

section
variable {w0 : Base} {w : World} {fr cs : List Chunk} {sp f : Option Addr} {m : Option FdM}
theorem sp_fd_Close {R : World → Prop} (o : FdO w0 sp m f cs) (st : St w0 (cs ++ fr) w) (k : ∀ cs' w', FdO w0 sp (closeM m) f cs' → St w0 (cs' ++ fr) w' → R w') : C_feed_Feed_Close f w R := by
  apply S_feed_Feed_Close
  unfold F_feed_Feed_Close
  refine sp_fd_there o st ⟨fun h => ?_, fun h => ?_⟩
  · cases m with
    | none => cases h
    | some m =>
      obtain ⟨b, sb, rfl, rfl, mb, hp, hcs, scs, ok, rfl, hm, hs, hh⟩ := o
      refine ⟨rfl, st.writable 0 rfl (by show 6 + 1 ≤ 7; omega), fun w1 hw1 => ?_⟩
      exact k _ w1 ⟨b, sb, rfl, rfl, mb, hp, hcs, scs, ok.close, rfl, hm, hs, hh⟩ (st.put0 hw1)
  · cases m with
    | none => exact k cs w o st
    | some m => cases h
theorem sp_fd_Held {R : Int → World → Prop} (o : FdO w0 sp m f cs) (st : St w0 (cs ++ fr) w) (k : R (heldM m) w) : C_feed_Feed_Held f w R := by
  apply S_feed_Feed_Held
  unfold F_feed_Feed_Held F_feed_Feed_Held_k0
  refine sp_fd_there o st ⟨fun h => ?_, fun h => ?_⟩
  · cases m with
    | none => exact ⟨fun _ => k, fun h => (by cases h)⟩
    | some m => cases h
  cases m with
  | none => cases h
  | some m =>
    obtain ⟨b, sb, rfl, rfl, mb, hp, hcs, scs, ok, rfl, hm, hs, hh⟩ := o
    refine ⟨rfl, hp, st.cell 0 rfl rfl, ?_⟩
    cases ht : m.held with
    | none =>
      rw [ht] at hh
      obtain ⟨rfl, rfl⟩ := hh
      have e : heldM (some m) = 0 := by unfold heldM; simp only [ht]
      rw [e] at k
      exact ⟨fun _ => k, fun h => (by cases h)⟩
    | some t =>
      rw [ht] at hh
      obtain ⟨hb, s, rb, rfl, rfl, rs⟩ := hh
      have e : heldM (some m) = t.1 := by unfold heldM; simp only [ht]
      rw [e] at k
      exact ⟨fun h => (by cases h), fun _ => ⟨rfl, _, st.cell 0 rfl rfl, rfl, t.1, st.cell 1 rfl rfl, k⟩⟩
end
end Go.Proofs.Ytpedclhflmhakaa
