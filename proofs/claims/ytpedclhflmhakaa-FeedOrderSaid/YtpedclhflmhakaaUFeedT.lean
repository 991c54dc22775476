/- Transactions compared. -/
import Derived.Test.YtpedclhflmhakaaUWrK
import Derived.Test.YtpedclhflmhakaaULogS
import Derived.Test.YtpedclhflmhakaaGtowpathlaw01
namespace Go.Proofs.Ytpedclhflmhakaa
open Go
set_option linter.unusedVariables false
set_option linter.unusedSimpArgs false

section
variable {w0 : Base} {w : World} {fr : List Chunk}
theorem sp_SameTxn {n : Int} {s1 s2 : Slc} {ws : List Wr} {R : Bool → World → Prop} (h1 : SrcAt w s1 3 (ws.flatMap wV)) (h2 : SrcAt w s2 3 (ws.flatMap wV)) (hl : s1.len ≤ 140737488351232) (k : ∀ w', Ext w w' → R true w') : C_towpathlaw01_SameTxn ⟨n, s1⟩ ⟨n, s2⟩ w R := by
  apply S_towpathlaw01_SameTxn
  unfold F_towpathlaw01_SameTxn
  intro b1 w1 hb1 hw1 b2 w2 hb2 hw2
  have st : St ⟨w, []⟩ [(b2, txW n s2), (b1, txW n s1)] w2 := ((St.start w).alloc (cs := txW n s1) hb1 hw1).alloc (cs := txW n s2) hb2 hw2
  refine ⟨n, st.cell 1 rfl rfl, n, st.cell 0 rfl rfl, fun _ => ⟨s1, st.cell 1 rfl rfl, s2, st.cell 0 rfl rfl, ?_⟩, fun h => by simp at h⟩
  have g1 := st.ext.src h1
  have g2 := st.ext.src h2
  have l1 := wr_len h1
  have l2 := wr_len h2
  apply S_towpathlaw01_SameWrites
  unfold F_towpathlaw01_SameWrites
  refine ⟨fun h => ?_, fun _ => ⟨fun i w' => ∃ p : Nat, i = (p : Int) ∧ p ≤ s1.len ∧ Ext w2 w', fun i _ => s1.len - i.toNat, ⟨0, rfl, by omega, Ext.refl _⟩, ?_⟩⟩
  · have h : ¬ ((s1.len : Nat) : Int) = ((s2.len : Nat) : Int) := by simpa using h
    omega
  rintro i w3 ⟨p, rfl, hp, e⟩
  unfold F_towpathlaw01_SameWrites_L0
  refine ⟨fun hi => ?_, fun hi => k w3 (st.ext.trans e)⟩
  have hi := of_decide_eq_true hi
  obtain ⟨a1, x, hx, c1⟩ := wr_atN (e.src g1) (i := p) (by omega)
  obtain ⟨a2, y, hy, c2⟩ := wr_atN (e.src g2) (i := p) (by omega)
  rw [hx] at hy
  obtain rfl := Option.some.inj hy
  have wp : IntKind.i64.wrap ((p : Int) + 1) = ((p + 1 : Nat) : Int) := by rw [i64_in _ (by omega) (by omega)]; omega
  refine ⟨a1, by omega, hi, x, by rw [Int.toNat_natCast]; exact c1, a2, by omega, by omega, x, by rw [Int.toNat_natCast]; exact c2, fun w4 e4 => ⟨fun h => ?_, fun _ => ?_⟩⟩
  · rw [wr_eqW] at h; simp at h
  · rw [wp]
    exact ⟨⟨p + 1, rfl, by omega, e.trans e4⟩, by show _ - _ < _ - _; omega⟩

end
end Go.Proofs.Ytpedclhflmhakaa
