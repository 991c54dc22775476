/- Chapter 05: the document's Check. -/
import Derived.Test.YtfmkemmgakdddaaGreatDoorULogM
import Derived.Test.YtfmkemmgakdddaaGreatDoorGtowpathref05
namespace Go.Proofs.YtfmkemmgakdddaaGreatDoor
open Go
set_option linter.unusedVariables false
set_option linter.unusedSimpArgs false

section
variable {w0 : Base} {w : World} {fr : List Chunk}
theorem sp_ref05_Write {x : Wr} {R : Bool → World → Prop} (k : ∀ w', Ext w w' → R (decide (goodW x)) w') : C_towpathref05_Write x w R := by
  apply S_towpathref05_Write
  unfold F_towpathref05_Write
  intro b w1 hb hw
  have st : St ⟨w, []⟩ [(b, wV x)] w1 := (St.start w).alloc hb hw
  have k := k w1 st.ext
  have no : ¬ goodW x → R false w1 := fun h => by rw [decide_eq_false h] at k; exact k
  refine ⟨x.Key, st.cell 0 rfl rfl, S_towpathref05_Key (show F_towpathref05_Key _ _ _ from ⟨fun h1 => ⟨x.Val, st.cell 0 rfl rfl, ?_⟩, fun h1 => no fun hg => ?_⟩)⟩
  · simp only [Bool.and_eq_true, decide_eq_true_eq] at h1
    apply S_towpathref05_Val
    refine ⟨fun h2 => ⟨x.Drop, st.cell 0 rfl rfl, fun h3 => ?_, fun h3 => ⟨x.Val, st.cell 0 rfl rfl, ?_⟩⟩, fun h2 => no fun hg => ?_⟩
    · have h2 := of_decide_eq_true h2
      have h3 : x.Drop = false := by simpa using h3
      rw [decide_eq_true (show goodW x from ⟨by omega, by omega, by omega, fun h => by rw [h3] at h; cases h⟩)] at k; exact k
    · have h2 := of_decide_eq_true h2
      have h3 : x.Drop = true := by simpa using h3
      by_cases hv : x.Val.size = 0
      · rw [decide_eq_true (show goodW x from ⟨by omega, by omega, by omega, fun _ => hv⟩)] at k
        rw [hv]; exact k
      · rw [show (((x.Val.size : Nat) : Int) == 0) = false from by simpa using hv]
        exact no fun hg => hv (hg.2.2.2 h3)
    · have h2 := of_decide_eq_false h2
      have := hg.2.2.1; omega
  · have h1 : ¬ (((x.Key.size : Nat) : Int) ≥ 1 ∧ ((x.Key.size : Nat) : Int) ≤ 64) := by simpa using h1
    exact h1 ⟨by have := hg.1; omega, by have := hg.2.1; omega⟩

theorem sp_ref05_Check {t : T_api_Txn} {ws : List Wr} {R : Int → World → Prop} (hs : SrcAt w t.Writes 3 (ws.flatMap wV)) (hl : t.Writes.len ≤ 1099511627776)
    (k : ∀ w', Ext w w' → R (if okT t.Number ws then 0 else 1) w') : C_towpathref05_Check t w R := by
  apply S_towpathref05_Check
  unfold F_towpathref05_Check
  intro b w1 hb hw
  have st : St ⟨w, []⟩ [(b, txW t.Number t.Writes)] w1 := (St.start w).alloc hb hw
  have hsl := wr_len hs
  have no : ¬ okT t.Number ws → ∀ w', Ext w w' → R 1 w' := fun h w' e => by have := k w' e; rw [if_neg h] at this; exact this
  refine ⟨t.Number, st.cell 0 rfl rfl, ?_⟩
  apply S_towpathref05_Number
  unfold F_towpathref05_Check_k0
  refine ⟨fun h => ⟨fun _ => no (fun hg => ?_) w1 st.ext, fun h => (by cases h)⟩, fun h => ⟨t.Writes, st.cell 0 rfl rfl, fun h2 => no (fun hg => ?_) w1 st.ext, fun h2 => ?_⟩⟩
  · simp only [Bool.not_eq_true', Bool.and_eq_false_iff, decide_eq_false_iff_not] at h
    have := hg.1
    have := hg.2.1
    omega
  · have h2 := of_decide_eq_true h2
    have := hg.2.2.1; omega
  · simp only [Bool.not_eq_false', Bool.and_eq_true, decide_eq_true_eq] at h
    have h2 := of_decide_eq_false h2
    refine ⟨fun i w' => ∃ p : Nat, i = (p : Int) ∧ p ≤ t.Writes.len ∧ (∀ x ∈ ws.take p, goodW x) ∧ St ⟨w, []⟩ [(b, txW t.Number t.Writes)] w', fun i _ => t.Writes.len - i.toNat, ⟨0, rfl, by omega, by simp, st⟩, ?_⟩
    clear st
    rintro i w2 ⟨p, rfl, hp, hg, st⟩
    unfold F_towpathref05_Check_L1
    refine ⟨t.Writes, st.cell 0 rfl rfl, fun hi => ⟨t.Writes, st.cell 0 rfl rfl, ?_⟩, fun hi => ?_⟩
    · have hi := of_decide_eq_true hi
      obtain ⟨a, x, hx, hc⟩ := wr_atN (st.ext.src hs) (i := p) (by omega)
      have wp : IntKind.i64.wrap ((p : Int) + 1) = ((p + 1 : Nat) : Int) := by rw [i64_in _ (by omega) (by omega)]; omega
      refine ⟨a, by omega, hi, x, by rw [Int.toNat_natCast]; exact hc, sp_ref05_Write fun w3 e3 => ⟨fun hb => ?_, fun hb => ?_⟩⟩
      · have hb : ¬ goodW x := by simpa using hb
        exact no (fun hg => hb (hg.2.2.2 x (List.mem_of_getElem? hx))) w3 (st.keep e3).ext
      · have hb : goodW x := by simpa using hb
        rw [wp]
        refine ⟨⟨p + 1, rfl, by omega, fun y hy => ?_, st.keep e3⟩, by show _ - _ < _ - _; omega⟩
        rw [List.take_add_one, hx] at hy
        rcases List.mem_append.1 hy with hy | hy
        · exact hg y hy
        · have : y = x := by simpa using hy
          subst this; exact hb
    · have hi := of_decide_eq_false hi
      rw [List.take_of_length_le (by omega)] at hg
      have := k w2 st.ext
      rw [if_pos ⟨by omega, by omega, by omega, hg⟩] at this
      exact this
end
end Go.Proofs.YtfmkemmgakdddaaGreatDoor
