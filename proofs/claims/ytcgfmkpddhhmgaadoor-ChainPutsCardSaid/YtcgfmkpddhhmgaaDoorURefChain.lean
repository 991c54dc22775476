/- Chapter 08: what the document's functions on versions do. -/
import Derived.Test.YtcgfmkpddhhmgaaDoorUChainP
import Derived.Test.YtcgfmkpddhhmgaaDoorGtowpathref08
namespace Go.Proofs.YtcgfmkpddhhmgaaDoor
open Go
set_option linter.unusedVariables false

theorem sp_ref_May {v : Ver} {w : World} {R : Bool → World → Prop} (k : ∀ w', Ext w w' → R (mayV v) w') : C_towpathref08_May v w R := by
  apply S_towpathref08_May
  unfold F_towpathref08_May
  intro b w1 hb hw
  have st : St w [(b, verC v)] w1 := (St.start w).alloc hb hw
  have k := k w1 st.ext
  have no : mayV v = false → R false w1 := fun h => h ▸ k
  refine ⟨v.Number, st.cell 0 rfl rfl, fun h1 => ⟨v.Number, st.cell 0 rfl rfl, fun h2 => ⟨v.Val, st.cell 0 rfl rfl, fun h3 => ⟨v.Drop, st.cell 0 rfl rfl, fun h4 => ?_, fun h4 => ⟨v.Val, st.cell 0 rfl rfl, ?_⟩⟩, fun h3 => ?_⟩, fun h2 => ?_⟩, fun h1 => ?_⟩
  · have h1 := of_decide_eq_true h1
    have h2 := of_decide_eq_true h2
    have h3 := of_decide_eq_true h3
    have e : mayV v = true := by
      unfold mayV
      simp only [Bool.and_eq_true, Bool.or_eq_true, decide_eq_true_eq]
      exact ⟨⟨⟨by omega, by omega⟩, by omega⟩, .inl h4⟩
    rw [e] at k; exact k
  · have h1 := of_decide_eq_true h1
    have h2 := of_decide_eq_true h2
    have h3 := of_decide_eq_true h3
    have e : mayV v = (((v.Val.size : Nat) : Int) == 0) := by
      unfold mayV
      rw [decide_eq_true (show 1 ≤ v.Number by omega), decide_eq_true (show v.Number ≤ 65536 by omega), decide_eq_true (show v.Val.size ≤ 1024 by omega), h4]
      show decide (v.Val.size = 0) = _
      by_cases h0 : v.Val.size = 0
      · rw [decide_eq_true h0, h0]; rfl
      · rw [decide_eq_false h0]; symm; simpa using h0
    rw [e] at k; exact k
  · have h3 := of_decide_eq_false h3
    exact no (by unfold mayV; rw [decide_eq_false (show ¬ v.Val.size ≤ 1024 by omega), Bool.and_false]; rfl)
  · have h2 := of_decide_eq_false h2
    exact no (by unfold mayV; rw [decide_eq_false (show ¬ v.Number ≤ 65536 by omega), Bool.and_false]; rfl)
  · have h1 := of_decide_eq_false h1
    exact no (by unfold mayV; rw [decide_eq_false (show ¬ 1 ≤ v.Number by omega)]; rfl)

theorem sp_ref_Check {s : Slc} {vs : List Ver} {w : World} {R : Int → World → Prop} (hs : SrcAt w s 3 (vs.flatMap verC)) (hl : s.len ≤ 4398046511104) (k : ∀ w', Ext w w' → R (if okC 0 vs = true then 0 else 1) w') : C_towpathref08_Check s w R := by
  apply S_towpathref08_Check
  unfold F_towpathref08_Check
  have hsl := ver_len hs
  refine ⟨fun i w' => ∃ p : Nat, i = (p : Int) ∧ p ≤ s.len ∧ okC 0 vs = okC (if p = 0 then 0 else ((vs[p - 1]?).map (·.Number)).getD 0) (vs.drop p) ∧ Ext w w', fun i _ => s.len - i.toNat, ⟨0, rfl, by omega, rfl, Ext.refl _⟩, ?_⟩
  rintro i w1 ⟨p, rfl, hp, hok, e⟩
  unfold F_towpathref08_Check_L0
  refine ⟨fun hi w3 hd => ?_, fun hi => ?_⟩
  · have hi := of_decide_eq_true hi
    have e3 : Ext w w3 := e.trans (Qt.ext hd)
    obtain ⟨a, v, hv, hc⟩ := ver_at (e3.src hs) (i := p) (by omega)
    have hpl := (List.getElem?_eq_some_iff.1 hv).1
    have hdc : vs.drop p = v :: vs.drop (p + 1) := by
      rw [List.drop_eq_getElem_cons hpl]
      rw [List.getElem?_eq_getElem hpl] at hv
      rw [Option.some.inj hv]
    rw [hdc, okC] at hok
    have wp : IntKind.i64.wrap ((p : Int) + 1) = ((p + 1 : Nat) : Int) := by rw [i64_in _ (by omega) (by omega)]; omega
    obtain ⟨prev, hprev⟩ : ∃ prev, prev = (if p = 0 then 0 else ((vs[p - 1]?).map (·.Number)).getD 0) := ⟨_, rfl⟩
    rw [← hprev] at hok
    refine ⟨a, by omega, hi, v, by rw [Int.toNat_natCast]; exact hc, sp_ref_May fun w4 e4 => ?_⟩
    have e4 := e3.trans e4
    have bad : (mayV v && decide (prev < v.Number)) = false → R 1 w4 := fun h => by
      have := k w4 e4
      rw [hok, h] at this
      exact this
    have good : (mayV v && decide (prev < v.Number)) = true → ∃ q : Nat, ((p + 1 : Nat) : Int) = (q : Int) ∧ q ≤ s.len ∧ okC 0 vs = okC (if q = 0 then 0 else ((vs[q - 1]?).map (·.Number)).getD 0) (vs.drop q) ∧ Ext w w4 := fun h => by
      refine ⟨p + 1, rfl, by omega, ?_, e4⟩
      rw [hok, h, if_neg (by omega), Nat.add_sub_cancel, hv]; rfl
    unfold F_towpathref08_Check_k1
    rw [wp]
    refine ⟨fun h => ⟨fun _ => bad (by simp at h; rw [h]; rfl), fun h => (by cases h)⟩, fun hm => ⟨fun h0 => ?_, fun h0 => ⟨fun h => (by cases h), fun _ => ⟨good ?_, by show _ - _ < _ - _; omega⟩⟩⟩⟩
    · have hm : mayV v = true := by simpa using hm
      have h0 := of_decide_eq_true h0
      have wm : IntKind.i64.wrap ((p : Int) - 1) = ((p - 1 : Nat) : Int) := by rw [i64_in _ (by omega) (by omega)]; omega
      obtain ⟨a', u, hu, hc'⟩ := ver_at (e4.src hs) (i := p - 1) (by omega)
      obtain ⟨a2, v2, hv2, hc2⟩ := ver_at (e4.src hs) (i := p) (by omega)
      obtain rfl : v = v2 := by rw [hv] at hv2; exact Option.some.inj hv2
      have hpu : prev = u.Number := by rw [hprev, if_neg (by omega), hu]; rfl
      rw [wm]
      refine ⟨a', by omega, by omega, u.Number, by rw [Int.toNat_natCast]; exact cell0 hc', a, by omega, hi, v.Number, by rw [Int.toNat_natCast]; exact cell0 hc2, fun h => ?_, fun h => ⟨?_, by show _ - _ < _ - _; omega⟩⟩
      · have h := of_decide_eq_true h
        exact bad (by rw [decide_eq_false (by omega), Bool.and_false])
      · have h := of_decide_eq_false h
        exact good (by rw [hm, decide_eq_true (by omega)]; rfl)
    · have hm : mayV v = true := by simpa using hm
      have h0 := of_decide_eq_false h0
      have hpu : prev = 0 := by rw [hprev, if_pos (by omega)]
      have hn1 : 1 ≤ v.Number := by
        unfold mayV at hm
        simp only [Bool.and_eq_true, decide_eq_true_eq] at hm
        exact hm.1.1.1
      rw [hm, decide_eq_true (by omega)]; rfl
  · have hi := of_decide_eq_false hi
    rw [List.drop_eq_nil_of_le (by omega), okC] at hok
    have := k w1 e
    rw [hok] at this; exact this

end Go.Proofs.YtcgfmkpddhhmgaaDoor
