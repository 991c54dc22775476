/- Chapter 16: the document's feeds are made. -/
import Derived.Test.YtpedclhflmhakaaUFeedW
import Derived.Test.YtpedclhflmhakaaURefFeedM
import Derived.Test.YtpedclhflmhakaaULogRN
import Derived.Test.YtpedclhflmhakaaGtowpathref16
namespace Go.Proofs.Ytpedclhflmhakaa
open Go
set_option linter.unusedVariables false
set_option linter.unusedSimpArgs false

section
variable {w0 : Base} {w : World} {fr scs : List Chunk} {sb : Nat} {ts : List Tx}
theorem sp_rg_NewN {mark window : Int} {beyond : Slc} {R : Option Addr → Int → World → Prop} (k : R none 2 w) : C_towpathref16_New none mark beyond window w R := by
  apply S_towpathref16_New
  exact ⟨fun _ => k, fun h => (by cases h)⟩
theorem sp_rg_New {mark window : Int} {beyond : Slc} {bs : List Int} {R : Option Addr → Int → World → Prop} (hc : chkL 1 ts = 0) (o : RsO sb ts [] scs) (st : St w0 (scs ++ fr) w) (hb : ∀ {l' : List Chunk} {w' : World}, St w0 (l' ++ (scs ++ fr)) w' → SrcAt w' beyond 1 (bs.map iV))
    (hl : beyond.len ≤ 17592186043904) (hm : -9223372036854775808 ≤ mark ∧ mark ≤ 9223372036854775807) (hbs : ∀ x ∈ bs, -9223372036854775808 ≤ x ∧ x ≤ 9223372036854775807)
    (k0 : newF ts mark bs window ≠ 0 → ∀ w', St w0 (scs ++ fr) w' → R none (newF ts mark bs window) w')
    (k1 : newF ts mark bs window = 0 → ∀ b cs w', RgS (newM ts mark bs window) b cs → St w0 (cs ++ fr) w' → R (some ⟨b, 0, none⟩) 0 w') : C_towpathref16_New (some ⟨sb, 0, none⟩) mark beyond window w R := by
  classical
  apply S_towpathref16_New
  unfold F_towpathref16_New
  have hbl : beyond.len = bs.length := (hb (l' := []) st).len_eq
  refine ⟨fun h => (by cases h), fun _ => ⟨fun h => ?_, fun h => ?_⟩⟩
  · simp only [Bool.or_eq_true, decide_eq_true_eq] at h
    have e : newF ts mark bs window = 1 := by unfold newF; rw [if_pos (by omega)]
    rw [e] at k0
    exact k0 (by decide) w st
  simp only [Bool.or_eq_false_iff, decide_eq_false_iff_not] at h
  have hg : ¬ (mark < 0 ∨ window < 1 ∨ window > 64) := by omega
  refine ⟨fun i w' => ∃ p : Nat, i = (p : Int) ∧ p ≤ beyond.len ∧ upB mark bs p ∧ St w0 (scs ++ fr) w', fun i _ => beyond.len - i.toNat, ⟨0, rfl, by omega, fun i x hi => by omega, st⟩, ?_⟩
  clear st
  rintro i w2 ⟨p, rfl, hp, hup, st⟩
  obtain ⟨hle, hml⟩ := upB_le hup (by omega)
  have bad : ∀ x, bs[p]? = some x → ¬ stepB mark bs p x → ∀ w', Ext w2 w' → R none 1 w' := fun x hx hn w' e => by
    have e1 : newF ts mark bs window = 1 := by unfold newF; rw [if_neg hg, if_pos (fun hall => hn (hall p x (List.getElem?_eq_some_iff.1 hx).1 hx))]
    rw [e1] at k0
    exact k0 (by decide) w' (st.keep e)
  unfold F_towpathref16_New_L0
  refine ⟨fun hi => ?_, fun hi => ?_⟩
  · have hi := of_decide_eq_true hi
    obtain ⟨a, x, hx, hcx⟩ := SrcAt.get (hb (l' := []) st) (i := (p : Int)) (by omega) hi
    rw [Int.toNat_natCast] at hx hcx
    have hxr := hbs x (List.mem_of_getElem? hx)
    have wp : IntKind.i64.wrap ((p : Int) + 1) = ((p + 1 : Nat) : Int) := by rw [i64_in _ (by omega) (by omega)]; omega
    unfold F_towpathref16_New_k1
    rw [wp]
    have go : stepB mark bs p x → ∀ w', Ext w2 w' → ∃ q : Nat, ((p + 1 : Nat) : Int) = (q : Int) ∧ q ≤ beyond.len ∧ upB mark bs q ∧ St w0 (scs ++ fr) w' := fun hs w' e => ⟨p + 1, rfl, by omega, upB_succ hup hx hs, st.keep e⟩
    have hmeas : beyond.len - ((p + 1 : Nat) : Int).toNat < beyond.len - ((p : Nat) : Int).toNat := by omega
    refine ⟨fun h0 => ?_, fun h0 => ⟨fun h1 => ?_, fun h1 => ?_⟩⟩
    · have hp0 : p = 0 := by have : ((p : Nat) : Int) = 0 := by simpa using h0
                             omega
      subst hp0
      refine ⟨a, by omega, hi, x, hcx, fun h1 w3 e3 => ⟨fun _ => bad x hx (fun hs => ?_) w3 e3, fun h => (by cases h)⟩, fun h1 => ⟨a, by omega, hi, x, hcx, fun h2 w4 e4 => ⟨fun _ => bad x hx (fun hs => ?_) w4 e4, fun h => (by cases h)⟩, fun h2 => ⟨fun h3 => ?_, fun h3 w6 e6 => ⟨fun h => (by cases h), fun _ => ⟨go ?_ w6 e6, hmeas⟩⟩⟩⟩⟩
      · have h1 := of_decide_eq_true h1
        have := hs.1
        rw [lastB_zero] at this; omega
      · have h1 := of_decide_eq_false h1
        have h2 := of_decide_eq_true h2
        rw [i64_in _ (by omega) (by omega)] at h2
        have := hs.2 rfl
        omega
      · have h3 := of_decide_eq_true h3; omega
      · have h1 := of_decide_eq_false h1
        have h2 := of_decide_eq_false h2
        rw [i64_in _ (by omega) (by omega)] at h2
        exact ⟨by rw [lastB_zero]; omega, fun _ => by omega⟩
    · have h1 := of_decide_eq_true h1
      obtain ⟨q, rfl⟩ : ∃ q, p = q + 1 := ⟨p - 1, by omega⟩
      have wq : IntKind.i64.wrap (((q + 1 : Nat) : Int) - 1) = (q : Int) := by rw [i64_in _ (by omega) (by omega)]; omega
      obtain ⟨a2, y, hy, hcy⟩ := SrcAt.get (hb (l' := []) st) (i := (q : Int)) (by omega) (by omega)
      rw [Int.toNat_natCast] at hy hcy
      refine ⟨a, by omega, hi, x, by rw [Int.toNat_natCast]; exact hcx, a, by rw [wq]; omega, by rw [wq]; omega, y, by rw [wq, Int.toNat_natCast]; exact hcy, fun w7 e7 => ⟨fun h2 => bad x hx (fun hs => ?_) w7 e7, fun h2 => ⟨go ?_ w7 e7, hmeas⟩⟩⟩
      · have h2 := of_decide_eq_true h2
        have := hs.1
        rw [lastB_succ hy] at this; omega
      · have h2 := of_decide_eq_false h2
        exact ⟨by rw [lastB_succ hy]; omega, fun h => by omega⟩
    · have h1 := of_decide_eq_false h1
      have h0 : ¬ ((p : Nat) : Int) = 0 := by simpa using h0
      omega
  · have hi := of_decide_eq_false hi
    have hpe : p = bs.length := by omega
    subst hpe
    refine sp_ref06_Last o st ?_
    have six : lastB mark bs bs.length > ((ts.length : Nat) : Int) → R none 6 w2 := fun h2 => by
      have e : newF ts mark bs window = 6 := by unfold newF; rw [if_neg hg, if_neg (fun hn => hn hup), if_pos h2]
      rw [e] at k0
      exact k0 (by decide) w2 st
    have fin : ¬ lastB mark bs bs.length > ((ts.length : Nat) : Int) → F_towpathref16_New_k2 (some ⟨sb, 0, none⟩) mark beyond window R false w2 := fun h2 => by
      unfold F_towpathref16_New_k2
      refine ⟨fun h => (by cases h), fun _ => ⟨bs.map iV, hb (l' := []) st, ?_⟩⟩
      have e : newF ts mark bs window = 0 := by unfold newF; rw [if_neg hg, if_neg (fun hn => hn hup), if_neg h2]
      refine (RowC.nil (sz := 1)).append (l := scs ++ fr) st (by simp [hbl]) (one_i bs) rfl (by show (0 + beyond.len) * 8 ≤ _; omega) fun bsl bb w3 rb st3 hl3 b1 w4 hb1 hw4 => ?_
      have st4 := st3.alloc (cs := rgV (some ⟨sb, 0, none⟩) mark bsl mark window false 0 ⟨none, 0, 0⟩ false) hb1 hw4
      have hmk : (((newM ts mark bs window).at_ : Nat) : Int) = mark := by show ((mark.toNat : Nat) : Int) = mark; omega
      have hwk : (((newM ts mark bs window).win : Nat) : Int) = window := by show ((window.toNat : Nat) : Int) = window; omega
      refine k1 e b1 ((b1, rgV (some ⟨sb, 0, none⟩) mark bsl mark window false 0 ⟨none, 0, 0⟩ false) :: (bb ++ ([] ++ scs))) w4 ⟨sb, bsl, bb, 0, ⟨none, 0, 0⟩, [], scs, newM_ok hc hg hup h2, ?_, by show bs.length ≤ _; omega, by show RowC 1 bsl (bs.map iV) bb; simpa using rb, by rw [newM_ask]; exact o, fun t ht => (by cases ht)⟩ (st4.perm (perm_of_sum fun f_ => by simp only [List.map_append, List.map_cons, List.map_nil, List.sum_append, List.sum_cons, List.sum_nil, List.append_nil]; omega))
      rw [show (((newM ts mark bs window).fed : Nat) : Int) = mark from hmk, hmk, hwk]; rfl
    refine ⟨fun h2 => ?_, fun h2 => ?_⟩
    · have h2 := of_decide_eq_true h2
      unfold F_towpathref16_New_k2
      exact ⟨fun _ => six (by omega), fun h => (by cases h)⟩
    · have h2 := of_decide_eq_false h2
      refine ⟨fun h3 => ?_, fun h3 => ?_⟩
      · have h3 := of_decide_eq_true h3
        have wq : IntKind.i64.wrap (((beyond.len : Nat) : Int) - 1) = ((bs.length - 1 : Nat) : Int) := by rw [i64_in _ (by omega) (by omega)]; omega
        obtain ⟨a2, y, hy, hcy⟩ := SrcAt.get (hb (l' := []) st) (i := ((bs.length - 1 : Nat) : Int)) (by omega) (by omega)
        rw [Int.toNat_natCast] at hy hcy
        have hyl := lastB_succ (mark := mark) hy
        rw [show bs.length - 1 + 1 = bs.length from by omega] at hyl
        refine ⟨a2, by rw [wq]; omega, by rw [wq]; omega, y, by rw [wq, Int.toNat_natCast]; exact hcy, ?_⟩
        by_cases h4 : y > ((ts.length : Nat) : Int)
        · rw [decide_eq_true h4]
          unfold F_towpathref16_New_k2
          exact ⟨fun _ => six (by rw [hyl]; exact h4), fun h => (by cases h)⟩
        · rw [decide_eq_false h4]; exact fin (by rw [hyl]; exact h4)
      · have h3 := of_decide_eq_false h3
        have hb0 : bs = [] := List.eq_nil_of_length_eq_zero (by omega)
        exact fin (by rw [hb0]; show ¬ mark > _; exact h2)
end
end Go.Proofs.Ytpedclhflmhakaa
