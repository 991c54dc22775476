/- Chapter 06: plain laws of logs that are spoilt. -/
import Derived.Test.YtpdegdnigcnjiaaULogP
namespace Go.Proofs.Ytpdegdnigcnjiaa
open Go
set_option linter.unusedVariables false
set_option linter.unusedSimpArgs false

theorem rd_nil {i : Nat} {ys : List Tx} {rem : List UInt8} {e : Int} (h : Rd i [] ys rem e) : ys = [] ∧ rem = [] ∧ e = 0 := by
  generalize hL : ([] : List UInt8) = L at h
  cases h with
  | nil => exact ⟨rfl, rfl, rfl⟩
  | bad g1 g2 g3 => exact absurd hL.symm g1
  | turn g1 g2 g3 => exact absurd hL.symm g1
  | step g1 g2 g3 g4 => exact absurd hL.symm g1
theorem encL_app (a b : List Tx) : encL (a ++ b) = encL a ++ encL b := by unfold encL; rw [List.flatMap_append]
theorem encL_at {ts : List Tx} {p : Nat} {t : Tx} (h : ts[p]? = some t) : encL ts = encL (ts.take p) ++ (encR t ++ encL (ts.drop (p + 1))) := by
  have e : ts = ts.take p ++ t :: ts.drop (p + 1) := by
    obtain ⟨hl, rfl⟩ := List.getElem?_eq_some_iff.1 h
    rw [← List.drop_eq_getElem_cons hl, List.take_append_drop]
  conv => lhs; rw [e, encL_app]
  unfold encL
  rw [List.flatMap_cons]
theorem encL_take_at {ts : List Tx} {p : Nat} {t : Tx} (h : ts[p]? = some t) : encL (ts.take (p + 1)) = encL (ts.take p) ++ encR t := by
  rw [List.take_add_one, h, encL_app]
  unfold encL
  simp
theorem spoil_read {ts : List Tx} {p k : Nat} {other : UInt8} {xs : List Tx} {rem : List UInt8} {e : Int} (hc : chkL 1 ts = 0) (hp : p < ts.length) (h1 : (encL (ts.take p)).length ≤ k) (h2 : k < (encL (ts.take (p + 1))).length)
    (ho : (encL ts)[k]? ≠ some other) (h : Rd 1 ((encL ts).set k other) xs rem e) : ∃ ys, xs = ts.take p ++ ys ∧ rem.length + (encL (ts.take p)).length ≤ (encL ts).length ∧ ∀ y, ys[0]? = some y → ts[p]? ≠ some y := by
  have ht : ts[p]? = some (ts[p]'hp) := List.getElem?_eq_getElem hp
  generalize ts[p]'hp = t at ht
  have e1 := encL_at ht
  rw [encL_take_at ht, List.length_append] at h2
  rw [e1, List.set_append_right _ _ h1, List.set_append_left _ _ (by omega)] at h
  obtain ⟨ys, hy, hr⟩ := rd_put (chkL_take p hc) h
  obtain ⟨a, b, c⟩ := rd_sound hr
  have bl := congrArg List.length b
  simp only [List.length_append, List.length_set] at bl
  refine ⟨ys, hy, by rw [e1]; simp only [List.length_append]; omega, fun y hy0 hyt => ?_⟩
  rw [ht] at hyt
  obtain rfl := Option.some.inj hyt
  cases ys with
  | nil => cases hy0
  | cons y0 r =>
    obtain rfl : y0 = t := by simpa using hy0
    have e2 : encL (y0 :: r) = encR y0 ++ encL r := by unfold encL; rw [List.flatMap_cons]
    rw [e2, List.append_assoc] at b
    have g := congrArg (fun l => l[k - (encL (ts.take p)).length]?) b
    rw [List.getElem?_append_left (by rw [List.length_set]; omega), List.getElem?_append_left (by omega), List.getElem?_set_self (by omega)] at g
    refine ho ?_
    rw [e1, List.getElem?_append_right h1, List.getElem?_append_left (by omega)]
    exact g.symm
theorem spoil_end {ts : List Tx} {k : Nat} (h1 : (encL (ts.take ts.length)).length ≤ k) (h2 : k < (encL ts).length) : False := by
  rw [List.take_length] at h1; omega

theorem beq_ofQ {p q : Prop} [Decidable p] [Decidable q] (h : p ↔ q) : ((decide p) == (decide q)) = true := by
  by_cases hp : p
  · rw [decide_eq_true hp, decide_eq_true (h.1 hp)]; rfl
  · rw [decide_eq_false hp, decide_eq_false (fun hq => hp (h.2 hq))]; rfl
theorem beq_intQ (a b : Int) : (a == b) = decide (a = b) := by
  by_cases h : a = b
  · subst h; simp
  · rw [decide_eq_false h]; simpa using h
theorem tmod_lt {a : Int} {n : Nat} (h0 : 0 ≤ a) (hn : 0 < n) : ∃ q : Nat, Int.tmod a (n : Int) = (q : Int) ∧ q < n := by
  obtain ⟨m, rfl⟩ := Int.eq_ofNat_of_zero_le h0
  exact ⟨m % n, rfl, Nat.mod_lt _ hn⟩
theorem one_bV (l : List UInt8) : oneCells (l.map bV) = true := by
  unfold oneCells
  rw [List.all_map]
  exact List.all_eq_true.2 fun _ _ => rfl

end Go.Proofs.Ytpdegdnigcnjiaa
