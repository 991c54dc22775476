/- Chapter 02: each number has one encoding, and no one is the beginning of another. -/
import Derived.Test.YtpdegdnigcnjiaaUCodecT
namespace Go.Proofs.Ytpdegdnigcnjiaa
open Go
set_option linter.unusedVariables false
set_option linter.unusedSimpArgs false

theorem varB_ne (f n : Nat) : varB (f + 1) n ≠ [] := by unfold varB; split <;> simp
theorem varF_ne (n : Nat) : varF n ≠ [] := varB_ne 9 n
theorem varB_mono : ∀ (f : Nat) {m n : Nat}, m ≤ n → (varB f m).length ≤ (varB f n).length
  | 0, _, _, _ => Nat.le_refl _
  | f + 1, m, n, h => by
    by_cases hm : m < 128
    · have : (varB (f + 1) m).length = 1 := by unfold varB; rw [if_pos hm]; rfl
      have := List.length_pos_iff.2 (varB_ne f n)
      omega
    · unfold varB
      rw [if_neg hm, if_neg (by omega), List.length_cons, List.length_cons]
      have := varB_mono f (show m / 128 ≤ n / 128 by omega)
      omega
/-- No short number's bytes are the beginning of another one's. -/
theorem varF_apart {n m : Nat} (hn : n < 2 ^ 64) (hm : m < 2 ^ 64) (hl : (varF n).length ≤ (varF m).length) (h : varF n = (varF m).take (varF n).length) : n = m := by
  have e : varF m = varF n ++ (varF m).drop (varF n).length := by
    conv => lhs; rw [← List.take_append_drop (varF n).length (varF m)]
    rw [← h]
  have h1 := shF_var hm []
  rw [List.append_nil, e, shF_var hn] at h1
  exact congrArg Prod.fst h1

theorem shA_canon : ∀ (l : List UInt8) (i acc v sz : Nat), i ≤ 9 → shA i acc l = (v, sz, 0) →
    ∃ m, v = acc + m * 128 ^ i ∧ (0 < i → 0 < m) ∧ l.take (sz - i) = varB (10 - i) m ∧ sz = i + (varB (10 - i) m).length
  | [], i, acc, v, sz, _, h => by simp [shA] at h
  | c :: r, i, acc, v, sz, hi, h => by
    have hb := c.toNat_lt
    unfold shA at h
    split at h
    · simp at h
    · rename_i hne
      obtain ⟨f, hf⟩ : ∃ f, 10 - i = f + 1 := ⟨9 - i, by omega⟩
      rw [hf]
      split at h
      · rename_i hlt
        simp only [Prod.mk.injEq, and_true] at h
        obtain ⟨rfl, rfl⟩ := h
        have e : varB (f + 1) c.toNat = [c] := by
          unfold varB
          rw [if_pos hlt]
          simp
        refine ⟨c.toNat, by rw [Nat.mod_eq_of_lt hlt], fun h0 => by omega, ?_, by rw [e]; rfl⟩
        rw [e, show i + 1 - i = 1 from by omega]
        rfl
      · rename_i hge
        have h9 : i ≠ 9 := fun h9 => by omega
        obtain ⟨m', hv, hpos, htake, hsz⟩ := shA_canon r (i + 1) _ v sz (by omega) h
        have hm' := hpos (by omega)
        have hf2 : 10 - (i + 1) = f := by omega
        rw [hf2] at htake hsz
        have e : varB (f + 1) (c.toNat % 128 + 128 * m') = c :: varB f m' := by
          rw [varB, if_neg (by omega)]
          have e1 : (c.toNat % 128 + 128 * m') % 128 + 128 = c.toNat := by omega
          have e2 : (c.toNat % 128 + 128 * m') / 128 = m' := by omega
          rw [e1, e2]
          simp
        refine ⟨c.toNat % 128 + 128 * m', ?_, fun _ => by omega, ?_, by rw [e, List.length_cons]; omega⟩
        · rw [hv, Nat.add_mul, Nat.pow_succ, Nat.mul_assoc 128, Nat.mul_comm 128 (m' * 128 ^ i), Nat.mul_assoc m', Nat.add_assoc]
        · rw [e, show sz - i = (sz - (i + 1)) + 1 from by omega, List.take_succ_cons, htake]
theorem shF_canon {l : List UInt8} (h : (shF l).2.2 = 0) : l.take (shF l).2.1 = varF (shF l).1 ∧ (shF l).2.1 = (varF (shF l).1).length := by
  obtain ⟨m, hv, _, ht, hs⟩ := shA_canon l 0 0 (shF l).1 (shF l).2.1 (by omega) (by
    have : shF l = ((shF l).1, (shF l).2.1, (shF l).2.2) := rfl
    rw [h] at this; exact this)
  simp only [Nat.pow_zero, Nat.mul_one, Nat.zero_add, Nat.sub_zero] at hv ht hs
  subst hv
  exact ⟨ht, hs⟩
theorem shA_short : ∀ (f m i acc k : Nat), i + f = 10 → m < 128 ^ f → m * 128 ^ i < 2 ^ 64 → (0 < i → 0 < m) → k < (varB f m).length → shA i acc ((varB f m).take k) = (0, 0, 5)
  | 0, _, _, _, _, _, _, _, _, hk => by simp [varB] at hk
  | f + 1, m, i, acc, 0, _, _, _, _, _ => by simp [shA]
  | f + 1, m, i, acc, k + 1, hif, hm, h64, hpos, hk => by
    unfold varB at hk ⊢
    by_cases hlt : m < 128
    · rw [if_pos hlt] at hk; simp at hk
    · rw [if_neg hlt] at hk ⊢
      have hc : (UInt8.ofNat (m % 128 + 128)).toNat = m % 128 + 128 := by rw [UInt8.toNat_ofNat']; omega
      have hf : f ≠ 0 := fun e => by subst e; simp at hm; omega
      rw [List.take_succ_cons, shA, hc, if_neg, if_neg (by omega)]
      · refine shA_short f (m / 128) (i + 1) _ k (by omega) (by rw [Nat.div_lt_iff_lt_mul (by omega)]; rw [Nat.pow_succ] at hm; exact hm) ?_ (fun _ => by omega) (by simpa using hk)
        have h128 : 128 * 128 ^ i = 128 ^ (i + 1) := by rw [Nat.pow_succ, Nat.mul_comm]
        have : m / 128 * 128 ^ (i + 1) ≤ m * 128 ^ i := by
          rw [← h128, ← Nat.mul_assoc]
          exact Nat.mul_le_mul_right _ (Nat.div_mul_le_self _ _)
        omega
      · rintro (⟨h9, h1⟩ | ⟨h0, h1⟩)
        · omega
        · omega
theorem shF_short {n k : Nat} (h : n < 2 ^ 64) (hk : k < (varF n).length) : shF ((varF n).take k) = (0, 0, 5) :=
  shA_short 10 n 0 0 k rfl (by have : (2 : Nat) ^ 64 ≤ 128 ^ 10 := by decide
                               omega) (by simpa using h) (fun h => by omega) hk

end Go.Proofs.Ytpdegdnigcnjiaa
