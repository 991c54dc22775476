/- Chapter 05 in plain lists. -/
import Derived.Test.YtpdegdnigcnjiaaURecord
namespace Go.Proofs.Ytpdegdnigcnjiaa
open Go
set_option linter.unusedVariables false
set_option linter.unusedSimpArgs false

theorem textR_cases {most : Int} (h0 : 0 ≤ most) (l : List UInt8) : (∃ c, c ≠ 0 ∧ textR most ⟨l, 0⟩ = (⟨l, c⟩, [])) ∨
    ∃ key r, textR most ⟨l, 0⟩ = (⟨r, 0⟩, key) ∧ l = varF key.length ++ (key ++ r) ∧ (key.length : Int) ≤ most := by
  unfold textR
  simp only
  rw [if_neg (by simp), if_neg (by omega)]
  obtain ⟨hb1, hb2, hb3⟩ := shF_bd l
  by_cases he : (shF l).2.2 = 0
  · rw [if_neg (by omega)]
    by_cases c1 : ((shF l).1 : Int) > most
    · rw [if_pos c1]; exact .inl ⟨3, by decide, rfl⟩
    rw [if_neg c1]
    by_cases c2 : (shF l).1 > l.length - (shF l).2.1
    · rw [if_pos c2]; exact .inl ⟨5, by decide, rfl⟩
    rw [if_neg c2]
    obtain ⟨d1, d2⟩ := shF_canon he
    have e2 : ((l.drop (shF l).2.1).take (shF l).1).length = (shF l).1 := by rw [List.length_take, List.length_drop]; omega
    refine .inr ⟨_, _, rfl, ?_, by rw [e2]; omega⟩
    rw [e2, ← d1, ← List.drop_drop, List.take_append_drop, List.take_append_drop]
  · rw [if_pos he]; exact .inl ⟨_, he, rfl⟩
theorem varR_cases (l : List UInt8) : (∃ c, c ≠ 0 ∧ varR ⟨l, 0⟩ = (⟨l, c⟩, 0)) ∨ ∃ n r, varR ⟨l, 0⟩ = (⟨r, 0⟩, n) ∧ l = varF n ++ r ∧ n < 2 ^ 64 := by
  unfold varR
  simp only
  rw [if_neg (by simp)]
  obtain ⟨hb1, hb2, hb3⟩ := shF_bd l
  by_cases he : (shF l).2.2 = 0
  · rw [if_neg (by omega)]
    obtain ⟨d1, d2⟩ := shF_canon he
    refine .inr ⟨_, _, rfl, ?_, hb1⟩
    rw [← d1, List.take_append_drop]
  · rw [if_pos he]; exact .inl ⟨_, he, rfl⟩
theorem fixR_cases (l : List UInt8) : (l = [] ∧ fixR 1 ⟨l, 0⟩ = (⟨l, 5⟩, 0)) ∨ ∃ c r, fixR 1 ⟨l, 0⟩ = (⟨r, 0⟩, c) ∧ l = fixB 1 c ++ r ∧ c < 256 := by
  cases l with
  | nil => exact .inl ⟨rfl, rfl⟩
  | cons c r =>
    have hb := c.toNat_lt
    refine .inr ⟨c.toNat, r, ?_, ?_, hb⟩
    · unfold fixR
      rw [if_neg (by simp), if_neg (by omega), if_neg (by simp only [List.length_cons]; omega)]
      show ((⟨r, 0⟩ : RS), c.toNat + 256 * 0) = _
      simp
    · show c :: r = UInt8.ofNat (c.toNat % 256) :: r
      rw [Nat.mod_eq_of_lt hb]; simp
theorem varR_short {n k : Nat} (h : n < 2 ^ 64) (hk : k < (varF n).length) : varR ⟨(varF n).take k, 0⟩ = (⟨(varF n).take k, 5⟩, 0) := by
  unfold varR; simp [shF_short h hk]
theorem textR_short {key : List UInt8} {most : Int} {k : Nat} (hl : key.length ≤ 140737488351232) (hm : (key.length : Int) ≤ most) (hk : k < (varF key.length ++ key).length) :
    textR most ⟨(varF key.length ++ key).take k, 0⟩ = (⟨(varF key.length ++ key).take k, 5⟩, []) := by
  by_cases h : k < (varF key.length).length
  · rw [List.take_append_of_le_length (by omega)]
    unfold textR
    simp only [shF_short (show key.length < 2 ^ 64 by omega) h]
    rw [if_neg (by simp), if_neg (by omega), if_pos (by decide)]
  · rw [List.length_append] at hk
    have e : (varF key.length ++ key).take k = varF key.length ++ key.take (k - (varF key.length).length) := by
      rw [List.take_append, List.take_of_length_le (by omega)]
    rw [e]
    unfold textR
    simp only [shF_var (show key.length < 2 ^ 64 by omega)]
    rw [if_neg (by simp), if_neg (by omega), if_neg (by simp), if_neg (by omega), if_pos (by simp only [List.length_append, List.length_take]; omega)]

/-! ### Decode -/
def decW2 (key : ByteArray) (l : List UInt8) : (Wr × List UInt8) ⊕ Int :=
  if (textR 1024 ⟨l, 0⟩).1.code ≠ 0 then .inr (textR 1024 ⟨l, 0⟩).1.code else .inl (⟨key, mkS (textR 1024 ⟨l, 0⟩).2, false⟩, (textR 1024 ⟨l, 0⟩).1.rest)
def decW1 (key : ByteArray) (l : List UInt8) : (Wr × List UInt8) ⊕ Int :=
  if (fixR 1 ⟨l, 0⟩).1.code ≠ 0 then .inr (fixR 1 ⟨l, 0⟩).1.code else if (fixR 1 ⟨l, 0⟩).2 > 1 then .inr 4
  else if (fixR 1 ⟨l, 0⟩).2 = 1 then .inl (⟨key, ByteArray.empty, true⟩, (fixR 1 ⟨l, 0⟩).1.rest) else decW2 key (fixR 1 ⟨l, 0⟩).1.rest
def decW (l : List UInt8) : (Wr × List UInt8) ⊕ Int :=
  if (textR 64 ⟨l, 0⟩).1.code ≠ 0 then .inr (textR 64 ⟨l, 0⟩).1.code else if (textR 64 ⟨l, 0⟩).2 = [] then .inr 1
  else decW1 (mkS (textR 64 ⟨l, 0⟩).2) (textR 64 ⟨l, 0⟩).1.rest
def decWs : Nat → List UInt8 → (List Wr × List UInt8) ⊕ Int
  | 0, l => .inl ([], l)
  | k + 1, l => match decW l with
    | .inr c => .inr c
    | .inl (x, r) => match decWs k r with
      | .inr c => .inr c
      | .inl (xs, r') => .inl (x :: xs, r')
def decT1 (n : Nat) (l : List UInt8) : (Nat × List Wr) ⊕ Int :=
  if (varR ⟨l, 0⟩).1.code ≠ 0 then .inr (varR ⟨l, 0⟩).1.code else if (varR ⟨l, 0⟩).2 > 32 then .inr 3
  else match decWs (varR ⟨l, 0⟩).2 (varR ⟨l, 0⟩).1.rest with
    | .inr c => .inr c
    | .inl (ws, r) => if r ≠ [] then .inr 4 else .inl (n, ws)
def decT (l : List UInt8) : (Nat × List Wr) ⊕ Int :=
  if (varR ⟨l, 0⟩).1.code ≠ 0 then .inr (varR ⟨l, 0⟩).1.code else if (varR ⟨l, 0⟩).2 < 1 ∨ (varR ⟨l, 0⟩).2 > 65536 then .inr 1
  else decT1 (varR ⟨l, 0⟩).2 (varR ⟨l, 0⟩).1.rest

theorem mkS_size (l : List UInt8) : (mkS l).size = l.length := by simp [mkS, ByteArray.size]
theorem dsz (s : ByteArray) : s.data.toList.length = s.size := by simp
theorem mkS_toList (l : List UInt8) : (mkS l).data.toList = l := by simp [mkS]
theorem size_zero {s : ByteArray} (h : s.size = 0) : s = ByteArray.empty := by
  have h1 := dsz s
  rw [h] at h1
  have h2 := List.eq_nil_of_length_eq_zero h1
  rw [← mkS_data s, h2]; rfl

theorem decW_put {x : Wr} (h : goodW x) (t : List UInt8) : decW (encW x ++ t) = .inl (x, t) := by
  obtain ⟨h1, h2, h3, h4⟩ := h
  have hk := dsz x.Key
  have hv := dsz x.Val
  have e : encW x ++ t = varF x.Key.data.toList.length ++ (x.Key.data.toList ++ (fixB 1 (if x.Drop then 1 else 0) ++ ((if x.Drop then [] else varF x.Val.size ++ x.Val.data.toList) ++ t))) := by
    unfold encW; rw [hk]; simp only [List.append_assoc]
  unfold decW
  rw [e, textR_put (by omega) (by omega)]
  simp only
  rw [if_neg (by simp), if_neg (fun hh => by rw [hh] at hk; simp at hk; omega), mkS_data]
  unfold decW1
  rw [show (1 : Int) = ((1 : Nat) : Int) from rfl, fixR_put (by omega) (by omega) (by split <;> decide)]
  simp only
  rw [if_neg (by simp), if_neg (by split <;> decide)]
  cases hd : x.Drop with
  | true =>
    rw [if_pos (by rfl)]
    have := size_zero (h4 hd)
    cases x
    simp only at this hd
    subst this; subst hd
    rfl
  | false =>
    rw [if_neg (by decide)]
    unfold decW2
    have e2 : (if false = true then [] else varF x.Val.size ++ x.Val.data.toList) ++ t = varF x.Val.data.toList.length ++ (x.Val.data.toList ++ t) := by
      rw [hv]; simp
    rw [e2, textR_put (by omega) (by omega)]
    simp only
    rw [if_neg (by simp), mkS_data]
    cases x
    simp only at hd
    subst hd
    rfl
theorem decWs_put : ∀ {ws : List Wr} (h : ∀ x ∈ ws, goodW x) (t : List UInt8), decWs ws.length (ws.flatMap encW ++ t) = .inl (ws, t)
  | [], _, t => rfl
  | x :: ws, h, t => by
    rw [List.length_cons, decWs, List.flatMap_cons, List.append_assoc, decW_put (h x (List.mem_cons_self ..))]
    simp only
    rw [decWs_put fun y hy => h y (List.mem_cons_of_mem _ hy)]
theorem decT_put {n : Int} {ws : List Wr} (h : okT n ws) (t : List UInt8) : decT (encT n ws ++ t) = if t = [] then .inl (n.toNat, ws) else .inr 4 := by
  obtain ⟨h1, h2, h3, h4⟩ := h
  unfold decT encT
  rw [List.append_assoc, List.append_assoc, varR_put (by omega)]
  simp only
  rw [if_neg (by simp), if_neg (by omega)]
  unfold decT1
  rw [varR_put (by omega)]
  simp only
  rw [if_neg (by simp), if_neg (by omega), decWs_put h4]
  simp only
  by_cases ht : t = []
  · rw [if_pos ht, if_neg (by simpa using ht)]
  · rw [if_neg ht, if_pos ht]

/-! Short of its end. -/
theorem decW_short {x : Wr} {k : Nat} (h : goodW x) (hk : k < (encW x).length) : decW ((encW x).take k) = .inr 5 := by
  obtain ⟨h1, h2, h3, h4⟩ := h
  have hkd := dsz x.Key
  have hvd := dsz x.Val
  generalize hA : varF x.Key.data.toList.length ++ x.Key.data.toList = A
  generalize hB : (if x.Drop then [] else varF x.Val.size ++ x.Val.data.toList) = B
  generalize hf : (if x.Drop then 1 else 0) = f
  have hf2 : f < 256 := by rw [← hf]; split <;> decide
  have e : encW x = A ++ (fixB 1 f ++ B) := by unfold encW; rw [hB, hf, ← hA, hkd]
  have hl := fixB_len 1 f
  rw [e, List.length_append, List.length_append, hl] at hk
  rw [e]
  by_cases c1 : k < A.length
  · rw [List.take_append_of_le_length (by omega), ← hA]
    unfold decW
    rw [textR_short (by omega) (by omega) (by rw [hA]; exact c1)]
    rw [if_pos (by show (5 : Int) ≠ 0; decide)]
  have e1 : (A ++ (fixB 1 f ++ B)).take k = varF x.Key.data.toList.length ++ (x.Key.data.toList ++ (fixB 1 f ++ B).take (k - A.length)) := by
    rw [List.take_append, List.take_of_length_le (by omega), ← hA, List.append_assoc]
  unfold decW
  rw [e1, textR_put (by omega) (by omega)]
  simp only
  rw [if_neg (by simp), if_neg (fun hh => by rw [hh] at hkd; simp at hkd; omega)]
  unfold decW1
  by_cases c2 : k - A.length = 0
  · rw [c2, List.take_zero]
    rw [if_pos (by decide)]; rfl
  have e3 : (fixB 1 f ++ B).take (k - A.length) = fixB 1 f ++ B.take (k - A.length - 1) := by rw [List.take_append, List.take_of_length_le (by omega), hl]
  rw [e3, show (1 : Int) = ((1 : Nat) : Int) from rfl, fixR_put (by omega) (by omega) (by simpa using hf2)]
  simp only
  rw [if_neg (by simp), if_neg (by rw [← hf]; split <;> decide)]
  cases hd : x.Drop with
  | true => rw [hd, if_pos (by rfl)] at hB; rw [← hB] at hk; simp at hk; omega
  | false =>
    rw [hd, if_neg (by decide)] at hB hf
    rw [if_neg (by rw [← hf]; decide)]
    unfold decW2
    rw [← hvd] at hB
    rw [← hB, textR_short (by omega) (by omega) (by rw [hB]; omega)]
    rw [if_pos (by show (5 : Int) ≠ 0; decide)]
theorem decWs_short : ∀ {ws : List Wr} {k : Nat} (h : ∀ x ∈ ws, goodW x) (hk : k < (ws.flatMap encW).length), decWs ws.length ((ws.flatMap encW).take k) = .inr 5
  | [], k, _, hk => by simp at hk
  | x :: ws, k, h, hk => by
    rw [List.flatMap_cons, List.length_append] at hk
    rw [List.length_cons, decWs, List.flatMap_cons]
    by_cases c : k < (encW x).length
    · rw [List.take_append_of_le_length (by omega), decW_short (h x (List.mem_cons_self ..)) c]
    · rw [List.take_append, List.take_of_length_le (by omega), decW_put (h x (List.mem_cons_self ..))]
      simp only
      rw [decWs_short (fun y hy => h y (List.mem_cons_of_mem _ hy)) (by omega)]
theorem decT_short {n : Int} {ws : List Wr} {k : Nat} (h : okT n ws) (hk : k < (encT n ws).length) : decT ((encT n ws).take k) = .inr 5 := by
  obtain ⟨h1, h2, h3, h4⟩ := h
  unfold encT at hk ⊢
  rw [List.length_append, List.length_append] at hk
  unfold decT
  by_cases c : k < (varF n.toNat).length
  · rw [List.take_append_of_le_length (by omega), varR_short (by omega) c]
    rw [if_pos (by show (5 : Int) ≠ 0; decide)]
  rw [List.take_append, List.take_of_length_le (by omega), varR_put (by omega)]
  simp only
  rw [if_neg (by simp), if_neg (by omega)]
  unfold decT1
  by_cases c2 : k - (varF n.toNat).length < (varF ws.length).length
  · rw [List.take_append_of_le_length (by omega), varR_short (by omega) c2]
    rw [if_pos (by show (5 : Int) ≠ 0; decide)]
  rw [List.take_append, List.take_of_length_le (by omega), varR_put (by omega)]
  simp only
  rw [if_neg (by simp), if_neg (by omega), decWs_short h4 (by omega)]

/-! Only one encoding. -/
theorem decW_one {l r : List UInt8} {x : Wr} (h : decW l = .inl (x, r)) : goodW x ∧ l = encW x ++ r := by
  unfold decW at h
  rcases textR_cases (show (0 : Int) ≤ 64 by decide) l with ⟨c, hc, he⟩ | ⟨key, r1, he, hl, hk⟩
  · rw [he] at h; simp only at h; rw [if_pos hc] at h; cases h
  rw [he] at h
  simp only at h
  rw [if_neg (by simp)] at h
  by_cases hkn : key = []
  · rw [if_pos hkn] at h; cases h
  rw [if_neg hkn] at h
  have hkl : 1 ≤ key.length := by have := List.length_pos_iff.2 hkn; omega
  unfold decW1 at h
  rcases fixR_cases r1 with ⟨_, he2⟩ | ⟨f, r2, he2, hl2, hf⟩
  · rw [he2] at h; simp only at h; rw [if_pos (by decide)] at h; cases h
  rw [he2] at h
  simp only at h
  rw [if_neg (by simp)] at h
  by_cases hf1 : f > 1
  · rw [if_pos hf1] at h; cases h
  rw [if_neg hf1] at h
  by_cases hf2 : f = 1
  · rw [if_pos hf2] at h
    simp only [Sum.inl.injEq, Prod.mk.injEq] at h
    obtain ⟨rfl, rfl⟩ := h
    refine ⟨⟨by simp only [mkS_size]; omega, by simp only [mkS_size]; omega, by show (0 : Nat) ≤ 1024; decide, fun _ => rfl⟩, ?_⟩
    rw [hl, hl2, hf2]
    unfold encW
    simp only [mkS_size, mkS_toList, if_true, List.append_nil, List.append_assoc]
  · rw [if_neg hf2] at h
    unfold decW2 at h
    rcases textR_cases (show (0 : Int) ≤ 1024 by decide) r2 with ⟨c, hc, he3⟩ | ⟨v, r3, he3, hl3, hv⟩
    · rw [he3] at h; simp only at h; rw [if_pos hc] at h; cases h
    rw [he3] at h
    simp only at h
    rw [if_neg (by simp)] at h
    simp only [Sum.inl.injEq, Prod.mk.injEq] at h
    obtain ⟨rfl, rfl⟩ := h
    refine ⟨⟨by simp only [mkS_size]; omega, by simp only [mkS_size]; omega, by simp only [mkS_size]; omega, fun h => by cases h⟩, ?_⟩
    have hf0 : f = 0 := by omega
    rw [hl, hl2, hl3, hf0]
    unfold encW
    simp only [mkS_size, mkS_toList, Bool.false_eq_true, if_false, List.append_assoc]
theorem decWs_one : ∀ {k : Nat} {l r : List UInt8} {ws : List Wr}, decWs k l = .inl (ws, r) → (∀ x ∈ ws, goodW x) ∧ ws.length = k ∧ l = ws.flatMap encW ++ r
  | 0, l, r, ws, h => by
    simp only [decWs, Sum.inl.injEq, Prod.mk.injEq] at h
    obtain ⟨rfl, rfl⟩ := h
    exact ⟨fun x hx => (by cases hx), rfl, rfl⟩
  | k + 1, l, r, ws, h => by
    rw [decWs] at h
    split at h
    · cases h
    · rename_i x r1 h1
      split at h
      · cases h
      · rename_i xs r2 h2
        simp only [Sum.inl.injEq, Prod.mk.injEq] at h
        obtain ⟨rfl, rfl⟩ := h
        obtain ⟨g1, l1⟩ := decW_one h1
        obtain ⟨g2, n2, l2⟩ := decWs_one h2
        refine ⟨fun y hy => ?_, by simp [n2], by rw [l1, l2, List.flatMap_cons, List.append_assoc]⟩
        rcases List.mem_cons.1 hy with rfl | hy
        · exact g1
        · exact g2 y hy
theorem decT_one {l : List UInt8} {n : Nat} {ws : List Wr} (h : decT l = .inl (n, ws)) : okT (n : Int) ws ∧ l = encT (n : Int) ws := by
  unfold decT at h
  rcases varR_cases l with ⟨c, hc, he⟩ | ⟨n1, r1, he, hl, hn⟩
  · rw [he] at h; simp only at h; rw [if_pos hc] at h; cases h
  rw [he] at h
  simp only at h
  rw [if_neg (by simp)] at h
  by_cases hb : n1 < 1 ∨ n1 > 65536
  · rw [if_pos hb] at h; cases h
  rw [if_neg hb] at h
  unfold decT1 at h
  rcases varR_cases r1 with ⟨c, hc, he2⟩ | ⟨k, r2, he2, hl2, hk⟩
  · rw [he2] at h; simp only at h; rw [if_pos hc] at h; cases h
  rw [he2] at h
  simp only at h
  rw [if_neg (by simp)] at h
  by_cases hb2 : k > 32
  · rw [if_pos hb2] at h; cases h
  rw [if_neg hb2] at h
  split at h
  · cases h
  · rename_i ws' r3 h3
    split at h
    · cases h
    · rename_i hr
      have hr : r3 = [] := by simpa using hr
      simp only [Sum.inl.injEq, Prod.mk.injEq] at h
      obtain ⟨rfl, rfl⟩ := h
      obtain ⟨g, ln, l3⟩ := decWs_one h3
      refine ⟨⟨by omega, by omega, by omega, g⟩, ?_⟩
      rw [hl, hl2, l3, hr, List.append_nil]
      unfold encT
      rw [ln]; rfl
/-- Two records whose encodings are alike as far as the shorter goes are one. -/
theorem encT_apart {n m : Int} {ws us : List Wr} (h : okT n ws) (h' : okT m us) (hp : (encT n ws).take (min (encT n ws).length (encT m us).length) = (encT m us).take (min (encT n ws).length (encT m us).length)) : n = m ∧ ws = us := by
  have key : ∀ {n m : Int} {ws us : List Wr}, okT n ws → okT m us → (encT n ws).length ≤ (encT m us).length → encT n ws = (encT m us).take (encT n ws).length → n = m ∧ ws = us := by
    intro n m ws us h h' hl e
    have d := decT_put h []
    rw [List.append_nil, if_pos rfl] at d
    by_cases hlt : (encT n ws).length < (encT m us).length
    · rw [e, decT_short h' hlt] at d; cases d
    · rw [List.take_of_length_le (by omega)] at e
      have d' := decT_put h' []
      rw [List.append_nil, if_pos rfl, ← e, d] at d'
      simp only [Sum.inl.injEq, Prod.mk.injEq] at d'
      have a := h.1
      have b := h'.1
      exact ⟨by omega, d'.2⟩
  rcases Nat.le_total (encT n ws).length (encT m us).length with hl | hl
  · rw [Nat.min_eq_left hl, List.take_length] at hp
    exact key h h' hl hp
  · rw [Nat.min_eq_right hl, List.take_length] at hp
    obtain ⟨a, b⟩ := key h' h hl hp.symm
    exact ⟨a.symm, b.symm⟩

end Go.Proofs.Ytpdegdnigcnjiaa
