/- Chapter 06: logs as bytes, in plain lists. -/
import Derived.Test.YtpdegdnigcnjiaaURecordP
import Derived.Test.YtpdegdnigcnjiaaULogM
import Derived.Test.YtpdegdnigcnjiaaUSumD
namespace Go.Proofs.Ytpdegdnigcnjiaa
open Go
set_option linter.unusedVariables false
set_option linter.unusedSimpArgs false

def crcN (l : List UInt8) : Nat := (~~~ crcF (~~~ 0#32) l).toNat
theorem crcN_lt (l : List UInt8) : crcN l < 256 ^ 4 := by have := (~~~ crcF (~~~ 0#32) l).isLt; exact this
def encR (t : Tx) : List UInt8 := varF (encT t.1 t.2).length ++ (encT t.1 t.2 ++ fixB 4 (crcN (encT t.1 t.2)))
def encL (ts : List Tx) : List UInt8 := ts.flatMap encR
def recR (l : List UInt8) : (Tx × List UInt8) ⊕ Int :=
  if (textR 65536 ⟨l, 0⟩).1.code ≠ 0 then .inr (textR 65536 ⟨l, 0⟩).1.code
  else if (fixR 4 (textR 65536 ⟨l, 0⟩).1).1.code ≠ 0 then .inr (fixR 4 (textR 65536 ⟨l, 0⟩).1).1.code
  else if (fixR 4 (textR 65536 ⟨l, 0⟩).1).2 ≠ crcN (textR 65536 ⟨l, 0⟩).2 then .inr 4
  else match decT (textR 65536 ⟨l, 0⟩).2 with
    | .inr e => .inr e
    | .inl (n, ws) => .inl (((n : Int), ws), (fixR 4 (textR 65536 ⟨l, 0⟩).1).1.rest)

theorem fixB_leV : ∀ (l : List UInt8), fixB l.length (leV l) = l
  | [] => rfl
  | c :: r => by
    have hb := c.toNat_lt
    rw [List.length_cons, fixB, leV, show (c.toNat + 256 * leV r) / 256 = leV r from by omega, fixB_leV r]
    congr 1
    rw [show (c.toNat + 256 * leV r) % 256 = c.toNat from by omega]
    simp
theorem fix4_cases (l : List UInt8) : (l.length < 4 ∧ fixR 4 ⟨l, 0⟩ = (⟨l, 5⟩, 0)) ∨ ∃ c r, fixR 4 ⟨l, 0⟩ = (⟨r, 0⟩, c) ∧ l = fixB 4 c ++ r ∧ c < 4294967296 := by
  unfold fixR
  rw [if_neg (by simp), if_neg (by omega)]
  by_cases h : l.length < 4
  · rw [if_pos (by simp only; omega)]; exact .inl ⟨h, rfl⟩
  · rw [if_neg (by simp only; omega)]
    refine .inr ⟨_, _, rfl, ?_⟩
    have e : (l.take 4).length = 4 := by rw [List.length_take]; omega
    have := fixB_leV (l.take 4)
    rw [e] at this
    have hlt := leV_lt (l.take 4)
    rw [e] at hlt
    refine ⟨?_, hlt⟩
    show l = fixB 4 (leV (l.take 4)) ++ l.drop 4
    rw [this, List.take_append_drop]

theorem encT_pos {n : Int} {ws : List Wr} : 0 < (encT n ws).length := by
  unfold encT
  rw [List.length_append]
  have := List.length_pos_iff.2 (varF_ne n.toNat)
  omega
theorem encR_pos (t : Tx) : 0 < (encR t).length := by
  unfold encR
  rw [List.length_append]
  have := List.length_pos_iff.2 (varF_ne (encT t.1 t.2).length)
  omega
theorem encR_len {t : Tx} (h : okT t.1 t.2) : (encR t).length ≤ 36020 := by
  have := encT_len h
  have a := varB_len 10 (encT t.1 t.2).length
  unfold encR varF
  rw [List.length_append, List.length_append, fixB_len]; omega
theorem encL_len : ∀ {ts : List Tx}, (∀ t ∈ ts, okT t.1 t.2) → (encL ts).length ≤ 36020 * ts.length
  | [], _ => by simp [encL]
  | t :: ts, h => by
    have h1 := encR_len (h t (List.mem_cons_self ..))
    have h2 := encL_len fun y hy => h y (List.mem_cons_of_mem _ hy)
    unfold encL at h2 ⊢
    rw [List.flatMap_cons, List.length_append, List.length_cons]; omega

theorem recR_put {t : Tx} (h : okT t.1 t.2) (more : List UInt8) : recR (encR t ++ more) = .inl (t, more) := by
  have hl := encT_len h
  have e : encR t ++ more = varF (encT t.1 t.2).length ++ (encT t.1 t.2 ++ (fixB 4 (crcN (encT t.1 t.2)) ++ more)) := by unfold encR; simp only [List.append_assoc]
  have e1 : textR 65536 ⟨encR t ++ more, 0⟩ = (⟨fixB 4 (crcN (encT t.1 t.2)) ++ more, 0⟩, encT t.1 t.2) := by rw [e]; exact textR_put (by omega) (by omega) _
  have e2 : fixR 4 ⟨fixB 4 (crcN (encT t.1 t.2)) ++ more, 0⟩ = (⟨more, 0⟩, crcN (encT t.1 t.2)) := fixR_put (W := 4) (by omega) (by omega) (crcN_lt _) more
  have e3 := decT_put h []
  rw [List.append_nil, if_pos rfl] at e3
  unfold recR
  simp only [e1, e2, e3]
  rw [if_neg (by simp), if_neg (by simp), if_neg (by simp)]
  have : ((t.1.toNat : Nat) : Int) = t.1 := by have := h.1; omega
  rw [this]
theorem recR_short {t : Tx} {k : Nat} (h : okT t.1 t.2) (hk : k < (encR t).length) : recR ((encR t).take k) = .inr 5 := by
  have hl := encT_len h
  generalize hA : varF (encT t.1 t.2).length ++ encT t.1 t.2 = A
  have e : encR t = A ++ fixB 4 (crcN (encT t.1 t.2)) := by unfold encR; rw [← hA, List.append_assoc]
  rw [e, List.length_append, fixB_len] at hk
  by_cases c : k < A.length
  · have e1 : textR 65536 ⟨(encR t).take k, 0⟩ = (⟨(encR t).take k, 5⟩, []) := by
      rw [e, List.take_append_of_le_length (by omega), ← hA]
      exact textR_short (by omega) (by omega) (by rw [hA]; exact c)
    unfold recR
    simp only [e1]
    rw [if_pos (by decide)]
  · have e1 : textR 65536 ⟨(encR t).take k, 0⟩ = (⟨(fixB 4 (crcN (encT t.1 t.2))).take (k - A.length), 0⟩, encT t.1 t.2) := by
      rw [e, List.take_append, List.take_of_length_le (by omega), ← hA, List.append_assoc]
      exact textR_put (by omega) (by omega) _
    rcases fix4_cases ((fixB 4 (crcN (encT t.1 t.2))).take (k - A.length)) with ⟨_, e2⟩ | ⟨c, r, e2, e3, _⟩
    · unfold recR
      simp only [e1, e2]
      rw [if_neg (by simp), if_pos (by decide)]
    · have := congrArg List.length e3
      rw [List.length_append, fixB_len, List.length_take, fixB_len] at this
      omega
theorem recR_one {l r : List UInt8} {t : Tx} (h : recR l = .inl (t, r)) : okT t.1 t.2 ∧ l = encR t ++ r := by
  unfold recR at h
  rcases textR_cases (show (0 : Int) ≤ 65536 by decide) l with ⟨c, hc, he⟩ | ⟨x, r1, he, hl, hk⟩
  · simp only [he] at h; rw [if_pos hc] at h; cases h
  simp only [he] at h
  rw [if_neg (by simp)] at h
  rcases fix4_cases r1 with ⟨_, he2⟩ | ⟨c, r2, he2, hl2, _⟩
  · simp only [he2] at h; rw [if_pos (by decide)] at h; cases h
  simp only [he2] at h
  rw [if_neg (by simp)] at h
  by_cases hc : c = crcN x
  · rw [if_neg (by simpa using hc)] at h
    split at h
    · cases h
    · rename_i n ws hd
      simp only [Sum.inl.injEq, Prod.mk.injEq] at h
      obtain ⟨rfl, rfl⟩ := h
      obtain ⟨g, e⟩ := decT_one hd
      refine ⟨g, ?_⟩
      rw [hl, hl2, hc]
      unfold encR
      simp only
      rw [← e]
      simp only [List.append_assoc]
  · rw [if_pos hc] at h; cases h
theorem recR_lt {l r : List UInt8} {t : Tx} (h : recR l = .inl (t, r)) : r.length < l.length := by
  obtain ⟨_, e⟩ := recR_one h
  have := encR_pos t
  rw [e, List.length_append]; omega

/-- What is read of bytes as a log, from the i-th record on: the records, the bytes behind them, and why the next one is none. -/
inductive Rd : Nat → List UInt8 → List Tx → List UInt8 → Int → Prop
  | nil (i : Nat) : Rd i [] [] [] 0
  | bad {i : Nat} {l : List UInt8} {e : Int} : l ≠ [] → recR l = .inr e → e ≠ 0 → Rd i l [] l e
  | turn {i : Nat} {l r : List UInt8} {t : Tx} : l ≠ [] → recR l = .inl (t, r) → t.1 ≠ (i : Int) → Rd i l [] l 6
  | step {i : Nat} {l r rem : List UInt8} {t : Tx} {ts : List Tx} {e : Int} : l ≠ [] → recR l = .inl (t, r) → t.1 = (i : Int) → Rd (i + 1) r ts rem e → Rd i l (t :: ts) rem e

theorem chkL_cons {i : Nat} {t : Tx} {r : List Tx} (h : chkL i (t :: r) = 0) : okT t.1 t.2 ∧ t.1 = (i : Int) ∧ chkL (i + 1) r = 0 := by
  unfold chkL at h
  by_cases h1 : okT t.1 t.2
  · rw [if_pos h1] at h
    by_cases h2 : t.1 = (i : Int)
    · rw [if_pos h2] at h; exact ⟨h1, h2, h⟩
    · rw [if_neg h2] at h; cases h
  · rw [if_neg h1] at h; cases h
theorem chkL_take : ∀ {ts : List Tx} {i : Nat} (k : Nat), chkL i ts = 0 → chkL i (ts.take k) = 0
  | [], _, k, _ => by simp [chkL]
  | t :: r, i, 0, _ => by simp [chkL]
  | t :: r, i, k + 1, h => by
    obtain ⟨h1, h2, h3⟩ := chkL_cons h
    rw [List.take_succ_cons, chkL, if_pos h1, if_pos h2]
    exact chkL_take k h3
theorem rd_sound {i : Nat} {l rem : List UInt8} {ts : List Tx} {e : Int} (h : Rd i l ts rem e) : chkL i ts = 0 ∧ l = encL ts ++ rem ∧ (e = 0 ↔ rem = []) := by
  induction h with
  | nil => exact ⟨rfl, rfl, by simp⟩
  | bad h1 h2 h3 => exact ⟨rfl, rfl, by simp [h1, h3]⟩
  | turn h1 h2 h3 => exact ⟨rfl, rfl, by simp [h1]⟩
  | step h1 h2 h3 h4 ih =>
    obtain ⟨a, b, c⟩ := ih
    obtain ⟨d, f⟩ := recR_one h2
    refine ⟨by rw [chkL, if_pos d, if_pos h3]; exact a, ?_, c⟩
    rw [f, b]; unfold encL; rw [List.flatMap_cons, List.append_assoc]
theorem app_ne {t : Tx} {l : List UInt8} : encR t ++ l ≠ [] := fun h => by
  have := encR_pos t
  have h2 := congrArg List.length h
  rw [List.length_append, List.length_nil] at h2
  omega
theorem rd_put : ∀ {ts : List Tx} {i : Nat} {more rem : List UInt8} {xs : List Tx} {e : Int}, chkL i ts = 0 → Rd i (encL ts ++ more) xs rem e → ∃ ys, xs = ts ++ ys ∧ Rd (i + ts.length) more ys rem e
  | [], i, more, rem, xs, e, _, h => ⟨xs, rfl, h⟩
  | t :: r, i, more, rem, xs, e, hc, h => by
    obtain ⟨h1, h2, h3⟩ := chkL_cons hc
    have el : encL (t :: r) ++ more = encR t ++ (encL r ++ more) := by unfold encL; rw [List.flatMap_cons, List.append_assoc]
    rw [el] at h
    have hp := recR_put h1 (encL r ++ more)
    generalize hL : encR t ++ (encL r ++ more) = L at h hp
    cases h with
    | nil => exact absurd hL app_ne
    | bad g1 g2 g3 => rw [hp] at g2; cases g2
    | turn g1 g2 g3 => rw [hp] at g2; cases g2; exact absurd h2 g3
    | step g1 g2 g3 g4 =>
      rw [hp] at g2
      cases g2
      obtain ⟨ys, hy, hr⟩ := rd_put h3 g4
      refine ⟨ys, by rw [hy]; rfl, ?_⟩
      rw [List.length_cons, show i + (r.length + 1) = i + 1 + r.length from by omega]
      exact hr
theorem rd_cut : ∀ {ts : List Tx} {i k : Nat} {rem : List UInt8} {xs : List Tx} {e : Int}, chkL i ts = 0 → Rd i ((encL ts).take k) xs rem e → (e = 0 ∨ e = 5) ∧ ∃ m, xs = ts.take m
  | [], i, k, rem, xs, e, _, h => by
    have : (encL []).take k = [] := by simp [encL]
    rw [this] at h
    generalize hL : ([] : List UInt8) = L at h
    cases h with
    | nil => exact ⟨.inl rfl, 0, rfl⟩
    | bad g1 g2 g3 => exact absurd hL.symm g1
    | turn g1 g2 g3 => exact absurd hL.symm g1
    | step g1 g2 g3 g4 => exact absurd hL.symm g1
  | t :: r, i, k, rem, xs, e, hc, h => by
    obtain ⟨h1, h2, h3⟩ := chkL_cons hc
    have el : encL (t :: r) = encR t ++ encL r := by unfold encL; rw [List.flatMap_cons]
    rw [el] at h
    by_cases hk : k < (encR t).length
    · rw [List.take_append_of_le_length (by omega)] at h
      have hp := recR_short h1 hk
      generalize hL : (encR t).take k = L at h hp
      cases h with
      | nil => exact ⟨.inl rfl, 0, rfl⟩
      | bad g1 g2 g3 => rw [hp] at g2; cases g2; exact ⟨.inr rfl, 0, rfl⟩
      | turn g1 g2 g3 => rw [hp] at g2; cases g2
      | step g1 g2 g3 g4 => rw [hp] at g2; cases g2
    · rw [List.take_append, List.take_of_length_le (by omega)] at h
      have hp := recR_put h1 ((encL r).take (k - (encR t).length))
      generalize hL : encR t ++ (encL r).take (k - (encR t).length) = L at h hp
      cases h with
      | nil => exact absurd hL app_ne
      | bad g1 g2 g3 => rw [hp] at g2; cases g2
      | turn g1 g2 g3 => rw [hp] at g2; cases g2; exact absurd h2 g3
      | step g1 g2 g3 g4 =>
        rw [hp] at g2
        cases g2
        obtain ⟨a, m, hm⟩ := rd_cut h3 g4
        exact ⟨a, m + 1, by rw [hm, List.take_succ_cons]⟩
end Go.Proofs.Ytpdegdnigcnjiaa
