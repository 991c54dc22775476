/- Chapter 10: what a ring's methods do. -/
import Derived.Test.YtchcljkflklddaaUOwn
import Derived.Test.YtchcljkflklddaaGring
namespace Go.Proofs.Ytchcljkflklddaa
open Go
set_option linter.unusedVariables false
set_option linter.unusedSimpArgs false


/-- What a ring holds. -/
structure RM where
  q : List Int
  cap : Nat
  closed : Bool
def RM.room (m : RM) : Int := if m.closed then 0 else (m.cap : Int) - m.q.length
def RingO (r : Option Addr) (m : RM) (bs : List Chunk) : Prop :=
  ∃ (b lb : Nat) (cells : List Int) (first : Nat), r = some ⟨b, 0, none⟩ ∧
    bs = [(b, [Value.slice (some ⟨lb, 0, none⟩) m.cap m.cap, iV (first : Int), iV (m.q.length : Int), Value.bool m.closed]), (lb, cells.map iV)] ∧
    cells.length = m.cap ∧ 1 ≤ m.cap ∧ m.cap ≤ 65536 ∧ first < m.cap ∧ m.q.length ≤ m.cap ∧ ∀ i, i < m.q.length → cells[(first + i) % m.cap]? = m.q[i]?

theorem mod_case {a c : Nat} (h : a < 2 * c) : a % c = if a < c then a else a - c := by
  split
  · exact Nat.mod_eq_of_lt (by omega)
  · rw [Nat.mod_eq_sub_mod (by omega)]; exact Nat.mod_eq_of_lt (by omega)

section
variable {w0 : Base} {w : World} {l bs : List Chunk} {r : Option Addr} {m : RM}

theorem sp_ring_gone {R : Bool → World → Prop} (st : St w0 (bs ++ l) w) (o : RingO r m bs) (k : R false w) : C_ring_Ring_int_gone r w R := by
  apply S_ring_Ring_int_gone
  unfold F_ring_Ring_int_gone
  obtain ⟨b, lb, cells, first, rfl, rfl, _⟩ := o
  exact ⟨fun h => (by cases h), fun _ => ⟨rfl, ⟨some ⟨lb, 0, none⟩, m.cap, m.cap⟩, st.cell 0 rfl rfl, k⟩⟩

theorem sp_ring_Len {R : Int → World → Prop} (st : St w0 (bs ++ l) w) (o : RingO r m bs) (k : R (m.q.length : Int) w) : C_ring_Ring_int_Len r w R := by
  apply S_ring_Ring_int_Len
  unfold F_ring_Ring_int_Len
  refine sp_ring_gone st o ⟨fun h => (by cases h), fun _ => ?_⟩
  obtain ⟨b, lb, cells, first, rfl, rfl, _⟩ := o
  exact ⟨rfl, _, st.cell 0 rfl rfl, k⟩

theorem sp_ring_Room {R : Int → World → Prop} (st : St w0 (bs ++ l) w) (o : RingO r m bs) (k : ∀ w', St w0 (bs ++ l) w' → R m.room w') : C_ring_Ring_int_Room r w R := by
  apply S_ring_Ring_int_Room
  unfold F_ring_Ring_int_Room
  refine sp_ring_gone st o ⟨fun h => (by cases h), fun _ => ?_⟩
  obtain ⟨b, lb, cells, first, rfl, rfl, hc, h1, h2, hf, hq, hall⟩ := o
  refine ⟨rfl, m.closed, st.cell 0 rfl rfl, ?_⟩
  unfold F_ring_Ring_int_Room_k0
  unfold RM.room at k
  refine ⟨fun hcl => ?_, fun hcl => ⟨rfl, ⟨some ⟨lb, 0, none⟩, m.cap, m.cap⟩, st.cell 0 rfl rfl, rfl, _, st.cell 0 rfl rfl, fun w2 e2 => ?_⟩⟩
  · rw [if_pos hcl] at k; exact k w st
  · rw [if_neg (by rw [hcl]; decide)] at k
    show R (IntKind.i64.wrap ((m.cap : Int) - (m.q.length : Int))) w2
    rw [i64_in _ (by omega) (by omega)]
    exact k _ (st.keep e2)

theorem sp_ring_Put {x : Int} {R : Bool → World → Prop} (st : St w0 (bs ++ l) w) (o : RingO r m bs) (k0 : m.room = 0 → ∀ w', St w0 (bs ++ l) w' → R false w')
    (k1 : m.room ≠ 0 → ∀ bs' w', RingO r { m with q := m.q ++ [x] } bs' → St w0 (bs' ++ l) w' → R true w') : C_ring_Ring_int_Put r x w R := by
  apply S_ring_Ring_int_Put
  unfold F_ring_Ring_int_Put
  refine sp_ring_Room st o fun w1 st => ⟨fun h => k0 (by simpa using h) _ st, fun h => ?_⟩
  have h : m.room ≠ 0 := by simpa using h
  have k1 := k1 h
  intro w2 e2
  have st := st.drew e2
  obtain ⟨b, lb, cells, first, rfl, rfl, hc, h1, h2, hf, hq, hall⟩ := o
  have hlt : m.q.length < m.cap := by
    unfold RM.room at h
    split at h
    · exact absurd rfl h
    · omega
  have hidx : Int.tmod (IntKind.i64.wrap ((first : Int) + (m.q.length : Int))) (m.cap : Int) = (((first + m.q.length) % m.cap : Nat) : Int) := by
    rw [i64_in _ (by omega) (by omega)]
    exact tmod_nat (first + m.q.length) m.cap
  have hm := Nat.mod_lt (first + m.q.length) (show m.cap > 0 by omega)
  obtain ⟨J, hJ⟩ : ∃ J, (first + m.q.length) % m.cap = J := ⟨_, rfl⟩
  rw [hJ] at hidx hm
  refine ⟨rfl, ⟨some ⟨lb, 0, none⟩, m.cap, m.cap⟩, st.cell 0 rfl rfl, rfl, _, st.cell 0 rfl rfl, rfl, _, st.cell 0 rfl rfl, rfl, ⟨some ⟨lb, 0, none⟩, m.cap, m.cap⟩, st.cell 0 rfl rfl, by show ((m.cap : Nat) : Int) ≠ 0; omega, rfl, ?_⟩
  simp only [hidx]
  refine ⟨by omega, Int.ofNat_lt.2 hm, st.writable 1 rfl (by rw [List.length_map, hc]; show 0 + (J : Int).toNat + 1 ≤ _; rw [Int.toNat_natCast]; omega), fun w3 hw3 => ?_⟩
  have st := st.put1 hw3
  rw [putL_one] at st
  refine ⟨rfl, _, st.cell 0 rfl rfl, st.writable 0 rfl (by simp [poff]), fun w4 hw4 => ?_⟩
  have st := st.put0 hw4
  refine k1 _ _ ⟨b, lb, cells.set J x, first, rfl, rfl, by simpa using hc, h1, h2, hf, by simp; omega, fun i hi => ?_⟩ ?_
  · simp only [List.length_append, List.length_cons, List.length_nil, Nat.zero_add] at hi
    by_cases hil : i < m.q.length
    · rw [List.getElem?_append_left hil, ← hall i hil, List.getElem?_set_ne]
      have e1 := mod_case (a := first + i) (c := m.cap) (by omega)
      have e2 := mod_case (a := first + m.q.length) (c := m.cap) (by omega)
      rw [hJ] at e2
      show J ≠ (first + i) % m.cap
      obtain ⟨I, hI⟩ : ∃ I, (first + i) % m.cap = I := ⟨_, rfl⟩
      rw [hI] at e1 ⊢
      split at e1 <;> split at e2 <;> omega
    · obtain rfl : i = m.q.length := by omega
      rw [List.getElem?_append_right (Nat.le_refl _), Nat.sub_self]
      show (cells.set J x)[(first + m.q.length) % m.cap]? = some x
      rw [hJ, List.getElem?_set_self (by omega)]
  · have e1 : poff (some ⟨lb, 0, none⟩ : Option Addr) + (J : Int).toNat = J := by show 0 + _ = _; rw [Nat.zero_add, Int.toNat_natCast]
    rw [e1] at st
    have e2 : IntKind.i64.wrap ((m.q.length : Int) + 1) = ((m.q ++ [x]).length : Int) := by rw [i64_in _ (by omega) (by omega)]; simp
    rw [e2] at st
    rw [List.map_set]
    exact st

theorem sp_ring_First {R : Int → Bool → World → Prop} (st : St w0 (bs ++ l) w) (o : RingO r m bs) (k0 : m.q = [] → ∀ w', St w0 (bs ++ l) w' → R 0 false w')
    (k1 : ∀ x q', m.q = x :: q' → ∀ w', St w0 (bs ++ l) w' → R x true w') : C_ring_Ring_int_First r w R := by
  apply S_ring_Ring_int_First
  unfold F_ring_Ring_int_First
  refine sp_ring_Len st o ⟨fun h => k0 (by have : m.q.length = 0 := by simpa using h
                                           exact List.eq_nil_of_length_eq_zero this) _ st, fun h => ?_⟩
  obtain ⟨b, lb, cells, first, rfl, rfl, hc, h1, h2, hf, hq, hall⟩ := o
  have h : m.q.length ≠ 0 := by simpa using h
  cases hm : m.q with
  | nil => rw [hm] at h; exact absurd rfl h
  | cons x q' =>
    have hx := hall 0 (by omega)
    rw [hm, Nat.add_zero, Nat.mod_eq_of_lt hf] at hx
    refine ⟨rfl, ⟨some ⟨lb, 0, none⟩, m.cap, m.cap⟩, st.cell 0 rfl rfl, rfl, _, st.cell 0 rfl rfl, rfl, by omega, by show (first : Int) < (m.cap : Int); omega, x, ?_, fun w2 e2 => k1 x q' hm _ (st.keep e2)⟩
    refine st.cell 1 rfl ?_
    show (cells.map iV)[0 + (first : Int).toNat]? = some (iV x)
    rw [Nat.zero_add, Int.toNat_natCast, List.getElem?_map, hx]
    rfl

theorem sp_ring_Take {R : Int → Bool → World → Prop} (st : St w0 (bs ++ l) w) (o : RingO r m bs) (k0 : m.q = [] → ∀ w', St w0 (bs ++ l) w' → R 0 false w')
    (k1 : ∀ x q', m.q = x :: q' → ∀ bs' w', RingO r { m with q := q' } bs' → St w0 (bs' ++ l) w' → R x true w') : C_ring_Ring_int_Take r w R := by
  apply S_ring_Ring_int_Take
  unfold F_ring_Ring_int_Take F_ring_Ring_int_Take_k0
  refine sp_ring_First st o (fun hm w2 st => ⟨fun h => (by cases h), fun _ => k0 hm _ st⟩) fun x q' hm w2 st => ⟨fun _ => ?_, fun h => by cases h⟩
  have k1 := k1 x q' hm
  obtain ⟨b, lb, cells, first, rfl, rfl, hc, h1, h2, hf, hq, hall⟩ := o
  have hlen : m.q.length = q'.length + 1 := by rw [hm]; rfl
  intro w3 e3
  have st := st.drew e3
  refine ⟨rfl, ⟨some ⟨lb, 0, none⟩, m.cap, m.cap⟩, st.cell 0 rfl rfl, rfl, _, st.cell 0 rfl rfl, rfl, by omega, by show (first : Int) < (m.cap : Int); omega, st.writable 1 rfl (by simp [poff]; omega), fun w4 hw4 w5 e5 => ?_⟩
  have st := (st.put1 hw4).drew e5
  rw [putL_one] at st
  have hidx : Int.tmod (IntKind.i64.wrap ((first : Int) + 1)) (m.cap : Int) = (((first + 1) % m.cap : Nat) : Int) := by
    rw [i64_in _ (by omega) (by omega)]
    exact tmod_nat (first + 1) m.cap
  refine ⟨rfl, _, st.cell 0 rfl rfl, rfl, ⟨some ⟨lb, 0, none⟩, m.cap, m.cap⟩, st.cell 0 rfl rfl, by show ((m.cap : Nat) : Int) ≠ 0; omega, rfl, st.writable 0 rfl (by simp [poff]), fun w6 hw6 => ?_⟩
  have st := st.put0 hw6
  refine ⟨rfl, _, st.cell 0 rfl rfl, st.writable 0 rfl (by simp [poff, putL]), fun w7 hw7 => ?_⟩
  have st := st.put0 hw7
  have hmlt := Nat.mod_lt (first + 1) (show m.cap > 0 by omega)
  refine k1 _ _ ⟨b, lb, cells.set first 0, (first + 1) % m.cap, rfl, rfl, by simpa using hc, h1, h2, hmlt, by simp only; omega, fun i hi => ?_⟩ ?_
  · simp only at hi ⊢
    have hx := hall (i + 1) (by omega)
    rw [hm, List.getElem?_cons_succ] at hx
    rw [← hx]
    have e1 := mod_case (a := first + 1) (c := m.cap) (by omega)
    have e2 := mod_case (a := (first + 1) % m.cap + i) (c := m.cap) (by omega)
    have e3 := mod_case (a := first + (i + 1)) (c := m.cap) (by omega)
    have e4 : ((first + 1) % m.cap + i) % m.cap = (first + (i + 1)) % m.cap := by
      split at e1 <;> split at e2 <;> split at e3 <;> omega
    rw [e4, List.getElem?_set_ne]
    split at e3 <;> omega
  · rw [hidx, hlen] at st
    have e2 : IntKind.i64.wrap (((q'.length + 1 : Nat) : Int) - 1) = (q'.length : Int) := by rw [i64_in _ (by omega) (by omega)]; omega
    rw [e2] at st
    rw [List.map_set]
    have e1 : poff (some ⟨lb, 0, none⟩ : Option Addr) + (first : Int).toNat = first := by show 0 + _ = _; rw [Nat.zero_add, Int.toNat_natCast]
    rw [e1] at st
    exact st

theorem sp_ring_Close {R : World → Prop} (st : St w0 (bs ++ l) w) (o : RingO r m bs) (k : ∀ bs' w', RingO r { m with closed := true } bs' → St w0 (bs' ++ l) w' → R w') : C_ring_Ring_int_Close r w R := by
  apply S_ring_Ring_int_Close
  unfold F_ring_Ring_int_Close
  refine sp_ring_gone st o ⟨fun _ => ?_, fun h => by cases h⟩
  obtain ⟨b, lb, cells, first, rfl, rfl, hc, h1, h2, hf, hq, hall⟩ := o
  exact ⟨rfl, st.writable 0 rfl (by simp [poff]), fun w2 hw2 => k _ _ ⟨b, lb, cells, first, rfl, rfl, hc, h1, h2, hf, hq, hall⟩ (st.put0 hw2)⟩

theorem sp_ring_Over {R : Bool → World → Prop} (st : St w0 (bs ++ l) w) (o : RingO r m bs) (k : R (m.closed && decide (m.q.length = 0)) w) : C_ring_Ring_int_Over r w R := by
  apply S_ring_Ring_int_Over
  unfold F_ring_Ring_int_Over
  refine sp_ring_gone st o ⟨fun _ => ?_, fun h => by cases h⟩
  obtain ⟨b, lb, cells, first, rfl, rfl, hc, h1, h2, hf, hq, hall⟩ := o
  refine ⟨rfl, m.closed, st.cell 0 rfl rfl, fun hcl => ⟨rfl, _, st.cell 0 rfl rfl, ?_⟩, fun hcl => ?_⟩
  · rw [hcl] at k
    have : ((m.q.length : Int) == 0) = decide (m.q.length = 0) := by
      by_cases h : m.q.length = 0
      · rw [h]; rfl
      · rw [decide_eq_false h]; simpa using h
    rw [this]; simpa using k
  · rw [hcl] at k; exact k

theorem sp_ring_New {c : Int} {R : Option Addr → Int → World → Prop} (st : St w0 l w) (k0 : c < 1 ∨ c > 65536 → R none 1 w)
    (k1 : 1 ≤ c → c ≤ 65536 → ∀ r' bs' w', RingO r' ⟨[], c.toNat, false⟩ bs' → St w0 (bs' ++ l) w' → R r' 0 w') : C_ring_New_int c w R := by
  apply S_ring_New_int
  unfold F_ring_New_int
  refine ⟨fun h => k0 (by simpa using h), fun h => ?_⟩
  simp only [Bool.or_eq_false_iff, decide_eq_false_iff_not] at h
  refine ⟨by omega, by omega, by omega, fun b w1 hb hw b1 w2 hb1 hw1 => ?_⟩
  have e : (repCells c.toNat [iV 0]) = ((List.replicate c.toNat (0 : Int)).map iV).toArray := by
    unfold repCells
    congr 1
    induction c.toNat with
    | zero => rfl
    | succ n ih => rw [List.replicate_succ, List.flatten_cons, ih, List.replicate_succ]; rfl
  rw [e] at hw
  have st := (st.alloc hb hw).alloc hb1 hw1
  exact k1 (by omega) (by omega) _ _ _ ⟨b1, b, _, 0, rfl, rfl, by simp, by simp only; omega, by simp only; omega, by simp only; omega, by simp, fun i hi => by simp at hi⟩ st
end

end Go.Proofs.Ytchcljkflklddaa
