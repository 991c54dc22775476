/- Chapter 10: rings of both kinds, asked. -/
import Derived.Test.YtchcljkflklddaaURingG
import Derived.Test.YtchcljkflklddaaGtowpathref10
namespace Go.Proofs.Ytchcljkflklddaa
open Go
set_option linter.unusedVariables false
set_option linter.unusedSimpArgs false

/-! ### The model -/
def putR (m : Option RM) (x : Int) : Bool × Option RM :=
  match m with
  | none => (false, none)
  | some m => if m.room = 0 then (false, some m) else (true, some { m with q := m.q ++ [x] })
def firstR (m : Option RM) : Int × Bool :=
  match m with
  | none => (0, false)
  | some m => match m.q with
    | [] => (0, false)
    | x :: _ => (x, true)
def takeR (m : Option RM) : Option RM :=
  match m with
  | none => none
  | some m => some { m with q := m.q.tail }
def lenR (m : Option RM) : Int :=
  match m with
  | none => 0
  | some m => (m.q.length : Int)
def roomR (m : Option RM) : Int :=
  match m with
  | none => 0
  | some m => m.room
def overR (m : Option RM) : Bool :=
  match m with
  | none => false
  | some m => m.closed && decide (m.q.length = 0)
def closeR (m : Option RM) : Option RM :=
  match m with
  | none => none
  | some m => some { m with closed := true }

section
variable {w0 : Base} {w : World} {fr bs : List Chunk} {r : Option Addr} {m : Option RM}
theorem sp_ri_Len {R : Int → World → Prop} (o : RiO m r bs) (st : St w0 (bs ++ fr) w) (k : R (lenR m) w) : C_ring_Ring_int_Len r w R := by
  cases m with
  | none =>
    apply S_ring_Ring_int_Len
    exact sp_ri_gone o st ⟨fun _ => k, fun h => (by cases h)⟩
  | some m => exact sp_ring_Len st o k
theorem sp_ri_Room {R : Int → World → Prop} (o : RiO m r bs) (st : St w0 (bs ++ fr) w) (k : ∀ w', St w0 (bs ++ fr) w' → R (roomR m) w') : C_ring_Ring_int_Room r w R := by
  cases m with
  | none =>
    apply S_ring_Ring_int_Room
    unfold F_ring_Ring_int_Room F_ring_Ring_int_Room_k0
    exact sp_ri_gone o st ⟨fun _ => ⟨fun _ => k w st, fun h => (by cases h)⟩, fun h => (by cases h)⟩
  | some m => exact sp_ring_Room st o k
theorem sp_ri_Put {x : Int} {R : Bool → World → Prop} (o : RiO m r bs) (st : St w0 (bs ++ fr) w) (k : ∀ bs' w', RiO (putR m x).2 r bs' → St w0 (bs' ++ fr) w' → R (putR m x).1 w') : C_ring_Ring_int_Put r x w R := by
  cases m with
  | none =>
    apply S_ring_Ring_int_Put
    unfold F_ring_Ring_int_Put
    exact sp_ri_Room o st fun w' st => ⟨fun _ => k bs w' o st, fun h => absurd h (by decide)⟩
  | some m =>
    refine sp_ring_Put st o (fun h w' st => ?_) fun h bs' w' o' st' => ?_
    · have e : putR (some m) x = (false, some m) := by unfold putR; simp only; rw [if_pos h]
      rw [e] at k; exact k bs w' o st
    · have e : putR (some m) x = (true, some { m with q := m.q ++ [x] }) := by unfold putR; simp only; rw [if_neg h]
      rw [e] at k; exact k bs' w' o' st'
theorem sp_ri_First {R : Int → Bool → World → Prop} (o : RiO m r bs) (st : St w0 (bs ++ fr) w) (k : ∀ w', St w0 (bs ++ fr) w' → R (firstR m).1 (firstR m).2 w') : C_ring_Ring_int_First r w R := by
  cases m with
  | none =>
    apply S_ring_Ring_int_First
    unfold F_ring_Ring_int_First
    exact sp_ri_Len o st ⟨fun _ => k w st, fun h => absurd h (by decide)⟩
  | some m =>
    refine sp_ring_First st o (fun h w' st => ?_) fun x q' h w' st' => ?_
    · have e : firstR (some m) = (0, false) := by unfold firstR; simp only [h]
      rw [e] at k; exact k w' st
    · have e : firstR (some m) = (x, true) := by unfold firstR; simp only [h]
      rw [e] at k; exact k w' st'
theorem sp_ri_Take {R : Int → Bool → World → Prop} (o : RiO m r bs) (st : St w0 (bs ++ fr) w) (k : ∀ bs' w', RiO (takeR m) r bs' → St w0 (bs' ++ fr) w' → R (firstR m).1 (firstR m).2 w') : C_ring_Ring_int_Take r w R := by
  cases m with
  | none =>
    apply S_ring_Ring_int_Take
    unfold F_ring_Ring_int_Take F_ring_Ring_int_Take_k0
    exact sp_ri_First o st fun w' st => ⟨fun h => (by cases h), fun _ => k bs w' o st⟩
  | some m =>
    refine sp_ring_Take st o (fun h w' st => ?_) fun x q' h bs' w' o' st' => ?_
    · have e : firstR (some m) = (0, false) := by unfold firstR; simp only [h]
      rw [e] at k
      refine k bs w' ?_ st
      show RingO r { m with q := m.q.tail } bs
      rw [show ({ m with q := m.q.tail } : RM) = m from by cases m; simp only at h; subst h; rfl]; exact o
    · have e : firstR (some m) = (x, true) := by unfold firstR; simp only [h]
      rw [e] at k
      refine k bs' w' ?_ st'
      show RingO r { m with q := m.q.tail } bs'
      rw [h]; exact o'
theorem sp_ri_Close {R : World → Prop} (o : RiO m r bs) (st : St w0 (bs ++ fr) w) (k : ∀ bs' w', RiO (closeR m) r bs' → St w0 (bs' ++ fr) w' → R w') : C_ring_Ring_int_Close r w R := by
  cases m with
  | none =>
    apply S_ring_Ring_int_Close
    exact sp_ri_gone o st ⟨fun h => (by cases h), fun _ => k bs w o st⟩
  | some m => exact sp_ring_Close st o k
theorem sp_ri_Over {R : Bool → World → Prop} (o : RiO m r bs) (st : St w0 (bs ++ fr) w) (k : R (overR m) w) : C_ring_Ring_int_Over r w R := by
  cases m with
  | none =>
    apply S_ring_Ring_int_Over
    exact sp_ri_gone o st ⟨fun h => (by cases h), fun _ => k⟩
  | some m => exact sp_ring_Over st o k
end

/-! ### The document's -/
def RxO (m : Option RM) (x : Option Addr) (bs : List Chunk) : Prop :=
  match m with
  | none => x = none ∧ bs = []
  | some m => ∃ b sl sb, x = some ⟨b, 0, none⟩ ∧ bs = (b, [slV sl, iV (m.cap : Int), Value.bool m.closed]) :: sb ∧ RowC 1 sl (m.q.map iV) sb ∧ m.q.length ≤ m.cap ∧ m.cap ≤ 65536
theorem RowC.ilen {s : Slc} {xs : List Int} {bs : List Chunk} (h : RowC 1 s (xs.map iV) bs) : s.len = xs.length := by
  have := h.len
  rw [List.length_map] at this; omega
section
variable {w0 : Base} {w : World} {fr bs : List Chunk} {x : Option Addr} {m : Option RM}
theorem sp_rx_Len {R : Int → World → Prop} (o : RxO m x bs) (st : St w0 (bs ++ fr) w) (k : R (lenR m) w) : C_towpathref10_Ring_Len x w R := by
  apply S_towpathref10_Ring_Len
  unfold F_towpathref10_Ring_Len
  cases m with
  | none =>
    obtain ⟨rfl, rfl⟩ := o
    exact ⟨fun _ => k, fun h => (by cases h)⟩
  | some m =>
    obtain ⟨b, sl, sb, rfl, rfl, rs, hq, hc⟩ := o
    refine ⟨fun h => (by cases h), fun _ => ⟨rfl, sl, st.cell 0 rfl rfl, ?_⟩⟩
    rw [rs.ilen]; exact k
theorem sp_rx_Room {R : Int → World → Prop} (o : RxO m x bs) (st : St w0 (bs ++ fr) w) (k : ∀ w', St w0 (bs ++ fr) w' → R (roomR m) w') : C_towpathref10_Ring_Room x w R := by
  apply S_towpathref10_Ring_Room
  unfold F_towpathref10_Ring_Room F_towpathref10_Ring_Room_k0
  cases m with
  | none =>
    obtain ⟨rfl, rfl⟩ := o
    exact ⟨fun _ => ⟨fun _ => k w st, fun h => (by cases h)⟩, fun h => (by cases h)⟩
  | some m =>
    obtain ⟨b, sl, sb, rfl, rfl, rs, hq, hc⟩ := o
    refine ⟨fun h => (by cases h), fun _ => ⟨rfl, m.closed, st.cell 0 rfl rfl, fun h => ?_, fun h => ⟨rfl, _, st.cell 0 rfl rfl, rfl, sl, st.cell 0 rfl rfl, fun w2 e2 => ?_⟩⟩⟩
    · have e : roomR (some m) = 0 := by unfold roomR RM.room; simp only; rw [if_pos h]
      rw [e] at k; exact k w st
    · have e : roomR (some m) = (m.cap : Int) - m.q.length := by unfold roomR RM.room; simp only; rw [if_neg (by rw [h]; decide)]
      rw [e] at k
      rw [rs.ilen, i64_in _ (by omega) (by omega)]
      exact k w2 (st.keep e2)
theorem sp_rx_Put {y : Int} {R : Bool → World → Prop} (o : RxO m x bs) (st : St w0 (bs ++ fr) w) (k : ∀ bs' w', RxO (putR m y).2 x bs' → St w0 (bs' ++ fr) w' → R (putR m y).1 w') : C_towpathref10_Ring_Put x y w R := by
  apply S_towpathref10_Ring_Put
  unfold F_towpathref10_Ring_Put F_towpathref10_Ring_Put_k0
  cases m with
  | none =>
    obtain ⟨rfl, rfl⟩ := o
    exact ⟨fun _ w5 e5 => ⟨fun _ => k [] w5 ⟨rfl, rfl⟩ (st.keep e5), fun h => (by cases h)⟩, fun h => (by cases h)⟩
  | some m =>
    have o0 := o
    obtain ⟨b, sl, sb, rfl, rfl, rs, hq, hc⟩ := o
    have hsl := rs.ilen
    refine ⟨fun h => (by cases h), fun _ => ⟨rfl, m.closed, st.cell 0 rfl rfl, fun h w6 e6 => ⟨fun _ => ?_, fun h => (by cases h)⟩, fun h => ⟨rfl, sl, st.cell 0 rfl rfl, rfl, _, st.cell 0 rfl rfl, fun w7 e7 => ⟨fun h2 => ?_, fun h2 => ?_⟩⟩⟩⟩
    · have e : putR (some m) y = (false, some m) := by
        have hr : m.room = 0 := by unfold RM.room; rw [if_pos h]
        unfold putR; simp only; rw [hr, if_pos rfl]
      rw [e] at k; exact k _ w6 o0 (st.keep e6)
    · have h2 := of_decide_eq_true h2
      have e : putR (some m) y = (false, some m) := by
        have hr : m.room = (m.cap : Int) - m.q.length := by unfold RM.room; rw [if_neg (by rw [h]; decide)]
        unfold putR; simp only; rw [hr, if_pos (by omega)]
      rw [e] at k; exact k _ w7 o0 (st.keep e7)
    · have h2 := of_decide_eq_false h2
      have e : putR (some m) y = (true, some { m with q := m.q ++ [y] }) := by
        have hr : m.room = (m.cap : Int) - m.q.length := by unfold RM.room; rw [if_neg (by rw [h]; decide)]
        unfold putR; simp only; rw [hr, if_neg (by omega)]
      rw [e] at k
      have st7 := st.keep e7
      refine ⟨rfl, sl, st7.cell 0 rfl rfl, fun b1 w2 hb1 hw2 => ⟨[iV y], ⟨rfl, .inr ⟨rfl, (Blk.new hb1 hw2).all⟩⟩, ?_⟩⟩
      have st2 := st7.alloc (cs := [iV y]) hb1 hw2
      have st2 : St w0 (sb ++ ((b, [slV sl, iV (m.cap : Int), Value.bool m.closed]) :: fr)) w2 := st2.weak [(b1, [iV y])] (perm_of_sum fun f_ => by simp only [List.map_append, List.map_cons, List.map_nil, List.sum_append, List.sum_cons, List.sum_nil, List.append_nil]; omega)
      refine rs.append st2 rfl rfl rfl (by omega) fun sl' sb' w3 rs' st3 hl3 => ⟨rfl, ?_⟩
      have st3 : St w0 ((b, [slV sl, iV (m.cap : Int), Value.bool m.closed]) :: (sb' ++ fr)) w3 := st3.perm (perm_of_sum fun f_ => by simp only [List.map_append, List.map_cons, List.map_nil, List.sum_append, List.sum_cons, List.sum_nil, List.append_nil]; omega)
      refine ⟨st3.writable 0 rfl (by show 0 + 1 ≤ 3; omega), fun w4 hw4 => ?_⟩
      have st4 : St w0 ((b, [slV sl', iV (m.cap : Int), Value.bool m.closed]) :: (sb' ++ fr)) w4 := st3.put0 hw4
      exact k _ w4 ⟨b, sl', sb', rfl, rfl, by rw [List.map_append]; exact rs', by show (m.q ++ [y]).length ≤ m.cap; rw [List.length_append]; simp; omega, hc⟩ st4
theorem sp_rx_First {R : Int → Bool → World → Prop} (o : RxO m x bs) (st : St w0 (bs ++ fr) w) (k : R (firstR m).1 (firstR m).2 w) : C_towpathref10_Ring_First x w R := by
  apply S_towpathref10_Ring_First
  unfold F_towpathref10_Ring_First F_towpathref10_Ring_First_k0
  cases m with
  | none =>
    obtain ⟨rfl, rfl⟩ := o
    exact ⟨fun _ => ⟨fun _ => k, fun h => (by cases h)⟩, fun h => (by cases h)⟩
  | some m =>
    obtain ⟨b, sl, sb, rfl, rfl, rs, hq, hc⟩ := o
    have hsl := rs.ilen
    refine ⟨fun h => (by cases h), fun _ => ⟨rfl, sl, st.cell 0 rfl rfl, fun h => ?_, fun h => ⟨rfl, sl, st.cell 0 rfl rfl, ?_⟩⟩⟩
    · have h : ((sl.len : Nat) : Int) = 0 := by simpa using h
      have hm : m.q = [] := List.eq_nil_of_length_eq_zero (by omega)
      have e : firstR (some m) = (0, false) := by unfold firstR; simp only [hm]
      rw [e] at k; exact k
    · have h : ¬ ((sl.len : Nat) : Int) = 0 := by simpa using h
      have st2 : St w0 (sb ++ ((b, [slV sl, iV (m.cap : Int), Value.bool m.closed]) :: fr)) w := st.perm (perm_of_sum fun f_ => by simp only [List.map_append, List.map_cons, List.map_nil, List.sum_append, List.sum_cons, List.sum_nil, List.append_nil]; omega)
      obtain ⟨a, y, hy, hcy⟩ := SrcAt.get (rs.src st2) (i := 0) (by omega) (by omega)
      have e : firstR (some m) = (y, true) := by
        unfold firstR
        cases hm : m.q with
        | nil => rw [hm] at hy; cases hy
        | cons z q' => rw [hm] at hy; obtain rfl := Option.some.inj hy; simp only [hm]
      rw [e] at k
      exact ⟨a, by omega, by omega, y, hcy, k⟩
theorem sp_rx_Take {R : Int → Bool → World → Prop} (o : RxO m x bs) (st : St w0 (bs ++ fr) w) (k : ∀ bs' w', RxO (takeR m) x bs' → St w0 (bs' ++ fr) w' → R (firstR m).1 (firstR m).2 w') : C_towpathref10_Ring_Take x w R := by
  apply S_towpathref10_Ring_Take
  unfold F_towpathref10_Ring_Take F_towpathref10_Ring_Take_k0
  refine sp_rx_First o st ⟨fun h => ?_, fun h => ?_⟩
  · cases m with
    | none => cases h
    | some m =>
      obtain ⟨b, sl, sb, rfl, rfl, rs, hq, hc⟩ := o
      have hsl := rs.ilen
      have hcp := rs.cap_le
      have hpos : 0 < m.q.length := by
        cases hm : m.q with
        | nil => unfold firstR at h; simp only [hm] at h; cases h
        | cons z q' => simp
      refine ⟨rfl, sl, st.cell 0 rfl rfl, ⟨by omega, by omega, by omega, by omega⟩, fun s hs => ⟨rfl, st.writable 0 rfl (by show 0 + 1 ≤ 3; omega), fun w3 hw3 => ?_⟩⟩
      have st3 : St w0 (((b, [slV s, iV (m.cap : Int), Value.bool m.closed]) :: sb) ++ fr) w3 := st.put0 hw3
      refine k _ w3 ⟨b, s, sb, rfl, rfl, ?_, by show m.q.tail.length ≤ m.cap; rw [List.length_tail]; omega, hc⟩ st3
      have := rs.cut (lo := 1) (hi := ((sl.len : Nat) : Int)) (mx := ((sl.cap : Nat) : Int)) (by omega) (by omega) (by omega) (by omega) (by omega)
      rw [← hs] at this
      rw [show (1 : Int).toNat * 1 = 1 from rfl, List.take_of_length_le (by rw [List.length_drop, List.length_map]; omega), ← List.map_drop, List.drop_one] at this
      exact this
  · refine k bs w ?_ st
    cases m with
    | none => exact o
    | some m =>
      have hm : m.q = [] := by
        cases hm : m.q with
        | nil => rfl
        | cons z q' => unfold firstR at h; simp only [hm] at h; cases h
      show RxO (some { m with q := m.q.tail }) x bs
      rw [show ({ m with q := m.q.tail } : RM) = m from by cases m; simp only at hm; subst hm; rfl]; exact o
theorem sp_rx_Close {R : World → Prop} (o : RxO m x bs) (st : St w0 (bs ++ fr) w) (k : ∀ bs' w', RxO (closeR m) x bs' → St w0 (bs' ++ fr) w' → R w') : C_towpathref10_Ring_Close x w R := by
  apply S_towpathref10_Ring_Close
  unfold F_towpathref10_Ring_Close
  cases m with
  | none =>
    obtain ⟨rfl, rfl⟩ := o
    exact ⟨fun h => (by cases h), fun _ => k [] w ⟨rfl, rfl⟩ st⟩
  | some m =>
    obtain ⟨b, sl, sb, rfl, rfl, rs, hq, hc⟩ := o
    exact ⟨fun _ => ⟨rfl, st.writable 0 rfl (by show 2 + 1 ≤ 3; omega), fun w1 hw1 => k _ w1 ⟨b, sl, sb, rfl, rfl, rs, hq, hc⟩ (st.put0 hw1)⟩, fun h => (by cases h)⟩
theorem sp_rx_Over {R : Bool → World → Prop} (o : RxO m x bs) (st : St w0 (bs ++ fr) w) (k : R (overR m) w) : C_towpathref10_Ring_Over x w R := by
  apply S_towpathref10_Ring_Over
  unfold F_towpathref10_Ring_Over
  cases m with
  | none =>
    obtain ⟨rfl, rfl⟩ := o
    exact ⟨fun h => (by cases h), fun _ => k⟩
  | some m =>
    obtain ⟨b, sl, sb, rfl, rfl, rs, hq, hc⟩ := o
    have hsl := rs.ilen
    refine ⟨fun _ => ⟨rfl, m.closed, st.cell 0 rfl rfl, fun h => ⟨rfl, sl, st.cell 0 rfl rfl, ?_⟩, fun h => ?_⟩, fun h => (by cases h)⟩
    · have e : overR (some m) = (((sl.len : Nat) : Int) == 0) := by
        unfold overR; simp only
        rw [h, Bool.true_and, hsl]
        by_cases h0 : m.q.length = 0
        · rw [decide_eq_true h0, h0]; rfl
        · rw [decide_eq_false h0]
          have : ¬ ((m.q.length : Nat) : Int) = 0 := by omega
          simpa using h0
      rw [e] at k; exact k
    · have e : overR (some m) = false := by unfold overR; simp only; rw [h, Bool.false_and]
      rw [e] at k; exact k
theorem sp_rx_All {R : Slc → World → Prop} (o : RxO m x bs) (st : St w0 (bs ++ fr) w) (k : ∀ s rb cs, bs = cs ++ rb → RowC 1 s ((allR m).map iV) rb → R s w) : C_towpathref10_Ring_All x w R := by
  apply S_towpathref10_Ring_All
  unfold F_towpathref10_Ring_All
  cases m with
  | none =>
    obtain ⟨rfl, rfl⟩ := o
    exact ⟨fun _ => k _ [] [] rfl RowC.nil, fun h => (by cases h)⟩
  | some m =>
    obtain ⟨b, sl, sb, rfl, rfl, rs, hq, hc⟩ := o
    exact ⟨fun h => (by cases h), fun _ => ⟨rfl, sl, st.cell 0 rfl rfl, k sl sb [_] rfl rs⟩⟩
theorem sp_rx_New {c : Int} {R : Option Addr → Int → World → Prop} (st : St w0 fr w) (k0 : c < 1 ∨ c > 65536 → R none 1 w)
    (k1 : 1 ≤ c → c ≤ 65536 → ∀ x bs w', RxO (some ⟨[], c.toNat, false⟩) x bs → x.isNone = false → St w0 (bs ++ fr) w' → R x 0 w') : C_towpathref10_New c w R := by
  apply S_towpathref10_New
  unfold F_towpathref10_New
  refine ⟨fun h => k0 (by simpa using h), fun h b w1 hb hw => ?_⟩
  simp only [Bool.or_eq_false_iff, decide_eq_false_iff_not] at h
  have st1 := st.alloc (cs := [slV ⟨none, 0, 0⟩, iV c, Value.bool false]) hb hw
  refine k1 (by omega) (by omega) _ [(b, [slV ⟨none, 0, 0⟩, iV c, Value.bool false])] w1 ⟨b, ⟨none, 0, 0⟩, [], rfl, ?_, RowC.nil, by show 0 ≤ _; omega, by show c.toNat ≤ 65536; omega⟩ rfl st1
  show _ = [(b, [slV ⟨none, 0, 0⟩, iV ((c.toNat : Nat) : Int), Value.bool false])]
  rw [show ((c.toNat : Nat) : Int) = c from by omega]
end

section
variable {w0 : Base} {w : World} {fr bs xs : List Chunk} {r x : Option Addr} {m : Option RM}
theorem sp_asked_k0 {R : Bool → World → Prop} (o : RiO m r bs) (p : RxO m x xs) (st : St w0 (bs ++ (xs ++ fr)) w) (k : ∀ w', St w0 (bs ++ (xs ++ fr)) w' → R true w') : F_towpathlaw10_asked_k0 r x R w := by
  unfold F_towpathlaw10_asked_k0
  have sw : ∀ {w'}, St w0 (bs ++ (xs ++ fr)) w' → St w0 (xs ++ (bs ++ fr)) w' := fun st => st.perm (perm_of_sum fun f_ => by simp only [List.map_append, List.map_cons, List.map_nil, List.sum_append, List.sum_cons, List.sum_nil, List.append_nil]; omega)
  have ws : ∀ {w'}, St w0 (xs ++ (bs ++ fr)) w' → St w0 (bs ++ (xs ++ fr)) w' := fun st => st.perm (perm_of_sum fun f_ => by simp only [List.map_append, List.map_cons, List.map_nil, List.sum_append, List.sum_cons, List.sum_nil, List.append_nil]; omega)
  refine sp_ri_First o st fun w1 st => sp_rx_First p (sw st) ⟨fun _ => ?_, fun h => by simp at h⟩
  refine sp_ri_Len o st (sp_rx_Len p (sw st) ⟨fun _ => ?_, fun h => by simp at h⟩)
  refine sp_ri_Room o st fun w2 st => sp_rx_Room p (sw st) fun w3 st => ⟨fun _ => ?_, fun h => by simp at h⟩
  refine sp_ri_Over o (ws st) (sp_rx_Over p st ?_)
  rw [beq_self_eq_true]
  exact k w3 (ws st)

theorem sp_asked {op : T_towpathlaw10_Op} {R : Bool → World → Prop} (ho : -9223372036854775808 ≤ op.X ∧ op.X ≤ 9223372036854775807) (o : RiO m r bs) (p : RxO m x xs) (st : St w0 (bs ++ (xs ++ fr)) w)
    (k : ∀ m' bs' xs' w', RiO m' r bs' → RxO m' x xs' → (m = none → m' = none) → St w0 (bs' ++ (xs' ++ fr)) w' → R true w') : C_towpathlaw10_asked r x op w R := by
  apply S_towpathlaw10_asked
  unfold F_towpathlaw10_asked
  intro b w1 hb hw
  have st1 := st.alloc (cs := [Value.int .u8 op.Kind, iV op.X]) hb hw
  refine ⟨op.Kind, st1.cell 0 rfl rfl, fun _ w2 hw2 => ?_, fun _ => ⟨fun _ => ?_, fun _ => ⟨fun _ => ?_, fun _ => ⟨fun _ w2 hw2 => ?_, fun _ => ?_⟩⟩⟩⟩
  · have st2 := st1.drew hw2
    refine ⟨op.X, st2.cell 0 rfl rfl, op.X, st2.cell 0 rfl rfl, sp_ri_Put (fr := (b, [Value.int .u8 op.Kind, iV op.X]) :: (xs ++ fr)) o (st2.perm (perm_of_sum fun f_ => by simp only [List.map_append, List.map_cons, List.map_nil, List.sum_append, List.sum_cons, List.sum_nil, List.append_nil]; omega)) fun bs' w3 o' st => ?_⟩
    have st : St w0 ((b, [Value.int .u8 op.Kind, iV op.X]) :: (xs ++ (bs' ++ fr))) w3 := st.perm (perm_of_sum fun f_ => by simp only [List.map_append, List.map_cons, List.map_nil, List.sum_append, List.sum_cons, List.sum_nil, List.append_nil]; omega)
    refine ⟨st.cell 0 rfl rfl, sp_rx_Put p st.drop1 fun xs' w4 p' st => ⟨fun h => by simp at h, fun _ => ?_⟩⟩
    exact sp_asked_k0 (fr := fr) o' p' (st.perm (perm_of_sum fun f_ => by simp only [List.map_append, List.map_cons, List.map_nil, List.sum_append, List.sum_cons, List.sum_nil, List.append_nil]; omega)) fun w5 st => k _ bs' xs' w5 o' p' (fun h => by subst h; rfl) st
  · have st1 := st1.drop1
    refine sp_ri_Take o st1 fun bs' w3 o' st => ?_
    have st : St w0 (xs ++ (bs' ++ fr)) w3 := st.perm (perm_of_sum fun f_ => by simp only [List.map_append, List.map_cons, List.map_nil, List.sum_append, List.sum_cons, List.sum_nil, List.append_nil]; omega)
    refine sp_rx_Take p st fun xs' w4 p' st => ⟨fun h => by simp at h, fun _ => ?_⟩
    exact sp_asked_k0 (fr := fr) o' p' (st.perm (perm_of_sum fun f_ => by simp only [List.map_append, List.map_cons, List.map_nil, List.sum_append, List.sum_cons, List.sum_nil, List.append_nil]; omega)) fun w5 st => k _ bs' xs' w5 o' p' (fun h => by subst h; rfl) st
  · have st1 := st1.drop1
    refine sp_ri_Close o st1 fun bs' w3 o' st => ?_
    have st : St w0 (xs ++ (bs' ++ fr)) w3 := st.perm (perm_of_sum fun f_ => by simp only [List.map_append, List.map_cons, List.map_nil, List.sum_append, List.sum_cons, List.sum_nil, List.append_nil]; omega)
    refine sp_rx_Close p st fun xs' w4 p' st => ?_
    exact sp_asked_k0 (fr := fr) o' p' (st.perm (perm_of_sum fun f_ => by simp only [List.map_append, List.map_cons, List.map_nil, List.sum_append, List.sum_cons, List.sum_nil, List.append_nil]; omega)) fun w5 st => k _ bs' xs' w5 o' p' (fun h => by subst h; rfl) st
  · have st2 := st1.drew hw2
    refine ⟨op.X, st2.cell 0 rfl rfl, op.X, st2.cell 0 rfl rfl, sp_gone (fr := (b, [Value.int .u8 op.Kind, iV op.X]) :: (xs ++ fr)) o (st2.perm (perm_of_sum fun f_ => by simp only [List.map_append, List.map_cons, List.map_nil, List.sum_append, List.sum_cons, List.sum_nil, List.append_nil]; omega)) ho fun s rb w3 rs st => ?_⟩
    have st : St w0 ((b, [Value.int .u8 op.Kind, iV op.X]) :: (rb ++ (bs ++ (xs ++ fr)))) w3 := st.perm (perm_of_sum fun f_ => by simp only [List.map_append, List.map_cons, List.map_nil, List.sum_append, List.sum_cons, List.sum_nil, List.append_nil]; omega)
    have st5 : St w0 (xs ++ ((b, [Value.int .u8 op.Kind, iV op.X]) :: (rb ++ (bs ++ fr)))) w3 := st.perm (perm_of_sum fun f_ => by simp only [List.map_append, List.map_cons, List.map_nil, List.sum_append, List.sum_cons, List.sum_nil, List.append_nil]; omega)
    refine ⟨st.cell 0 rfl rfl, sp_rx_All p st5 fun s2 rb2 cs2 hcs rs2 => ⟨st.cell 0 rfl rfl, sp_few rs2 rs2.ilen ho fun s3 rs3 => ?_⟩⟩
    have g1 := rs.src (l := (b, [Value.int .u8 op.Kind, iV op.X]) :: (bs ++ (xs ++ fr))) (st.perm (perm_of_sum fun f_ => by simp only [List.map_append, List.map_cons, List.map_nil, List.sum_append, List.sum_cons, List.sum_nil, List.append_nil]; omega))
    have g2 := rs3.src (l := cs2 ++ ((b, [Value.int .u8 op.Kind, iV op.X]) :: (rb ++ (bs ++ fr)))) (by rw [hcs] at st5; exact st5.perm (perm_of_sum fun f_ => by simp only [List.map_append, List.map_cons, List.map_nil, List.sum_append, List.sum_cons, List.sum_nil, List.append_nil]; omega))
    have hln : s.len ≤ 65536 := by
      rw [rs.ilen, List.length_take]
      cases m with
      | none => show min _ 0 ≤ 65536; omega
      | some m => obtain ⟨_, _, _, _, _, _, _, _, h2, _, h3, _⟩ := o
                  show min _ m.q.length ≤ 65536; omega
    refine sp_SameInts g1 g2 (by omega) fun w4 e4 => ⟨fun h => by simp at h, fun _ => ?_⟩
    have st : St w0 (bs ++ (xs ++ fr)) w4 := (st.keep e4).weak ((b, [Value.int .u8 op.Kind, iV op.X]) :: rb) (perm_of_sum fun f_ => by simp only [List.map_append, List.map_cons, List.map_nil, List.sum_append, List.sum_cons, List.sum_nil, List.append_nil]; omega)
    exact sp_asked_k0 (fr := fr) o p st fun w5 st => k m bs xs w5 o p id st
  · exact sp_asked_k0 (fr := fr) o p st1.drop1 fun w5 st => k m bs xs w5 o p id st
end
end Go.Proofs.Ytchcljkflklddaa
