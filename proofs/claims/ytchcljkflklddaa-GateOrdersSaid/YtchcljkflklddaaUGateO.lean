/- Chapter 12: whatever order the numbers from 1 on come in, the mark is just as far as all are there. -/
import Derived.Test.YtchcljkflklddaaUGateL
import Derived.Test.YtchcljkflklddaaGGateOrders
namespace Go.Proofs.Ytchcljkflklddaa
open Go
set_option linter.unusedVariables false

/-- How many of f numbers from a on are not there. -/
def miss (T : Nat → Bool) : Nat → Nat → Nat
  | _, 0 => 0
  | a, f + 1 => (if T a then 0 else 1) + miss T (a + 1) f
def putT (T : Nat → Bool) (x : Nat) : Nat → Bool := fun j => T j || decide (j = x)
theorem miss_out {T : Nat → Bool} {x : Nat} : ∀ (f a : Nat), (x < a ∨ a + f ≤ x) → miss (putT T x) a f = miss T a f
  | 0, a, _ => rfl
  | f + 1, a, h => by
    unfold miss
    rw [miss_out f (a + 1) (by omega)]
    have : decide (a = x) = false := decide_eq_false (by omega)
    unfold putT
    rw [this, Bool.or_false]
theorem miss_in {T : Nat → Bool} {x : Nat} (hT : T x = false) : ∀ (f a : Nat), a ≤ x → x < a + f → miss (putT T x) a f + 1 = miss T a f
  | 0, a, h0, h1 => by omega
  | f + 1, a, h0, h1 => by
    unfold miss
    by_cases h : a = x
    · subst h
      rw [miss_out f (a + 1) (by omega)]
      have : putT T a a = true := by unfold putT; simp
      rw [this, hT]
      simp; omega
    · have := miss_in hT f (a + 1) (by omega) (by omega)
      have e : putT T x a = T a := by unfold putT; rw [decide_eq_false h, Bool.or_false]
      rw [e]; omega
theorem miss_none : ∀ (f a : Nat), miss (fun _ => false) a f = f
  | 0, a => rfl
  | f + 1, a => by unfold miss; rw [miss_none f (a + 1)]; simp; omega
theorem miss_zero {T : Nat → Bool} : ∀ (f a : Nat), miss T a f = 0 → ∀ j, a ≤ j → j < a + f → T j = true
  | 0, a, _, j, h0, h1 => by omega
  | f + 1, a, h, j, h0, h1 => by
    unfold miss at h
    by_cases hj : j = a
    · subst hj
      cases hx : T j with
      | true => rfl
      | false => rw [hx] at h; simp at h
    · exact miss_zero f (a + 1) (by omega) j (by omega) (by omega)
theorem miss_step {T : Nat → Bool} {a f : Nat} : miss T a (f + 1) = (if T a then 0 else 1) + miss T (a + 1) f := rfl

/-- What is there, of the numbers up to n, is what the gate has. -/
structure Told (m : GM) (T : Nat → Bool) (n : Nat) : Prop where
  le : m.mark ≤ n
  has : ∀ j, 1 ≤ j → T j = (decide (j ≤ m.mark) || m.S j)
  above : ∀ j, m.S j = true → m.mark < j ∧ j ≤ n
  zero : T 0 = false
  gap : m.S (m.mark + 1) = false
theorem Told.up {m : GM} {T : Nat → Bool} {n x : Nat} (t : Told m T n) (hn : n ≤ 65536) (h0 : m.mark < x) (h1 : x ≤ n) (hm : m.S x = false) (hS : ∀ n, m.S n = true → m.mark < n ∧ n ≤ m.top) (ht : m.top ≤ 65536) : Told (m.next x) (putT T x) n := by
  obtain ⟨hr1, hr2, hr3⟩ := runF_spec (m.done x) (65536 - m.mark) m.mark
  have hd : ∀ j, m.done x j = true → j ≤ n := fun j hj => by
    unfold GM.done at hj
    simp only [Bool.or_eq_true, decide_eq_true_eq] at hj
    rcases hj with hj | hj
    · exact (t.above j hj).2
    · omega
  have hmk : (m.next x).mark = m.mark + m.up x := rfl
  have hS' : ∀ j, (m.next x).S j = (m.done x j && decide (m.mark + m.up x < j)) := fun j => rfl
  have hup : ∀ j, m.mark < j → j ≤ m.mark + m.up x → m.done x j = true := hr2
  refine ⟨?_, fun j hj => ?_, fun j hj => ?_, ?_, next_gap h0 (by omega) hS ht⟩
  · rw [hmk]
    rcases Nat.eq_zero_or_pos (m.up x) with h | h
    · have := t.le; omega
    · exact hd _ (hup _ (by omega) (Nat.le_refl _))
  · rw [hS', hmk]
    unfold putT
    rw [t.has j hj]
    have h2 := hup j
    unfold GM.done at h2 ⊢
    rw [Bool.eq_iff_iff]
    simp only [Bool.or_eq_true, Bool.and_eq_true, decide_eq_true_eq] at h2 ⊢
    constructor
    · rintro ((h | h) | h)
      · exact .inl (by omega)
      · rcases Nat.lt_or_ge (m.mark + m.up x) j with h3 | h3
        · exact .inr ⟨.inl h, h3⟩
        · exact .inl h3
      · rcases Nat.lt_or_ge (m.mark + m.up x) j with h3 | h3
        · exact .inr ⟨.inr h, h3⟩
        · exact .inl h3
    · rintro (h | h)
      · rcases Nat.lt_or_ge m.mark j with h3 | h3
        · rcases h2 h3 h with h4 | h4
          · exact .inl (.inr h4)
          · exact .inr h4
        · exact .inl (.inl h3)
      · rcases h.1 with h4 | h4
        · exact .inl (.inr h4)
        · exact .inr h4
  · rw [hS'] at hj
    simp only [Bool.and_eq_true, decide_eq_true_eq] at hj
    exact ⟨hj.2, hd j hj.1⟩
  · unfold putT
    rw [t.zero, Bool.false_or]
    exact decide_eq_false (by omega)
theorem Told.nextT {m : GM} {T : Nat → Bool} {n : Nat} (t : Told m T n) : T (m.mark + 1) = false := by
  rw [t.has _ (by omega), t.gap, Bool.or_false]
  exact decide_eq_false (by omega)
theorem Told.below {m : GM} {T : Nat → Bool} {n j : Nat} (t : Told m T n) (h0 : 1 ≤ j) (h1 : j ≤ m.mark) : T j = true := by
  rw [t.has _ h0, decide_eq_true h1, Bool.true_or]
theorem Told.has_eq {m : GM} {T : Nat → Bool} {n j : Nat} (t : Told m T n) : m.has (j : Int) = T j := by
  unfold GM.has
  rw [Int.toNat_natCast]
  rcases Nat.eq_zero_or_pos j with rfl | h
  · rw [t.zero]; rfl
  · rw [t.has _ h, decide_eq_true (show (1 : Int) ≤ (j : Int) by omega), Bool.true_and]
    congr 1
    rw [Bool.eq_iff_iff, decide_eq_true_eq, decide_eq_true_eq]; omega
/-- Those beyond, counted among all. -/
theorem Told.count {m : GM} {T : Nat → Bool} {n : Nat} (t : Told m T n) (hn : n ≤ 65536) : (beyF m.S m.mark).length = ((List.range' 1 n).filter m.S).length := by
  rw [beyF_cut hn (fun j hj => (t.above j hj).2) t.le]
  have := t.le
  have e : n = m.mark + (n - m.mark) := by omega
  conv => rhs; rw [e, ← List.range'_append_1, List.filter_append, Nat.add_comm 1]
  have : (List.range' 1 m.mark).filter m.S = [] := by
    rw [List.filter_eq_nil_iff]
    intro j hj hs
    have := (t.above j hs).1
    rw [List.mem_range'_1] at hj
    omega
  rw [this, List.nil_append]
theorem Told.full {m : GM} {T : Nat → Bool} {n : Nat} (t : Told m T n) (h : miss T 1 n = 0) : m.mark = n ∧ beyF m.S m.mark = [] := by
  have h1 := t.le
  have h2 : m.mark = n := by
    rcases Nat.lt_or_ge m.mark n with h3 | h3
    · have := miss_zero n 1 h (m.mark + 1) (by omega) (by omega)
      rw [t.nextT] at this; cases this
    · omega
  refine ⟨h2, List.eq_nil_iff_forall_not_mem.2 fun j hj => ?_⟩
  obtain ⟨_, _, hs⟩ := mem_beyF.1 hj
  have := t.above j hs
  omega

/-- The law's own list of what is there. -/
def tcells (T : Nat → Bool) (n : Nat) : List Value := (List.range (n + 2)).map fun j => Value.bool (T j)
theorem tcells_get {T : Nat → Bool} {n j : Nat} (h : j < n + 2) : (tcells T n)[j]? = some (Value.bool (T j)) := by
  unfold tcells
  rw [List.getElem?_map, List.getElem?_range h]; rfl
theorem tcells_len (T : Nat → Bool) (n : Nat) : (tcells T n).length = n + 2 := by simp [tcells]
theorem tcells_put {T : Nat → Bool} {n x : Nat} (h : x < n + 2) : putL x [Value.bool true] (tcells T n) = tcells (putT T x) n := by
  rw [putL_one]
  apply List.ext_getElem?
  intro j
  by_cases hj : j < n + 2
  · rw [tcells_get hj]
    by_cases hx : x = j
    · subst hx
      rw [List.getElem?_set_self (by rw [tcells_len]; exact h)]
      unfold putT; simp
    · rw [List.getElem?_set_ne hx, tcells_get hj]
      unfold putT
      rw [decide_eq_false (fun e => hx e.symm), Bool.or_false]
  · rw [List.getElem?_eq_none (by rw [List.length_set, tcells_len]; omega), List.getElem?_eq_none (by rw [tcells_len]; omega)]
theorem tcells_none (n : Nat) : (repCells (n + 2) [Value.bool false]).toList = tcells (fun _ => false) n := by
  unfold tcells repCells
  apply List.ext_getElem?
  intro j
  simp only [List.replicate_succ, List.flatten_replicate_singleton, List.toList_toArray, ← List.replicate_succ]
  rw [List.getElem?_replicate, List.getElem?_map]
  by_cases h : j < n + 2
  · rw [if_pos h, List.getElem?_range h]; rfl
  · rw [if_neg h, List.getElem?_eq_none (by simp; omega)]; rfl
theorem seen_cell {w0 w : World} {l : List Chunk} {b : Nat} {T : Nat → Bool} {n j : Nat} (st : St w0 ([(b, tcells T n)] ++ l) w) (h : j < n + 2) : w.cell? ⟨b, 0 + j, none⟩ = some (Value.bool (T j)) :=
  st.cell 0 rfl (by rw [Nat.zero_add]; exact tcells_get h)
theorem beyV_len (m : GM) : (beyV m).length = (beyF m.S m.mark).length := by unfold beyV; simp

set_option maxHeartbeats 2000000 in
theorem orders_tail {w0 w : World} {x0 : Slc} {R : Bool → World → Prop} {g : Option Addr} {b : Nat} {i k : Int} {A : Int → World → Prop} {m : GM} {T : Nat → Bool} {bs : List Chunk} {n : Nat}
    (hn : x0.len = n) (hn1 : n ≤ 120) (t : Told m T n) (o : GateO g m bs) (st : St w0 (bs ++ ([(b, tcells T n)] ++ [])) w)
    (kA : ∀ w', St w0 (bs ++ ([(b, tcells T n)] ++ [])) w' → A (IntKind.i64.wrap (i + 1)) w') :
    F_towpathlaw12_GateOrders_k5 x0 R g b i A k (m.mark : Int) false w := by
  unfold F_towpathlaw12_GateOrders_k5
  refine ⟨fun h => (by cases h), fun _ => sp_gate_Beyond st o fun s bs3 w14 ro st hbl => ?_⟩
  rw [beyV_map] at ro
  obtain ⟨f1, f2, f3⟩ := o.facts
  have hml := t.le
  have hle : s.len ≤ n := by
    rw [hbl, t.count (by omega)]
    have := List.length_filter_le m.S (List.range' 1 n)
    simpa using this
  have hmem : ∀ x ∈ beyV m, ∃ j : Nat, x = (j : Int) ∧ m.mark < j ∧ j ≤ n ∧ T j = true := fun x hx => by
    obtain ⟨j, rfl, h1, h2, h3⟩ := beyV_mem.1 hx
    refine ⟨j, rfl, h1, (t.above j h3).2, ?_⟩
    rw [t.has j (by omega), h3, Bool.or_true]
  have wn2 : IntKind.i64.wrap (((x0.len : Nat) : Int) + 2) = ((n + 2 : Nat) : Int) := by rw [hn, i64_in _ (by omega) (by omega)]; omega
  refine ⟨fun last q w' => ∃ p : Nat, q = (p : Int) ∧ p ≤ s.len ∧ (∀ x ∈ (beyV m).drop p, last < x) ∧ St w0 (bs3 ++ (bs ++ ([(b, tcells T n)] ++ []))) w', fun _ q _ => s.len - q.toNat, ⟨0, rfl, by omega, fun x hx => ?_, st⟩, ?_⟩
  · obtain ⟨j, rfl, h1, _, _⟩ := hmem x (List.mem_of_mem_drop hx)
    omega
  clear st
  rintro last q w1 ⟨p, rfl, hp, hlast, st⟩
  unfold F_towpathlaw12_GateOrders_L6
  refine ⟨fun h => ?_, fun h => ?_⟩
  · have h := of_decide_eq_true h
    obtain ⟨a, x, hx, hc⟩ := (ro.src st).get (by omega) h
    rw [Int.toNat_natCast] at hx hc
    have hd : (beyV m).drop p = x :: (beyV m).drop (p + 1) := by
      have hpl := (List.getElem?_eq_some_iff.1 hx).1
      rw [List.drop_eq_getElem_cons hpl]
      rw [List.getElem?_eq_getElem hpl] at hx
      rw [Option.some.inj hx]
    obtain ⟨j, rfl, h1, h2, h3⟩ := hmem x (List.mem_of_getElem? hx)
    have hl := hlast (j : Int) (by rw [hd]; exact List.mem_cons_self ..)
    have wp : IntKind.i64.wrap ((p : Int) + 1) = ((p + 1 : Nat) : Int) := by rw [i64_in _ (by omega) (by omega)]; omega
    have hcell : w1.cell? ⟨pblk s.ptr, poff s.ptr + ((p : Int)).toNat, none⟩ = some (iV (j : Int)) := by rw [Int.toNat_natCast]; exact hc
    refine ⟨a, by omega, h, (j : Int), hcell, fun hh => ?_, fun _ => ⟨a, by omega, h, (j : Int), hcell, fun hh => ?_, fun _ => ⟨a, by omega, h, (j : Int), hcell, by omega, ?_, T j, ?_, ?_⟩⟩⟩
    · exfalso; have := of_decide_eq_true hh; omega
    · exfalso; have := of_decide_eq_true hh; omega
    · rw [wn2, Int.toNat_natCast]; omega
    · rw [Int.toNat_natCast]
      exact seen_cell st.drop.drop (by omega)
    · unfold F_towpathlaw12_GateOrders_k7
      rw [h3]
      refine ⟨fun hh => (by cases hh), fun _ => ⟨a, by omega, h, (j : Int), hcell, ?_⟩⟩
      rw [wp]
      refine ⟨⟨p + 1, rfl, by omega, fun y hy => ?_, st⟩, by show _ - _ < _ - _; omega⟩
      have hs := (beyV_sorted m).drop (i := p)
      rw [hd, List.pairwise_cons] at hs
      exact hs.1 y hy
  · clear hlast
    refine ⟨fun many q1 w' => ∃ p : Nat, q1 = ((p + 1 : Nat) : Int) ∧ p ≤ n ∧ many = ((((List.range' 1 p).filter m.S).length : Nat) : Int) ∧ St w0 (bs3 ++ (bs ++ ([(b, tcells T n)] ++ []))) w', fun _ q1 _ => n + 1 - q1.toNat, ⟨0, rfl, by omega, rfl, st⟩, ?_⟩
    clear st
    rintro many q1 w2 ⟨p, rfl, hp, rfl, st⟩
    unfold F_towpathlaw12_GateOrders_L8
    have hfl : ((List.range' 1 p).filter m.S).length ≤ p := by
      have := List.length_filter_le m.S (List.range' 1 p)
      simpa using this
    refine ⟨fun h => ?_, fun h => ?_⟩
    · have h := of_decide_eq_true h
      intro w3 e3
      have st := st.drew e3
      have hc : ∀ w', St w0 (bs3 ++ (bs ++ ([(b, tcells T n)] ++ []))) w' → w'.cell? ⟨b, 0 + (((p + 1 : Nat) : Int)).toNat, none⟩ = some (Value.bool (T (p + 1))) := fun w' st => by
        rw [Int.toNat_natCast]
        exact seen_cell st.drop.drop (by omega)
      refine ⟨by omega, ?_, T (p + 1), hc _ st, ?_⟩
      · rw [wn2, Int.toNat_natCast]; omega
      refine sp_gate_Has st.swap o ⟨hc _ st, fun hh => ?_, fun _ => ⟨by omega, ?_, T (p + 1), hc _ st, fun hh => ?_, fun hh => ?_⟩⟩
      · rw [t.has_eq] at hh; simp at hh
      · rw [wn2, Int.toNat_natCast]; omega
      all_goals
        have wq : IntKind.i64.wrap (((p + 1 : Nat) : Int) + 1) = ((p + 1 + 1 : Nat) : Int) := by rw [i64_in _ (by omega) (by omega)]; omega
        have er : List.range' 1 (p + 1) = List.range' 1 p ++ [p + 1] := by rw [List.range'_concat]; simp; omega
        unfold F_towpathlaw12_GateOrders_k9
        rw [wq]
        refine ⟨⟨p + 1, rfl, by omega, ?_, st⟩, by show _ - _ < _ - _; omega⟩
        rw [er, List.filter_append, List.length_append]
        rw [t.has (p + 1) (by omega)] at hh
      · simp only [Bool.and_eq_true, Bool.or_eq_true, decide_eq_true_eq] at hh
        have hS : m.S (p + 1) = true := by
          rcases hh.1 with h1 | h1
          · omega
          · exact h1
        rw [List.filter_cons, if_pos hS, i64_in _ (by omega) (by omega)]
        simp
      · have hS : m.S (p + 1) = false := by
          cases hx : m.S (p + 1) with
          | false => rfl
          | true =>
            exfalso
            have := (t.above _ hx).1
            rw [hx, Bool.or_true, Bool.true_and, decide_eq_false_iff_not] at hh
            omega
        rw [List.filter_cons, if_neg (by rw [hS]; decide)]
        simp
    · have h := of_decide_eq_false h
      obtain rfl : p = n := by omega
      refine sp_gate_Mark st.swap o ?_
      have hsl : s.len ≤ 65536 := by omega
      refine sp_gate_New (l := bs3 ++ (bs ++ ([(b, tcells T p)] ++ []))) st (row_src ro) (by omega) (fun hbad => ?_) fun mk2 hmk2 _ _ g2 top2 bs4 w10 o2 st => ?_
      · exfalso
        rw [bey_ok t.gap] at hbad
        simp at hbad; omega
      obtain rfl : mk2 = m.mark := by omega
      rw [bey_same (top := top2) f3 f2] at o2
      refine ⟨fun hh => ?_, fun _ => ?_⟩
      · exfalso
        rw [hbl, t.count (by omega)] at hh
        simp at hh
      have wm : IntKind.i64.wrap ((m.mark : Int) + 1) = ((m.mark + 1 : Nat) : Int) := by rw [i64_in _ (by omega) (by omega)]; omega
      rw [wm]
      refine sp_gate_Has st.drop.swap o ⟨fun hh => ?_, fun _ => sp_gate_Mark st o2 ⟨fun hh => ?_, fun _ => sp_gate_Beyond st o2 fun s2 bs5 w12 r2 st h2 => ?_⟩⟩
      · rw [t.has_eq, t.nextT] at hh; cases hh
      · simp at hh
      rw [beyV_map] at r2
      have hv : beyV ⟨m.mark, top2, m.S⟩ = beyV m := rfl
      rw [hv] at r2
      have hsl2 : s2.len ≤ 65536 := by
        have := r2.len
        have h3 := ro.len
        omega
      refine sp_SameInts (r2.src st) (ro.src st.drop.drop) (by omega) fun w13 e13 => ?_
      unfold F_towpathlaw12_GateOrders_k10
      refine ⟨fun hh => by simp at hh, fun _ => kA _ ((st.keep e13).drop.drop.drop)⟩

/-- The state of the law's loop. -/
def OrdI (w : World) (g : Option Addr) (b n : Nat) (i : Int) (w' : World) : Prop :=
  ∃ (T : Nat → Bool) (m : GM) (bs : List Chunk) (p : Nat), i = (p : Int) ∧ p ≤ n ∧ miss T 1 n + p = n ∧ Told m T n ∧ GateO g m bs ∧ St w (bs ++ ([(b, tcells T n)] ++ [])) w'
set_option maxHeartbeats 2000000 in
theorem law_GateOrders (x0 : Slc) (w : World) (h0 : OkSl w x0 1 1 (fun es => ∃ e_ : Int, es = [Value.int .u8 e_] ∧ (0 ≤ e_ ∧ e_ ≤ 255))) :
    C_towpathlaw12_GateOrders x0 w (fun b w' => b = true ∧ RowKit.Below w.heap.size w w') := by
  apply S_towpathlaw12_GateOrders
  unfold F_towpathlaw12_GateOrders
  obtain ⟨l1, hs1, hcl1, hcap1, hl1⟩ := ok_bytes h0
  have st := St.start w
  refine sp_towpathlaw12_alive st fun w1 st => ⟨fun _ => sp_towpathlaw12_alive st fun w2 st => ⟨rfl, st.below⟩, fun hlen => ?_⟩
  simp only [Bool.not_true, Bool.false_or, decide_eq_false_iff_not] at hlen
  obtain ⟨n, hn⟩ : ∃ n, x0.len = n := ⟨_, rfl⟩
  have hn1 : n ≤ 120 := by omega
  refine sp_gate_New (mark := 0) (l := []) (xs := []) st (fun l' w' _ => ⟨rfl, .inl rfl⟩) (by show 0 ≤ _; omega) (fun hbad => by simp [newOk] at hbad) fun mk hmk _ _ g top bs w2 o st => ?_
  obtain rfl : mk = 0 := by omega
  refine ⟨fun hh => by simp at hh, fun _ => ?_⟩
  have wn2 : IntKind.i64.wrap (((x0.len : Nat) : Int) + 2) = ((n + 2 : Nat) : Int) := by rw [hn, i64_in _ (by omega) (by omega)]; omega
  rw [wn2, Int.toNat_natCast]
  refine ⟨by omega, by omega, by omega, fun b w3 hb hw => ?_⟩
  have st : St w (bs ++ ([(b, tcells (fun _ => false) n)] ++ [])) w3 := by
    have h := st.alloc (cs := (repCells (n + 2) [Value.bool false]).toList) hb (by simpa using hw)
    rw [tcells_none] at h
    exact St.mid h
  have t0 : Told ⟨0, top, fun j => decide ((j : Int) ∈ ([] : List Int))⟩ (fun _ => false) n := by
    refine ⟨by simp, fun j hj => ?_, fun j hj => ?_, rfl, ?_⟩
    · simp; omega
    · simp at hj
    · simp
  refine ⟨OrdI w g b n, fun i _ => n - i.toNat, ⟨_, _, bs, 0, rfl, by omega, by rw [miss_none, Nat.add_zero], t0, o, st⟩, ?_⟩
  clear o st t0
  rintro i w4 ⟨T, m, bs, p, rfl, hp, hm, t, o, st⟩
  unfold F_towpathlaw12_GateOrders_L0
  refine ⟨fun hi => ?_, fun hi => ?_⟩
  · have hi := of_decide_eq_true hi
    obtain ⟨a, y, hy, hc⟩ := (st.ext.src hs1).get (i := (p : Int)) (by omega) hi
    have hy1 := y.toNat_lt
    have wy : IntKind.i64.wrap (y.toNat : Int) = (y.toNat : Int) := i64_in _ (by omega) (by omega)
    have wd : IntKind.i64.wrap (((x0.len : Nat) : Int) - (p : Int)) = ((n - p : Nat) : Int) := by rw [hn, i64_in _ (by omega) (by omega)]; omega
    have wp : IntKind.i64.wrap ((p : Int) + 1) = ((p + 1 : Nat) : Int) := by rw [i64_in _ (by omega) (by omega)]; omega
    refine ⟨a, by omega, hi, _, hc, by rw [wd]; omega, ?_⟩
    rw [wd, wy, tmod_nat]
    have hlt : y.toNat % (n - p) < n - p := Nat.mod_lt _ (by omega)
    refine ⟨fun k number w' => ∃ (kk nn : Nat), k = (kk : Int) ∧ number = (nn : Int) ∧ 1 ≤ nn ∧ nn ≤ n ∧ kk < miss T nn (n + 1 - nn) ∧ St w (bs ++ ([(b, tcells T n)] ++ [])) w', fun _ number _ => n + 1 - number.toNat, ⟨_, 1, rfl, rfl, by omega, by omega, by rw [show n + 1 - 1 = n from by omega]; omega, st⟩, ?_⟩
    clear st hlt
    rintro k number w6 ⟨kk, nn, rfl, rfl, hn0, hnn, hk, st⟩
    unfold F_towpathlaw12_GateOrders_L1
    have hcell : ∀ w', St w (bs ++ ([(b, tcells T n)] ++ [])) w' → w'.cell? ⟨b, 0 + ((nn : Int)).toNat, none⟩ = some (Value.bool (T nn)) := fun w' st => by
      rw [Int.toNat_natCast]
      exact seen_cell st.drop (by omega)
    have hin : (nn : Int) < (((IntKind.i64.wrap (((x0.len : Nat) : Int) + 2)).toNat : Nat) : Int) := by rw [wn2, Int.toNat_natCast]; omega
    have wnn : IntKind.i64.wrap ((nn : Int) + 1) = ((nn + 1 : Nat) : Int) := by rw [i64_in _ (by omega) (by omega)]; omega
    have hms : miss T nn (n + 1 - nn) = (if T nn then 0 else 1) + miss T (nn + 1) (n - nn) := by
      rw [show n + 1 - nn = (n - nn) + 1 from by omega, miss_step]
    have hm0 : n - nn = 0 → miss T (nn + 1) (n - nn) = 0 := fun h => by rw [h]; rfl
    have hkl : kk ≤ 200 := by
      have : ∀ (f a : Nat), miss T a f ≤ f := fun f => by
        induction f with
        | zero => intro a; exact Nat.le_refl _
        | succ f ih => intro a; have := ih (a + 1); unfold miss; split <;> omega
      have := this (n + 1 - nn) nn
      omega
    refine ⟨by omega, hin, T nn, hcell _ st, fun hh => ⟨by omega, hin, T nn, hcell _ st, fun hf => ?_, fun hf => ?_⟩, fun hh => ?_⟩
    · unfold F_towpathlaw12_GateOrders_k2
      have hf : T nn = false := by simpa using hf
      rw [hf] at hh hms
      have hk0 : (kk : Int) > 0 := by simpa using hh
      have hms : miss T nn (n + 1 - nn) = 1 + miss T (nn + 1) (n - nn) := hms
      have wk : IntKind.i64.wrap ((kk : Int) - 1) = ((kk - 1 : Nat) : Int) := by rw [i64_in _ (by omega) (by omega)]; omega
      rw [wnn, wk]
      refine ⟨⟨kk - 1, nn + 1, rfl, rfl, by omega, ?_, ?_, st⟩, by show _ - _ < _ - _; omega⟩
      · rcases Nat.lt_or_ge nn n with h | h
        · exact h
        · have := hm0 (by omega); omega
      · rw [show n + 1 - (nn + 1) = n - nn from by omega]; omega
    · unfold F_towpathlaw12_GateOrders_k2
      have hf : T nn = true := by simpa using hf
      rw [hf] at hms
      have hms : miss T nn (n + 1 - nn) = 0 + miss T (nn + 1) (n - nn) := hms
      rw [wnn]
      refine ⟨⟨kk, nn + 1, rfl, rfl, by omega, ?_, ?_, st⟩, by show _ - _ < _ - _; omega⟩
      · rcases Nat.lt_or_ge nn n with h | h
        · exact h
        · have := hm0 (by omega); omega
      · rw [show n + 1 - (nn + 1) = n - nn from by omega]; omega
    · simp only [Bool.or_eq_false_iff, decide_eq_false_iff_not] at hh
      obtain ⟨hT, hk0⟩ := hh
      obtain ⟨f1, f2, f3⟩ := o.facts
      refine sp_gate_Mark st o (sp_gate_Done st o (fun hbad => ?_) fun n' hn' g1 g2 g3 bs' w9 o' st => ?_)
      · exfalso
        rw [t.has_eq, hT] at hbad
        rcases hbad with h | h | h
        · omega
        · omega
        · cases h
      obtain rfl : n' = nn := by omega
      have t' := t.up (by omega) g1 hnn g3 f3 f2
      have hmk : (m.next n').mark = m.mark + m.up n' := rfl
      have hml := t'.le
      have stb : St w ((b, tcells T n) :: (bs' ++ [])) w9 := st.unmid
      refine ⟨by omega, hin, ?_, fun w10 hw10 => ?_⟩
      · rw [Int.toNat_natCast]
        exact stb.writable 0 rfl (by rw [tcells_len]; omega)
      rw [Int.toNat_natCast, Nat.zero_add] at hw10
      have stb := stb.put0 hw10
      rw [tcells_put (by omega)] at stb
      have st : St w (bs' ++ ([(b, tcells (putT T n') n)] ++ [])) w10 := stb.mid
      refine ⟨fun mark w' => ∃ q : Nat, mark = (q : Int) ∧ q ≤ (m.next n').mark ∧ St w (bs' ++ ([(b, tcells (putT T n') n)] ++ [])) w', fun mark _ => (m.next n').mark - mark.toNat, ⟨0, rfl, by omega, st⟩, ?_⟩
      clear st stb
      rintro mark w11 ⟨q, rfl, hq, st⟩
      have tail : q = (m.next n').mark → F_towpathlaw12_GateOrders_k4 x0 (fun b w' => b = true ∧ RowKit.Below w.heap.size w w') g b (p : Int) (fun i' w' => OrdI w g b n i' w' ∧ n - i'.toNat < n - ((p : Int)).toNat) (kk : Int) (m.mark : Int) (m.up n' : Int) 0 (q : Int) (fun (mark' : Int) w' => (∃ q : Nat, mark' = (q : Int) ∧ q ≤ (m.next n').mark ∧ St w (bs' ++ ([(b, tcells (putT T n') n)] ++ [])) w') ∧ (m.next n').mark - mark'.toNat < (m.next n').mark - ((q : Int)).toNat) false w11 := fun he => by
        unfold F_towpathlaw12_GateOrders_k4
        refine ⟨fun h => (by cases h), fun _ => ⟨fun h => (by simp at h), fun _ => sp_gate_Mark st o' ?_⟩⟩
        have hb : ((((((m.next n').mark : Nat) : Int) != (q : Int)) || ((m.up n' : Int) != (IntKind.i64.wrap ((q : Int) - (m.mark : Int))))) || (decide ((m.up n' : Int) < 0))) = false := by
          rw [i64_in _ (by omega) (by omega)]
          simp only [Bool.or_eq_false_iff, bne_eq_false_iff_eq, decide_eq_false_iff_not]
          omega
        rw [hb, he]
        refine orders_tail hn hn1 t' o' st fun w' st => ?_
        rw [wp]
        refine ⟨⟨putT T n', m.next n', bs', p + 1, rfl, by omega, ?_, t', o', st⟩, by show _ - _ < _ - _; omega⟩
        have := miss_in hT n 1 hn0 (by omega)
        omega
      unfold F_towpathlaw12_GateOrders_L3
      refine ⟨fun hlt => ?_, fun hlt => tail (by have := of_decide_eq_false hlt; omega)⟩
      have hlt := of_decide_eq_true hlt
      have wq : IntKind.i64.wrap ((q : Int) + 1) = ((q + 1 : Nat) : Int) := by rw [i64_in _ (by omega) (by omega)]; omega
      rw [wq]
      refine ⟨by omega, by rw [wn2, Int.toNat_natCast]; omega, putT T n' (q + 1), by rw [Int.toNat_natCast]; exact seen_cell st.drop (by omega), ?_⟩
      by_cases he : q = (m.next n').mark
      · have : putT T n' (q + 1) = false := by rw [he]; exact t'.nextT
        rw [this]
        exact tail he
      · rw [t'.below (j := q + 1) (by omega) (by omega)]
        unfold F_towpathlaw12_GateOrders_k4
        refine ⟨fun _ => ?_, fun h => (by cases h)⟩
        rw [wq]
        exact ⟨⟨q + 1, rfl, by omega, st⟩, by show _ - _ < _ - _; omega⟩
  · have hi := of_decide_eq_false hi
    obtain rfl : p = n := by omega
    obtain ⟨h1, h2⟩ := t.full (by omega)
    refine sp_gate_Mark st o ⟨fun _ => sp_gate_Beyond st o fun s bs3 w30 ro st hbl => ⟨?_, st.below⟩, fun hh => ?_⟩
    · rw [hbl, h2]; rfl
    · rw [h1, hn] at hh; simp at hh
end Go.Proofs.Ytchcljkflklddaa
