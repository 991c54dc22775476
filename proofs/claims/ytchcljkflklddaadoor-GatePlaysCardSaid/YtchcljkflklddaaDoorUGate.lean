/- Chapter 12: what a gate's methods do. -/
import Derived.Test.YtchcljkflklddaaDoorUOwn
import Derived.Test.YtchcljkflklddaaDoorGgate
import Derived.Test.YtchcljkflklddaaDoorGtowpathlaw01
namespace Go.Proofs.YtchcljkflklddaaDoor
open Go
set_option linter.unusedVariables false

/-! ### Bits in words -/
def bitAt (ws : List Nat) (n : Nat) : Bool := (ws.getD (n / 64) 0).testBit (n % 64)
abbrev uV (x : Nat) : Value := Value.int .u64 (x : Int)
theorem bitAt_set {ws : List Nat} {n m : Nat} {x : Nat} (hn : n / 64 < ws.length) :
    bitAt (ws.set (n / 64) x) m = if m / 64 = n / 64 then x.testBit (m % 64) else bitAt ws m := by
  unfold bitAt
  split
  · rename_i h
    rw [h, List.getD_eq_getElem?_getD, List.getElem?_set_self hn]; rfl
  · rename_i h
    rw [List.getD_eq_getElem?_getD, List.getElem?_set_ne (fun e => h e.symm), ← List.getD_eq_getElem?_getD]
theorem bitAt_or {ws : List Nat} {n m : Nat} (hn : n / 64 < ws.length) : bitAt (ws.set (n / 64) (ws.getD (n / 64) 0 ||| 2 ^ (n % 64))) m = (bitAt ws m || decide (m = n)) := by
  rw [bitAt_set hn]
  split
  · rename_i h
    rw [Nat.testBit_or, Nat.testBit_two_pow]
    unfold bitAt
    rw [h]
    congr 1
    have : n % 64 = m % 64 ↔ m = n := by omega
    simp only [this]
  · rename_i h
    have : m ≠ n := fun e => h (by rw [e])
    simp [this]
theorem bitAt_clear {ws : List Nat} {n m : Nat} (hn : n / 64 < ws.length) : bitAt (ws.set (n / 64) (ws.getD (n / 64) 0 &&& (2 ^ 64 - 1 - 2 ^ (n % 64)))) m = (bitAt ws m && decide (m ≠ n)) := by
  rw [bitAt_set hn]
  split
  · rename_i h
    have hlt : n % 64 < 64 := Nat.mod_lt _ (by omega)
    have hp : 2 ^ (n % 64) < 2 ^ 64 := Nat.pow_lt_pow_right (by omega) hlt
    rw [Nat.testBit_and, show 2 ^ 64 - 1 - 2 ^ (n % 64) = 2 ^ 64 - (2 ^ (n % 64) + 1) from by omega, Nat.testBit_two_pow_sub_succ hp, Nat.testBit_two_pow]
    unfold bitAt
    rw [h]
    congr 1
    have h1 : m % 64 < 64 := Nat.mod_lt _ (by omega)
    have : (n % 64 = m % 64) ↔ m = n := by omega
    simp only [h1, decide_true, Bool.true_and, this]
    by_cases hmn : m = n <;> simp [hmn]
  · rename_i h
    have : m ≠ n := fun e => h (by rw [e])
    simp [this]
theorem and_one_testBit (v k : Nat) : (((v / 2 ^ k) &&& 1 : Nat) : Int) = 1 ↔ v.testBit k = true := by
  rw [Nat.testBit_eq_decide_div_mod_eq]
  rw [Nat.and_one_is_mod]
  simp only [decide_eq_true_eq]
  omega

structure GM where
  mark : Nat
  top : Nat
  S : Nat → Bool
def gcells (m : GM) (ws : List Nat) : List Value := [Value.bool true, iV (m.mark : Int)] ++ ws.map uV ++ [iV (m.top : Int)]
def GateO (g : Option Addr) (m : GM) (bs : List Chunk) : Prop :=
  ∃ (b : Nat) (ws : List Nat), g = some ⟨b, 0, none⟩ ∧ bs = [(b, gcells m ws)] ∧ ws.length = 1025 ∧ (∀ x ∈ ws, x < 2 ^ 64) ∧ (∀ n, n ≤ 65536 → bitAt ws n = m.S n) ∧
    m.mark ≤ m.top ∧ m.top ≤ 65536 ∧ ∀ n, m.S n = true → m.mark < n ∧ n ≤ m.top

theorem gcells_len {m : GM} {ws : List Nat} (h : ws.length = 1025) : (gcells m ws).length = 1028 := by simp [gcells, h]
theorem gcells_top {m : GM} {ws : List Nat} (h : ws.length = 1025) : (gcells m ws)[1027]? = some (iV (m.top : Int)) := by
  unfold gcells
  rw [List.getElem?_append_right (by simp [h])]
  simp [h]
theorem gcells_word {m : GM} {ws : List Nat} {i : Nat} (h : i < ws.length) : (gcells m ws)[2 + i]? = some (uV (ws.getD i 0)) := by
  show (Value.bool true :: iV (m.mark : Int) :: (ws.map uV ++ [iV (m.top : Int)]))[2 + i]? = _
  rw [Nat.add_comm, List.getElem?_cons_succ, List.getElem?_cons_succ, List.getElem?_append_left (by simpa using h), List.getElem?_map, List.getElem?_eq_getElem h, List.getD_eq_getElem?_getD, List.getElem?_eq_getElem h]
  rfl
theorem gcells_setw {m : GM} {ws : List Nat} {i x : Nat} (h : i < ws.length) : putL (2 + i) [uV x] (gcells m ws) = gcells m (ws.set i x) := by
  rw [putL_one]
  show (Value.bool true :: iV (m.mark : Int) :: (ws.map uV ++ [iV (m.top : Int)])).set (2 + i) _ = _
  rw [Nat.add_comm, List.set_cons_succ, List.set_cons_succ, List.set_append_left _ _ (by simpa using h), ← List.map_set]
  rfl
theorem gcells_sett {m : GM} {ws : List Nat} {x : Nat} (h : ws.length = 1025) : putL 1027 [iV (x : Int)] (gcells m ws) = gcells { m with top := x } ws := by
  rw [putL_one]
  show (Value.bool true :: iV (m.mark : Int) :: (ws.map uV ++ [iV (m.top : Int)])).set (1025 + 2) _ = _
  rw [List.set_cons_succ, List.set_cons_succ, List.set_append_right _ _ (by simp [h])]
  simp [h, gcells]
theorem mem_set_lt {ws : List Nat} {i x B : Nat} (h : ∀ y ∈ ws, y < B) (hx : x < B) : ∀ y ∈ ws.set i x, y < B := fun y hy => by
  rcases List.mem_or_eq_of_mem_set hy with h1 | h1
  · exact h y h1
  · exact h1 ▸ hx
theorem getD_lt {ws : List Nat} {i B : Nat} (h : ∀ y ∈ ws, y < B) (hB : 0 < B) : ws.getD i 0 < B := by
  rw [List.getD_eq_getElem?_getD]
  cases hx : ws[i]? with
  | none => exact hB
  | some y => exact h y (List.mem_of_getElem? hx)

theorem word_of {n : Nat} (h : n ≤ 65536) : IntKind.i64.wrap (Int.tdiv (n : Int) 64) = ((n / 64 : Nat) : Int) := by
  rw [show Int.tdiv (n : Int) 64 = ((n / 64 : Nat) : Int) from tdiv_nat n 64, i64_in _ (by omega) (by omega)]
theorem bit_of (n : Nat) : Int.tmod (n : Int) 64 = ((n % 64 : Nat) : Int) := tmod_nat n 64
theorem shl_one {k : Nat} (h : k < 64) : IntKind.u64.wrap (1 * 2 ^ (min ((k : Int).toNat) 64)) = ((2 ^ k : Nat) : Int) := by
  rw [Int.toNat_natCast, Nat.min_eq_left (by omega), Int.one_mul]
  have hp : (2 : Nat) ^ k < 2 ^ 64 := Nat.pow_lt_pow_right (by omega) h
  have : ((2 : Int) ^ k) = ((2 ^ k : Nat) : Int) := by push_cast; rfl
  rw [this]
  exact wrap_small (k := .u64) rfl hp

section
variable {w0 w : World} {l bs : List Chunk} {g : Option Addr} {m : GM}

theorem sp_gate_is {n : Int} {R : Bool → World → Prop} (st : St w0 (bs ++ l) w) (o : GateO g m bs) (h0 : 0 ≤ n) (k : R (m.S n.toNat) w) : C_gate_Gate_is g n w R := by
  apply S_gate_Gate_is
  unfold F_gate_Gate_is
  obtain ⟨b, ws, rfl, rfl, hl, hb, hs, hmt, ht, hS⟩ := o
  obtain ⟨n, rfl⟩ := toN h0
  rw [Int.toNat_natCast] at k
  refine ⟨fun h => ?_, fun h => ?_⟩
  · have h := of_decide_eq_true h
    have hn : n ≤ 65536 := by omega
    have hm := Nat.mod_lt n (show 64 > 0 by omega)
    have hd : n / 64 < ws.length := by omega
    rw [word_of hn, bit_of]
    refine ⟨rfl, by omega, by omega, ((ws.getD (n / 64) 0 : Nat) : Int), st.cell 0 rfl (gcells_word hd), by omega, ?_⟩
    have e : (band .u64 (Int.fdiv ((ws.getD (n / 64) 0 : Nat) : Int) (2 ^ (min ((n % 64 : Nat) : Int).toNat 64))) 1 == 1) = m.S n := by
      rw [Int.toNat_natCast, Nat.min_eq_left (by omega), show ((2 : Int) ^ (n % 64)) = ((2 ^ (n % 64) : Nat) : Int) from by push_cast; rfl, fdiv_nat]
      have hlt : ws.getD (n / 64) 0 < 2 ^ 64 := getD_lt hb (by decide)
      have h1 := band_bare (k := .u64) rfl (a := ws.getD (n / 64) 0 / 2 ^ (n % 64)) (b := 1) (Nat.lt_of_le_of_lt (Nat.div_le_self _ _) hlt) (by decide)
      rw [show (((1 : Nat)) : Int) = (1 : Int) from rfl] at h1
      rw [h1, ← hs n hn]
      unfold bitAt
      rw [Bool.eq_iff_iff, beq_iff_eq]
      exact and_one_testBit _ _
    rw [e]; exact k
  · have h := of_decide_eq_false h
    have : m.S n = false := by
      cases hx : m.S n with
      | false => rfl
      | true => have := hS n hx; omega
    rw [this] at k; exact k

theorem sp_gate_set {n : Nat} {R : World → Prop} (st : St w0 (bs ++ l) w) (o : GateO g m bs) (h0 : m.mark < n) (h1 : n ≤ 65536)
    (k : ∀ bs' w', GateO g ⟨m.mark, max m.top n, fun j => m.S j || decide (j = n)⟩ bs' → St w0 (bs' ++ l) w' → R w') : C_gate_Gate_set g (n : Int) w R := by
  apply S_gate_Gate_set
  unfold F_gate_Gate_set
  intro w1 e1
  have st := st.drew e1
  obtain ⟨b, ws, rfl, rfl, hl, hb, hs, hmt, ht, hS⟩ := o
  have hm := Nat.mod_lt n (show 64 > 0 by omega)
  have hd : n / 64 < ws.length := by omega
  rw [word_of h1, bit_of, shl_one hm]
  have hlt : ws.getD (n / 64) 0 < 2 ^ 64 := getD_lt hb (by decide)
  have hp : (2 : Nat) ^ (n % 64) < 2 ^ 64 := Nat.pow_lt_pow_right (by omega) hm
  refine ⟨rfl, by omega, by omega, ((ws.getD (n / 64) 0 : Nat) : Int), st.cell 0 rfl (gcells_word hd), by omega, by omega, by omega, st.writable 0 rfl (by rw [gcells_len hl]; show 0 + 2 + _ + 1 ≤ _; omega), fun w2 hw2 => ?_⟩
  rw [bor_bare (k := .u64) rfl hlt hp] at hw2
  have e2 : poff (some ⟨b, 0, none⟩ : Option Addr) + 2 + (((n / 64 : Nat) : Int)).toNat = 2 + n / 64 := by show 0 + 2 + _ = _; rw [Int.toNat_natCast]
  rw [e2] at hw2
  have st := st.put0 hw2
  rw [gcells_setw hd] at st
  have hl' : (ws.set (n / 64) (ws.getD (n / 64) 0 ||| 2 ^ (n % 64))).length = 1025 := by simpa using hl
  refine ⟨rfl, _, st.cell 0 rfl (gcells_top hl'), rfl, st.writable 0 rfl (by rw [gcells_len hl']; show 0 + 1027 + 1 ≤ _; omega), fun w3 hw3 => ?_⟩
  have e3 : (if (n : Int) > (m.top : Int) then (n : Int) else (m.top : Int)) = ((max m.top n : Nat) : Int) := by split <;> omega
  rw [e3] at hw3
  have st := st.put0 (o := 1027) hw3
  rw [gcells_sett hl'] at st
  refine k _ _ ⟨b, _, rfl, rfl, hl', mem_set_lt hb (Nat.or_lt_two_pow hlt hp), fun j hj => ?_, by simp only; omega, by simp only; omega, fun j hj => ?_⟩ st
  · rw [bitAt_or hd, hs j hj]
  · simp only [Bool.or_eq_true, decide_eq_true_eq] at hj
    simp only
    rcases hj with hj | hj
    · have := hS j hj; omega
    · omega

theorem sp_gate_Mark {R : Int → World → Prop} (st : St w0 (bs ++ l) w) (o : GateO g m bs) (k : R (m.mark : Int) w) : C_gate_Gate_Mark g w R := by
  apply S_gate_Gate_Mark
  unfold F_gate_Gate_Mark
  obtain ⟨b, ws, rfl, rfl, hl, hb, hs, hmt, ht, hS⟩ := o
  exact ⟨fun h => (by cases h), fun _ => ⟨rfl, _, st.cell 0 rfl rfl, k⟩⟩

def GM.has (m : GM) (n : Int) : Bool := decide (1 ≤ n) && (decide (n ≤ (m.mark : Int)) || m.S n.toNat)
theorem sp_gate_Has {n : Int} {R : Bool → World → Prop} (st : St w0 (bs ++ l) w) (o : GateO g m bs) (k : R (m.has n) w) : C_gate_Gate_Has g n w R := by
  apply S_gate_Gate_Has
  unfold F_gate_Gate_Has
  unfold GM.has at k
  have o' := o
  obtain ⟨b, ws, rfl, rfl, hl, hb, hs, hmt, ht, hS⟩ := o
  refine ⟨fun _ => ⟨rfl, true, st.cell 0 rfl rfl, fun h => ?_, fun h => ?_⟩, fun h => by cases h⟩
  · have h : 1 ≤ n := by simpa using h
    rw [decide_eq_true h, Bool.true_and] at k
    refine ⟨rfl, _, st.cell 0 rfl rfl, fun h2 => ?_, fun h2 => ?_⟩
    · rw [h2, Bool.true_or] at k; exact k
    · rw [h2, Bool.false_or] at k
      exact sp_gate_is st o' (by omega) k
  · have h : ¬ 1 ≤ n := by simpa using h
    rw [decide_eq_false h, Bool.false_and] at k
    exact k

/-- Those beyond the mark, rising. -/
def beyF (S : Nat → Bool) (mark : Nat) : List Nat := (List.range' (mark + 1) (65536 - mark)).filter S
theorem mem_beyF {S : Nat → Bool} {mark n : Nat} : n ∈ beyF S mark ↔ mark < n ∧ n ≤ 65536 ∧ S n = true := by
  unfold beyF
  rw [List.mem_filter, List.mem_range'_1]
  exact ⟨fun h => ⟨by omega, by omega, h.2⟩, fun h => ⟨by omega, h.2.2⟩⟩
theorem beyF_sorted (S : Nat → Bool) (mark : Nat) : (beyF S mark).Pairwise (· < ·) := List.Pairwise.filter _ List.pairwise_lt_range'
theorem beyF_cut {S : Nat → Bool} {mark n : Nat} (hn : n ≤ 65536) (h : ∀ j, S j = true → j ≤ n) (hm : mark ≤ n) : beyF S mark = (List.range' (mark + 1) (n - mark)).filter S := by
  unfold beyF
  have e : 65536 - mark = (n - mark) + (65536 - n) := by omega
  rw [e, ← List.range'_append_1, List.filter_append]
  have : (List.range' (mark + 1 + (n - mark)) (65536 - n)).filter S = [] := by
    rw [List.filter_eq_nil_iff]
    intro j hj hs
    have := h j hs
    rw [List.mem_range'_1] at hj
    omega
  rw [this, List.append_nil]

theorem sp_gate_Beyond {R : Slc → World → Prop} (st : St w0 (bs ++ l) w) (o : GateO g m bs)
    (k : ∀ s bs' w', RowC 1 s ((beyF m.S m.mark).map fun (n : Nat) => iV (n : Int)) bs' → St w0 (bs' ++ (bs ++ l)) w' → s.len = (beyF m.S m.mark).length → R s w') : C_gate_Gate_Beyond g w R := by
  apply S_gate_Gate_Beyond
  unfold F_gate_Gate_Beyond
  have o' := o
  obtain ⟨b, ws, rfl, rfl, hl, hb, hs, hmt, ht, hS⟩ := o
  refine ⟨fun h => (by cases h), fun _ => ⟨rfl, true, st.cell 0 rfl rfl, ?_⟩⟩
  unfold F_gate_Gate_Beyond_k0
  refine ⟨fun h => (by cases h), fun _ => ⟨rfl, _, st.cell 0 rfl rfl, ?_⟩⟩
  have w1 : IntKind.i64.wrap ((m.mark : Int) + 1) = ((m.mark + 1 : Nat) : Int) := by rw [i64_in _ (by omega) (by omega)]; omega
  rw [w1]
  refine ⟨fun out n w' => ∃ (j : Nat) (bs' : List Chunk), n = ((m.mark + 1 + j : Nat) : Int) ∧ m.mark + j ≤ m.top ∧ RowC 1 out (((List.range' (m.mark + 1) j).filter m.S).map fun (n : Nat) => iV (n : Int)) bs' ∧ St w0 (bs' ++ ([(b, gcells m ws)] ++ l)) w' ∧ out.len ≤ j,
    fun _ n _ => m.top + 1 - n.toNat, ⟨0, [], rfl, hmt, RowC.nil, st, by simp⟩, ?_⟩
  rintro out n w2 ⟨j, bs', rfl, hj, ro, st, hol⟩
  unfold F_gate_Gate_Beyond_L1 F_gate_Gate_Beyond_k2
  have stg := st.swap (a := bs') (b := [(b, gcells m ws)])
  refine ⟨rfl, (m.top : Int), stg.cell 0 rfl (gcells_top hl), fun h => ?_, fun h => ?_⟩
  · have h := of_decide_eq_true h
    have wn : IntKind.i64.wrap (((m.mark + 1 + j : Nat) : Int) + 1) = ((m.mark + 1 + (j + 1) : Nat) : Int) := by rw [i64_in _ (by omega) (by omega)]; omega
    rw [wn]
    have er : List.range' (m.mark + 1) (j + 1) = List.range' (m.mark + 1) j ++ [m.mark + 1 + j] := by rw [List.range'_concat]; simp
    refine sp_gate_is stg o' (by omega) ?_
    rw [Int.toNat_natCast]
    refine ⟨fun hx b2 w5 hb2 hw5 => ⟨_, srcAt_new hb2 hw5 rfl, ?_⟩, fun hx => ⟨⟨j + 1, bs', rfl, by omega, ?_, st, by omega⟩, by first | omega | (show _ - _ < _ - _; omega)⟩⟩
    · refine ro.append ((st.alloc hb2 hw5).drop1) rfl rfl rfl (by omega) fun s' bs2 w6 ro st hlen => ?_
      refine ⟨⟨j + 1, bs2, rfl, by omega, ?_, st, by omega⟩, by first | omega | (show _ - _ < _ - _; omega)⟩
      rw [er, List.filter_append, List.filter_cons, if_pos hx, List.filter_nil, List.map_append]
      exact ro
    · rw [er, List.filter_append, List.filter_cons, if_neg (by rw [hx]; decide), List.filter_nil, List.append_nil]
      exact ro
  · have h := of_decide_eq_false h
    have hjt : j = m.top - m.mark := by omega
    subst hjt
    rw [← beyF_cut ht (fun j hj => (hS j hj).2) hmt] at ro
    refine k _ _ _ ro st ?_
    have := ro.len
    rw [List.length_map] at this
    omega
end

/-! ### Done: the mark goes up as far as all are there -/
def runF (S : Nat → Bool) : Nat → Nat → Nat
  | _, 0 => 0
  | k, f + 1 => if S (k + 1) then runF S (k + 1) f + 1 else 0
def GM.done (m : GM) (n : Nat) : Nat → Bool := fun j => m.S j || decide (j = n)
def GM.up (m : GM) (n : Nat) : Nat := runF (m.done n) m.mark (65536 - m.mark)
def GM.next (m : GM) (n : Nat) : GM := ⟨m.mark + m.up n, max m.top n, fun j => m.done n j && decide (m.mark + m.up n < j)⟩
theorem runF_spec (S : Nat → Bool) : ∀ (f k : Nat), runF S k f ≤ f ∧ (∀ j, k < j → j ≤ k + runF S k f → S j = true) ∧ (runF S k f < f → S (k + runF S k f + 1) = false)
  | 0, k => ⟨Nat.le_refl _, fun j h0 h1 => by simp only [runF] at h1; omega, fun h => by simp [runF] at h⟩
  | f + 1, k => by
    obtain ⟨h1, h2, h3⟩ := runF_spec S f (k + 1)
    unfold runF
    split
    · rename_i h
      refine ⟨by omega, fun j hj0 hj1 => ?_, fun hlt => ?_⟩
      · by_cases hj : j = k + 1
        · rw [hj]; exact h
        · exact h2 j (by omega) (by omega)
      · have := h3 (by omega)
        rw [show k + (runF S (k + 1) f + 1) + 1 = k + 1 + runF S (k + 1) f + 1 from by omega]; exact this
    · rename_i h
      exact ⟨by omega, fun j hj0 hj1 => by omega, fun _ => by simpa using h⟩

section
variable {w0 w : World} {l bs : List Chunk} {g : Option Addr} {m : GM}
theorem sp_gate_Done {n : Int} {R : Int → Int → World → Prop} (st : St w0 (bs ++ l) w) (o : GateO g m bs) (k0 : (n < 1 ∨ n > 65536 ∨ m.has n = true) → R 0 1 w)
    (k1 : ∀ n' : Nat, n = (n' : Int) → m.mark < n' → n' ≤ 65536 → m.S n' = false → ∀ bs' w', GateO g (m.next n') bs' → St w0 (bs' ++ l) w' → R (m.up n' : Int) 0 w') : C_gate_Gate_Done g n w R := by
  apply S_gate_Gate_Done
  unfold F_gate_Gate_Done
  refine ⟨fun h => ?_, fun _ => ?_⟩
  · obtain ⟨b, ws, rfl, _⟩ := o; cases h
  have hat : IsAt g ∧ w.cell? ⟨pblk g, poff g, none⟩ = some (Value.bool true) := by
    obtain ⟨b, ws, rfl, rfl, _⟩ := o
    exact ⟨rfl, st.cell 0 rfl rfl⟩
  refine ⟨hat.1, true, hat.2, ?_⟩
  unfold F_gate_Gate_Done_k0
  refine ⟨fun h => (by cases h), fun _ => ⟨fun h => ?_, fun h => ?_⟩⟩
  · unfold F_gate_Gate_Done_k1
    exact ⟨fun _ => k0 (by simp only [Bool.or_eq_true, decide_eq_true_eq] at h; omega), fun h => by cases h⟩
  simp only [Bool.or_eq_false_iff, decide_eq_false_iff_not] at h
  refine sp_gate_Has st o ?_
  unfold F_gate_Gate_Done_k1
  refine ⟨fun h => k0 (.inr (.inr h)), fun hh => ?_⟩
  obtain ⟨n, rfl⟩ := toN (show 0 ≤ n by omega)
  have hmk : m.mark < n ∧ m.S n = false := by
    unfold GM.has at hh
    simp only [Int.toNat_natCast, Bool.and_eq_false_iff, Bool.or_eq_false_iff, decide_eq_false_iff_not] at hh
    rcases hh with hh | hh
    · omega
    · exact ⟨by omega, hh.2⟩
  have k1 := k1 n rfl hmk.1 (by omega) hmk.2
  obtain ⟨hr1, hr2, hr3⟩ := runF_spec (m.done n) (65536 - m.mark) m.mark
  refine sp_gate_set st o hmk.1 (by omega) fun bs w3 o st => ?_
  refine ⟨fun up w' => ∃ (u : Nat) (bs : List Chunk), up = (u : Int) ∧ u ≤ m.up n ∧ GateO g ⟨m.mark + u, max m.top n, fun j => m.done n j && decide (m.mark + u < j)⟩ bs ∧ St w0 (bs ++ l) w', fun up _ => m.up n - up.toNat,
    ⟨0, bs, rfl, by omega, ?_, st⟩, ?_⟩
  · have : (fun j => m.S j || decide (j = n)) = (fun j => m.done n j && decide (m.mark + 0 < j)) := by
      funext j
      unfold GM.done
      cases hx : (m.S j || decide (j = n)) with
      | false => rfl
      | true =>
        obtain ⟨b, ws, _, _, _, _, _, _, _, hS⟩ := o
        have := (hS j hx).1
        simp only at this
        simp; omega
    rw [this] at o; exact o
  rintro up w4 ⟨u, bs, rfl, hu, o, st⟩
  unfold F_gate_Gate_Done_L2
  have o' := o
  obtain ⟨b, ws, rfl, rfl, hl, hb, hs, hmt, ht, hS⟩ := o
  simp only at hmt ht hS hs
  refine ⟨rfl, _, st.cell 0 rfl rfl, ?_⟩
  have w1 : IntKind.i64.wrap (((m.mark + u : Nat) : Int) + 1) = ((m.mark + u + 1 : Nat) : Int) := by rw [i64_in _ (by omega) (by omega)]; omega
  simp only [w1]
  refine sp_gate_is st o' (by omega) ?_
  rw [Int.toNat_natCast]
  simp only
  have hlt : decide (m.mark + u < m.mark + u + 1) = true := decide_eq_true (by omega)
  rw [hlt, Bool.and_true]
  refine ⟨fun hx => ?_, fun hx => ?_⟩
  · have hun : u < m.up n := by
      rcases Nat.lt_or_ge u (m.up n) with h | h
      · exact h
      · obtain rfl : u = m.up n := by omega
        have hle := (hS (m.mark + m.up n + 1) (by simp [hx])).2
        have := hr3 (by unfold GM.up at hle; omega)
        unfold GM.up at hx
        rw [hx] at this; cases this
    have h65 : m.mark + u + 1 ≤ 65536 := by
      have := (hS (m.mark + u + 1) (by simp [hx])).2
      omega
    refine ⟨rfl, _, st.cell 0 rfl rfl, st.writable 0 rfl (by rw [gcells_len hl]; show 0 + 1 + 1 ≤ _; omega), fun w6 hw6 w7 e7 => ?_⟩
    simp only [w1] at hw6
    have st := (st.put0 (o := 1) hw6).drew e7
    have hst : St w0 ((b, gcells ⟨m.mark + u + 1, max m.top n, fun j => m.done n j && decide (m.mark + u < j)⟩ ws) :: l) w7 := st
    have st := hst
    have hmm := Nat.mod_lt (m.mark + u + 1) (show 64 > 0 by omega)
    have hd : (m.mark + u + 1) / 64 < ws.length := by omega
    have hlt : ws.getD ((m.mark + u + 1) / 64) 0 < 2 ^ 64 := getD_lt hb (by decide)
    have hp : (2 : Nat) ^ ((m.mark + u + 1) % 64) < 2 ^ 64 := Nat.pow_lt_pow_right (by omega) hmm
    refine ⟨rfl, _, st.cell 0 rfl rfl, rfl, ?_⟩
    simp only [word_of h65]
    refine ⟨by omega, by omega, ((ws.getD ((m.mark + u + 1) / 64) 0 : Nat) : Int), st.cell 0 rfl (gcells_word hd), rfl, _, st.cell 0 rfl rfl, ?_⟩
    rw [bit_of]
    refine ⟨by omega, by omega, by omega, st.writable 0 rfl (by rw [gcells_len hl]; show 0 + 2 + _ + 1 ≤ _; omega), fun w8 hw8 => ?_⟩
    rw [shl_one hmm, bandnot_bare (k := .u64) rfl hlt hp] at hw8
    have e2 : poff (some ⟨b, 0, none⟩ : Option Addr) + 2 + ((((m.mark + u + 1) / 64 : Nat) : Int)).toNat = 2 + (m.mark + u + 1) / 64 := by show 0 + 2 + _ = _; rw [Int.toNat_natCast]
    rw [e2] at hw8
    have st := st.put0 hw8
    have hx64 : (2 : Nat) ^ IntKind.u64.bits = 2 ^ 64 := rfl
    rw [hx64, gcells_setw hd] at st
    have wu : IntKind.i64.wrap ((u : Int) + 1) = ((u + 1 : Nat) : Int) := by rw [i64_in _ (by omega) (by omega)]; omega
    rw [wu]
    refine ⟨⟨u + 1, _, rfl, by omega, ⟨b, _, rfl, rfl, by simpa using hl, mem_set_lt hb (Nat.lt_of_le_of_lt Nat.and_le_left hlt), fun j hj => ?_, ?_, by simp only; omega, fun j hj => ?_⟩, st⟩, by first | omega | (show _ - _ < _ - _; omega)⟩
    · rw [bitAt_clear hd, hs j hj]
      simp only
      rw [Bool.and_assoc]
      congr 1
      rw [Bool.eq_iff_iff]
      simp; omega
    · simp only
      have := (hS (m.mark + u + 1) (by simp [hx])).2
      omega
    · simp only [Bool.and_eq_true, decide_eq_true_eq] at hj ⊢
      have := (hS j (by simp [hj.1]; omega)).2
      omega
  · have hun : u = m.up n := by
      rcases Nat.lt_or_ge u (m.up n) with h | h
      · have := hr2 (m.mark + u + 1) (by omega) (by unfold GM.up at h; omega)
        rw [hx] at this; cases this
      · omega
    subst hun
    exact k1 _ _ o' st

/-- What New asks of those beyond. -/
def newOk (mark : Int) : Int → List Int → Bool
  | _, [] => true
  | top, n :: r => !(decide (n < mark + 2) || decide (n > 65536) || decide (n ≤ top)) && newOk mark n r
theorem newOk_of {mark : Int} : ∀ {l : List Int} {top : Int}, l.Pairwise (· < ·) → (∀ x ∈ l, mark + 2 ≤ x ∧ x ≤ 65536 ∧ top < x) → newOk mark top l = true
  | [], _, _, _ => rfl
  | n :: r, top, hp, h => by
    have h0 := h n (List.mem_cons_self ..)
    rw [List.pairwise_cons] at hp
    rw [newOk, newOk_of hp.2 fun x hx => by have := h x (List.mem_cons_of_mem _ hx); have := hp.1 x hx; omega]
    simp; omega

theorem sp_gate_New {mark : Int} {s : Slc} {xs : List Int} {R : Option Addr → Int → World → Prop} (st : St w0 l w) (hs : ∀ l' w', St w0 (l' ++ l) w' → SrcAt w' s 1 (xs.map iV)) (hlen : s.len ≤ 4611686018427387904)
    (k0 : (mark < 0 ∨ mark > 65536 ∨ newOk mark mark xs = false) → ∀ w', St w0 l w' → R none 1 w')
    (k1 : ∀ mk : Nat, mark = (mk : Int) → mk ≤ 65536 → newOk mark mark xs = true → ∀ g' top bs' w', GateO g' ⟨mk, top, fun j => decide ((j : Int) ∈ xs)⟩ bs' → St w0 (bs' ++ l) w' → R g' 0 w') : C_gate_New mark s w R := by
  apply S_gate_New
  unfold F_gate_New
  refine ⟨fun h => k0 (by simp only [Bool.or_eq_true, decide_eq_true_eq] at h; omega) _ st, fun h => ?_⟩
  simp only [Bool.or_eq_false_iff, decide_eq_false_iff_not] at h
  obtain ⟨mk, rfl⟩ := toN (show 0 ≤ mark by omega)
  intro b w1 hb hw
  have st := st.alloc hb hw
  have hsl := (hs [] _ st.drop1).len_eq
  have e0 : ([Value.bool true, iV (mk : Int)] ++ List.map (Value.int IntKind.u64) (List.replicate 1025 0) ++ [iV (mk : Int)]) = gcells ⟨mk, mk, fun _ => false⟩ (List.replicate 1025 0) := by
    unfold gcells
    rw [List.map_replicate, List.map_replicate]; rfl
  rw [e0] at st
  have o0 : GateO (some ⟨b, 0, none⟩) ⟨mk, mk, fun j => decide ((j : Int) ∈ xs.take 0)⟩ [(b, gcells ⟨mk, mk, fun _ => false⟩ (List.replicate 1025 0))] := by
    refine ⟨b, List.replicate 1025 0, rfl, rfl, List.length_replicate, fun x hx => ?_, fun n hn => ?_, Nat.le_refl _, by simp only; omega, fun n hn => by simp at hn⟩
    · rw [List.eq_of_mem_replicate hx]; decide
    · unfold bitAt
      rw [List.getD_eq_getElem?_getD, List.getElem?_replicate]
      split <;> simp
  have wm : IntKind.i64.wrap ((mk : Int) + 2) = (mk : Int) + 2 := i64_in _ (by omega) (by omega)
  refine ⟨fun t w' => ∃ (top : Nat) (bs : List Chunk), 0 ≤ t ∧ t ≤ s.len ∧ newOk mk mk xs = newOk mk top (xs.drop t.toNat) ∧ GateO (some ⟨b, 0, none⟩) ⟨mk, top, fun j => decide ((j : Int) ∈ xs.take t.toNat)⟩ bs ∧ St w0 (bs ++ l) w',
    fun t _ => s.len - t.toNat, ⟨mk, _, by omega, by omega, rfl, o0, st⟩, ?_⟩
  rintro t w2 ⟨top, bs, ht0, ht1, hok, o, st⟩
  unfold F_gate_New_L0
  refine ⟨fun hi => ?_, fun hi => ?_⟩
  · have hi := of_decide_eq_true hi
    obtain ⟨a, x, hx, hc⟩ := (hs _ _ st).get ht0 hi
    have wt : IntKind.i64.wrap (t + 1) = t + 1 := wrap_next ht0 hi (by omega)
    rw [drop_get hx, newOk] at hok
    refine ⟨a, ht0, hi, x, hc, ?_⟩
    rw [wm]
    unfold F_gate_New_k1
    refine ⟨fun h2 => ⟨fun _ => k0 (.inr (.inr ?_)) _ st.drop, fun hh => (by cases hh)⟩, fun h2 => ?_⟩
    · rw [hok, h2]; rfl
    simp only [Bool.or_eq_false_iff, decide_eq_false_iff_not] at h2
    have hcell : w2.cell? ⟨b, 1027, none⟩ = some (iV (top : Int)) := by
      obtain ⟨b', ws, hb', rfl, hl, _⟩ := o
      simp only [Option.some.injEq, Addr.mk.injEq, and_true] at hb'
      subst hb'
      exact st.cell 0 rfl (gcells_top hl)
    refine ⟨_, hcell, fun h3 => k0 (.inr (.inr ?_)) _ st.drop, fun h3 => ?_⟩
    · rw [hok, h3]; simp
    have h3' := of_decide_eq_false h3
    obtain ⟨x, rfl⟩ := toN (show 0 ≤ x by omega)
    refine sp_gate_set st o (by simp only; omega) (by omega) fun bs w4 o st => ?_
    rw [wt]
    refine ⟨⟨max top x, bs, by omega, by omega, ?_, ?_, st⟩, by first | omega | (show _ - _ < _ - _; omega)⟩
    · rw [hok, toNat_next ht0, show max top x = x from by omega]
      have : (decide ((x : Int) < (mk : Int) + 2) || decide ((x : Int) > 65536) || decide ((x : Int) ≤ (top : Int))) = false := by simp; omega
      rw [this]; rfl
    · have : (fun j : Nat => decide ((j : Int) ∈ xs.take (t + 1).toNat)) = (fun j : Nat => decide ((j : Int) ∈ xs.take t.toNat) || decide (j = x)) := by
        funext j
        rw [toNat_next ht0, List.take_add_one, hx, Bool.eq_iff_iff]
        simp only [Option.toList_some, List.mem_append, List.mem_singleton, decide_eq_true_eq, Bool.or_eq_true]
        have : ((j : Int) = (x : Int)) ↔ j = x := by omega
        rw [this]
      rw [this]; exact o
  · have hi := of_decide_eq_false hi
    have hn : t.toNat = xs.length := by omega
    rw [hn, List.take_length] at o
    rw [hn, List.drop_length, newOk] at hok
    exact k1 mk rfl (by omega) hok _ _ _ _ o st
end

theorem sp_SameInts {w : World} {a b : Slc} {xs ys : List Int} {R : Bool → World → Prop} (ha : SrcAt w a 1 (xs.map iV)) (hb : SrcAt w b 1 (ys.map iV)) (hl : a.len ≤ 4611686018427387904)
    (k : ∀ w', Ext w w' → R (decide (xs = ys)) w') : C_towpathlaw01_SameInts a b w R := by
  apply S_towpathlaw01_SameInts
  unfold F_towpathlaw01_SameInts
  have la := ha.len_eq
  have lb := hb.len_eq
  refine ⟨fun h => ?_, fun h => ?_⟩
  · have h : xs.length ≠ ys.length := by
      rw [la, lb] at h
      have : (xs.length : Int) ≠ (ys.length : Int) := by simpa using h
      omega
    have := k w (Ext.refl _)
    rw [decide_eq_false (fun e => h (by rw [e]))] at this
    exact this
  have h : xs.length = ys.length := by
    rw [la, lb] at h
    have : (xs.length : Int) = (ys.length : Int) := by simpa using h
    omega
  refine ⟨fun i w' => Ext w w' ∧ 0 ≤ i ∧ i ≤ a.len ∧ ∀ j, j < i.toNat → xs[j]? = ys[j]?, fun i _ => a.len - i.toNat, ⟨Ext.refl _, by omega, by omega, fun j hj => by omega⟩, ?_⟩
  rintro i w1 ⟨e, h0, h1, hj⟩
  unfold F_towpathlaw01_SameInts_L0
  refine ⟨fun hi => ?_, fun hi => ?_⟩
  · have hi := of_decide_eq_true hi
    obtain ⟨pa, x, hx, hc⟩ := (e.src ha).get h0 hi
    obtain ⟨pb, y, hy, hd⟩ := (e.src hb).get h0 (show i < ((b.len : Nat) : Int) by omega)
    have wi : IntKind.i64.wrap (i + 1) = i + 1 := wrap_next h0 hi (by omega)
    refine ⟨pa, h0, hi, x, hc, pb, h0, by omega, y, hd, fun w2 e2 => ⟨fun hne => ?_, fun heq => ?_⟩⟩
    · have hne : x ≠ y := by simpa using hne
      have := k w2 (e.trans e2)
      rw [decide_eq_false (fun e => hne (by rw [e, hy] at hx; exact (Option.some.inj hx).symm))] at this
      exact this
    · have heq : x = y := by simpa using heq
      rw [wi]
      refine ⟨⟨e.trans e2, by omega, by omega, fun j hjlt => ?_⟩, by show _ - _ < _ - _; omega⟩
      rw [toNat_next h0] at hjlt
      by_cases hji : j = i.toNat
      · rw [hji, hx, hy, heq]
      · exact hj j (by omega)
  · have hi := of_decide_eq_false hi
    have := k w1 e
    rw [decide_eq_true (List.ext_getElem? fun j => by
      by_cases hjl : j < xs.length
      · exact hj j (by omega)
      · rw [List.getElem?_eq_none (by omega), List.getElem?_eq_none (by omega)])] at this
    exact this

end Go.Proofs.YtchcljkflklddaaDoor
