/- Chapter 12: what the document's gate does: the same model as the program's gate. -/
import Derived.Test.YtchcljkflklddaaDoorUGateM
import Derived.Test.YtchcljkflklddaaDoorGtowpathref12
namespace Go.Proofs.YtchcljkflklddaaDoor
open Go
set_option linter.unusedVariables false

theorem oneCells_iV (l : List Int) : oneCells (l.map iV) = true := by
  unfold oneCells
  simp [oneCell]
/-- Two rising lists with the same things are one. -/
theorem sorted_ext : ∀ {a b : List Int}, a.Pairwise (· < ·) → b.Pairwise (· < ·) → (∀ x, x ∈ a ↔ x ∈ b) → a = b
  | [], [], _, _, _ => rfl
  | [], y :: b, _, _, h => by have := (h y).2 (List.mem_cons_self ..); cases this
  | x :: a, [], _, _, h => by have := (h x).1 (List.mem_cons_self ..); cases this
  | x :: a, y :: b, ha, hb, h => by
    rw [List.pairwise_cons] at ha hb
    have hxy : x = y := by
      rcases List.mem_cons.1 ((h x).1 (List.mem_cons_self ..)) with e | e
      · exact e
      · rcases List.mem_cons.1 ((h y).2 (List.mem_cons_self ..)) with e' | e'
        · exact e'.symm
        · have := hb.1 x e; have := ha.1 y e'; omega
    subst hxy
    congr 1
    refine sorted_ext ha.2 hb.2 fun z => ?_
    have hz := h z
    rw [List.mem_cons, List.mem_cons] at hz
    constructor
    · intro hm
      rcases hz.1 (.inr hm) with e | e
      · have := ha.1 z hm; omega
      · exact e
    · intro hm
      rcases hz.2 (.inr hm) with e | e
      · have := hb.1 z hm; omega
      · exact e

def RefO (r : Option Addr) (m : GM) (bs : List Chunk) : Prop :=
  ∃ (b : Nat) (s : Slc) (sb : List Chunk), r = some ⟨b, 0, none⟩ ∧ bs = (b, [iV (m.mark : Int), Value.slice s.ptr s.len s.cap]) :: sb ∧ RowC 1 s ((beyV m).map iV) sb ∧ m.mark ≤ 65536 ∧ ∀ n, m.S n = true → m.mark < n ∧ n ≤ 65536
theorem beyV_length (m : GM) : (beyV m).length ≤ 65536 := by
  unfold beyV beyF
  rw [List.length_map]
  have := List.length_filter_le m.S (List.range' (m.mark + 1) (65536 - m.mark))
  simp only [List.length_range'] at this
  omega

section
variable {w0 w : World} {l bs : List Chunk} {g : Option Addr} {m : GM}

theorem sp_ref_Mark {R : Int → World → Prop} (st : St w0 (bs ++ l) w) (o : RefO g m bs) (k : R (m.mark : Int) w) : C_towpathref12_Gate_Mark g w R := by
  apply S_towpathref12_Gate_Mark
  unfold F_towpathref12_Gate_Mark
  obtain ⟨b, s, sb, rfl, rfl, ro, _⟩ := o
  exact ⟨fun h => (by cases h), fun _ => ⟨rfl, _, st.cell 0 rfl rfl, k⟩⟩
theorem sp_ref_Beyond {R : Slc → World → Prop} (st : St w0 (bs ++ l) w) (o : RefO g m bs)
    (k : ∀ s bs' w', RowC 1 s ((beyV m).map iV) bs' → St w0 (bs' ++ (bs ++ l)) w' → R s w') : C_towpathref12_Gate_Beyond g w R := by
  apply S_towpathref12_Gate_Beyond
  unfold F_towpathref12_Gate_Beyond
  obtain ⟨b, s, sb, rfl, rfl, ro, _⟩ := o
  have hl := beyV_length m
  have hsl : s.len = (beyV m).length := by have := ro.len; simp at this; omega
  refine ⟨fun h => (by cases h), fun _ => ⟨rfl, s, st.cell 0 rfl rfl, _, ro.src (l := (b, [iV (m.mark : Int), Value.slice s.ptr s.len s.cap]) :: l) (St.mid st), ?_⟩⟩
  exact RowC.nil.append (l := ((b, [iV (m.mark : Int), Value.slice s.ptr s.len s.cap]) :: sb) ++ l) st (by simp [hsl]) (oneCells_iV _) rfl (by show (0 + s.len) * 8 ≤ _; omega) fun s' bs' w' ro' st' _ => k s' bs' w' (by simpa using ro') st'
theorem sp_ref_Has {n : Int} {R : Bool → World → Prop} (st : St w0 (bs ++ l) w) (o : RefO g m bs) (k : R (m.has n) w) : C_towpathref12_Gate_Has g n w R := by
  apply S_towpathref12_Gate_Has
  unfold F_towpathref12_Gate_Has
  obtain ⟨b, s, sb, rfl, rfl, ro, hmk, hS⟩ := o
  have hl := beyV_length m
  have hsl : s.len = (beyV m).length := by have := ro.len; simp at this; omega
  refine ⟨fun h => ?_, fun h => ?_⟩
  · have h : n < 1 := by simpa using h
    have e : m.has n = false := by unfold GM.has; rw [decide_eq_false (by omega)]; rfl
    rw [e] at k; exact k
  have h : ¬ n < 1 := by simpa using h
  obtain ⟨n, rfl⟩ := toN (show 0 ≤ n by omega)
  have hmem : (n : Int) ∈ beyV m ↔ m.S n = true := by
    rw [beyV_mem]
    constructor
    · rintro ⟨j, hj, _, _, h3⟩; rw [show n = j from by omega]; exact h3
    · intro h3; have := hS n h3; exact ⟨n, rfl, this.1, this.2, h3⟩
  refine ⟨fun i w' => ∃ p : Nat, i = (p : Int) ∧ p ≤ s.len ∧ ((n : Int) ∈ beyV m ↔ (n : Int) ∈ (beyV m).drop p) ∧ w' = w, fun i _ => s.len - i.toNat, ⟨0, rfl, by omega, by simp, rfl⟩, ?_⟩
  rintro i w' ⟨p, rfl, hp, hd, rfl⟩
  unfold F_towpathref12_Gate_Has_L0
  refine ⟨rfl, s, st.cell 0 rfl rfl, fun hi => ?_, fun hi => ?_⟩
  · have hi := of_decide_eq_true hi
    obtain ⟨a, x, hx, hc⟩ := (ro.src (l := (b, [iV (m.mark : Int), Value.slice s.ptr s.len s.cap]) :: l) (St.mid st)).get (i := (p : Int)) (by omega) hi
    rw [Int.toNat_natCast] at hx
    have hpl := (List.getElem?_eq_some_iff.1 hx).1
    have hdc : (beyV m).drop p = x :: (beyV m).drop (p + 1) := by
      rw [List.drop_eq_getElem_cons hpl]
      rw [List.getElem?_eq_getElem hpl] at hx
      rw [Option.some.inj hx]
    refine ⟨rfl, s, st.cell 0 rfl rfl, a, by omega, hi, x, hc, fun he => ?_, fun he => ?_⟩
    · have he : x = (n : Int) := by simpa using he
      have : m.has (n : Int) = true := by
        unfold GM.has
        rw [Int.toNat_natCast, hmem.1 (he ▸ List.mem_of_getElem? hx), decide_eq_true (show (1 : Int) ≤ (n : Int) by omega), Bool.or_true]; rfl
      rw [this] at k; exact k
    · have he : x ≠ (n : Int) := by simpa using he
      have wp : IntKind.i64.wrap ((p : Int) + 1) = ((p + 1 : Nat) : Int) := by rw [i64_in _ (by omega) (by omega)]; omega
      rw [wp]
      refine ⟨⟨p + 1, rfl, by omega, ?_, rfl⟩, by show _ - _ < _ - _; omega⟩
      rw [hd, hdc, List.mem_cons]
      constructor
      · rintro (e | e)
        · exact absurd e.symm he
        · exact e
      · exact .inr
  · have hi := of_decide_eq_false hi
    rw [List.drop_eq_nil_of_le (by omega)] at hd
    have hnS : m.S n = false := by
      cases hx : m.S n with
      | false => rfl
      | true => have := hd.1 (hmem.2 hx); cases this
    refine ⟨rfl, _, st.cell 0 rfl rfl, ?_⟩
    have : m.has (n : Int) = decide ((n : Int) ≤ (m.mark : Int)) := by
      unfold GM.has
      rw [Int.toNat_natCast, hnS, Bool.or_false, decide_eq_true (show (1 : Int) ≤ (n : Int) by omega)]; rfl
    rw [this] at k; exact k

theorem sp_ref_May {mark : Int} {s : Slc} {xs : List Int} {R : Bool → World → Prop} (hs : SrcAt w s 1 (xs.map iV)) (hlen : s.len ≤ 4398046511104)
    (k : ∀ w', Ext w w' → R (decide (0 ≤ mark) && decide (mark ≤ 65536) && newOk mark mark xs) w') : C_towpathref12_May mark s w R := by
  apply S_towpathref12_May
  unfold F_towpathref12_May
  have hsl := hs.len_eq
  refine ⟨fun h => ?_, fun h => ?_⟩
  · simp only [Bool.or_eq_true, decide_eq_true_eq] at h
    have := k w (Ext.refl _)
    have e : (decide (0 ≤ mark) && decide (mark ≤ 65536)) = false := by
      rw [Bool.and_eq_false_iff, decide_eq_false_iff_not, decide_eq_false_iff_not]; omega
    rw [e, Bool.false_and] at this; exact this
  simp only [Bool.or_eq_false_iff, decide_eq_false_iff_not] at h
  have e0 : (decide (0 ≤ mark) && decide (mark ≤ 65536)) = true := by
    rw [Bool.and_eq_true, decide_eq_true_eq, decide_eq_true_eq]; omega
  rw [e0] at k
  simp only [Bool.true_and] at k
  have w2 : IntKind.i64.wrap (mark + 2) = mark + 2 := i64_in _ (by omega) (by omega)
  refine ⟨fun i w' => ∃ p : Nat, i = (p : Int) ∧ p ≤ s.len ∧ newOk mark mark xs = newOk mark (if p = 0 then mark else xs.getD (p - 1) 0) (xs.drop p) ∧ Ext w w', fun i _ => s.len - i.toNat, ⟨0, rfl, by omega, rfl, Ext.refl _⟩, ?_⟩
  rintro i w1 ⟨p, rfl, hp, hok, e⟩
  unfold F_towpathref12_May_L0
  refine ⟨fun hi => ?_, fun hi => ?_⟩
  · have hi := of_decide_eq_true hi
    obtain ⟨a, x, hx, hc⟩ := (e.src hs).get (i := (p : Int)) (by omega) hi
    have hpl := hx
    rw [Int.toNat_natCast] at hpl
    have hpl' := (List.getElem?_eq_some_iff.1 hpl).1
    have hdc : xs.drop p = x :: xs.drop (p + 1) := by
      rw [List.drop_eq_getElem_cons hpl']
      rw [List.getElem?_eq_getElem hpl'] at hpl
      rw [Option.some.inj hpl]
    rw [hdc, newOk] at hok
    have wp : IntKind.i64.wrap ((p : Int) + 1) = ((p + 1 : Nat) : Int) := by rw [i64_in _ (by omega) (by omega)]; omega
    have hgd : xs.getD p 0 = x := by rw [List.getD_eq_getElem?_getD, hpl]; rfl
    have again : (decide (x < mark + 2) || decide (x > 65536) || decide (x ≤ (if p = 0 then mark else xs.getD (p - 1) 0))) = false → ∀ w', Ext w1 w' →
        ((∃ p' : Nat, ((p + 1 : Nat) : Int) = (p' : Int) ∧ p' ≤ s.len ∧ newOk mark mark xs = newOk mark (if p' = 0 then mark else xs.getD (p' - 1) 0) (xs.drop p') ∧ Ext w w') ∧ s.len - (((p + 1 : Nat) : Int)).toNat < s.len - ((p : Int)).toNat) := fun h w' e' => by
      refine ⟨⟨p + 1, rfl, by omega, ?_, e.trans e'⟩, by omega⟩
      rw [hok, h, if_neg (show ¬ p + 1 = 0 by omega), Nat.add_sub_cancel, hgd]; rfl
    have bad : (decide (x < mark + 2) || decide (x > 65536) || decide (x ≤ (if p = 0 then mark else xs.getD (p - 1) 0))) = true → ∀ w', Ext w1 w' → R false w' := fun h w' e' => by
      have := k w' (e.trans e')
      rw [hok, h] at this; exact this
    refine ⟨a, by omega, hi, x, hc, fun h1 => ?_, fun h1 => ⟨a, by omega, hi, x, hc, fun h2 => ?_, fun h2 => ⟨fun h3 => ?_, fun h3 w6 e6 => ?_⟩⟩⟩
    · intro w3 e3
      unfold F_towpathref12_May_k1
      rw [w2] at h1
      exact ⟨fun _ => bad (by rw [h1]; rfl) w3 e3, fun h => (by cases h)⟩
    · intro w3 e3
      unfold F_towpathref12_May_k1
      exact ⟨fun _ => bad (by rw [h2, Bool.or_true]; rfl) w3 e3, fun h => (by cases h)⟩
    · have h3 := of_decide_eq_true h3
      have wm : IntKind.i64.wrap ((p : Int) - 1) = ((p - 1 : Nat) : Int) := by rw [i64_in _ (by omega) (by omega)]; omega
      obtain ⟨a', y, hy, hc'⟩ := (e.src hs).get (i := ((p - 1 : Nat) : Int)) (by omega) (by omega)
      rw [Int.toNat_natCast] at hy
      have hgy : xs.getD (p - 1) 0 = y := by rw [List.getD_eq_getElem?_getD, hy]; rfl
      rw [wm]
      refine ⟨a', by omega, by omega, y, hc', a, by omega, hi, x, hc, fun w5 e5 => ?_⟩
      unfold F_towpathref12_May_k1
      rw [w2] at h1
      rw [if_neg (by omega), hgy] at again bad
      refine ⟨fun h4 => bad (by rw [h1, h2]; simpa using h4) w5 e5, fun h4 => ?_⟩
      rw [wp]
      exact again (by rw [h1, h2]; simpa using h4) w5 e5
    · have h3 := of_decide_eq_false h3
      unfold F_towpathref12_May_k1
      rw [w2] at h1
      refine ⟨fun h4 => (by cases h4), fun _ => ?_⟩
      rw [wp]
      refine again ?_ w6 e6
      rw [h1, h2, if_pos (by omega)]
      rw [decide_eq_false_iff_not] at h1
      simp; omega
  · have hi := of_decide_eq_false hi
    rw [List.drop_eq_nil_of_le (by omega), newOk] at hok
    have := k w1 e
    rw [hok] at this; exact this

theorem new_beyV {mk top : Nat} {xs : List Int} (hmk : mk ≤ 65536) (hok : newOk (mk : Int) (mk : Int) xs = true) : beyV ⟨mk, top, fun j => decide ((j : Int) ∈ xs)⟩ = xs ∧ ∀ n : Nat, (n : Int) ∈ xs → mk < n ∧ n ≤ 65536 := by
  have key : ∀ (l : List Int) (t : Int), newOk (mk : Int) t l = true → l.Pairwise (· < ·) ∧ ∀ x ∈ l, t < x ∧ (mk : Int) + 2 ≤ x ∧ x ≤ 65536 := by
    intro l
    induction l with
    | nil => intro t _; exact ⟨List.Pairwise.nil, fun x hx => by cases hx⟩
    | cons y r ih =>
      intro t h
      rw [newOk] at h
      simp only [Bool.and_eq_true, Bool.not_eq_true', Bool.or_eq_false_iff, decide_eq_false_iff_not] at h
      obtain ⟨h1, h2⟩ := ih y h.2
      refine ⟨List.pairwise_cons.2 ⟨fun x hx => (h2 x hx).1, h1⟩, fun x hx => ?_⟩
      rcases List.mem_cons.1 hx with rfl | hx
      · omega
      · have := h2 x hx; omega
  obtain ⟨h1, h2⟩ := key xs (mk : Int) hok
  refine ⟨sorted_ext (beyV_sorted _) h1 fun x => ?_, fun n hn => by have := h2 _ hn; omega⟩
  rw [beyV_mem]
  constructor
  · rintro ⟨n, rfl, _, _, h⟩; exact of_decide_eq_true h
  · intro hx
    have := h2 x hx
    obtain ⟨n, rfl⟩ := toN (show 0 ≤ x by omega)
    exact ⟨n, rfl, by show mk < n; omega, by omega, decide_eq_true hx⟩

theorem sp_ref_New {mark : Int} {s : Slc} {xs : List Int} {R : Option Addr → Int → World → Prop} (st : St w0 l w) (hs : ∀ l' w', St w0 (l' ++ l) w' → SrcAt w' s 1 (xs.map iV)) (hlen : s.len ≤ 4398046511104) (top : Nat)
    (k0 : (mark < 0 ∨ mark > 65536 ∨ newOk mark mark xs = false) → ∀ w', St w0 l w' → R none 1 w')
    (k1 : ∀ mk : Nat, mark = (mk : Int) → mk ≤ 65536 → newOk mark mark xs = true → ∀ g' bs' w', RefO g' ⟨mk, top, fun j => decide ((j : Int) ∈ xs)⟩ bs' → St w0 (bs' ++ l) w' → R g' 0 w') : C_towpathref12_New mark s w R := by
  apply S_towpathref12_New
  unfold F_towpathref12_New
  refine sp_ref_May (hs [] _ st) hlen fun w1 e1 => ?_
  have st := st.keep e1
  refine ⟨fun h => ?_, fun h => ?_⟩
  · refine k0 ?_ _ st
    simp only [Bool.not_eq_true', Bool.and_eq_false_iff, decide_eq_false_iff_not] at h
    rcases h with (h | h) | h
    · omega
    · omega
    · exact .inr (.inr h)
  · simp only [Bool.not_eq_false', Bool.and_eq_true, decide_eq_true_eq] at h
    obtain ⟨mk, rfl⟩ := toN h.1.1
    have hsl := (hs [] _ st).len_eq
    refine ⟨_, hs [] _ st, RowC.nil.append (l := l) st (by simp [hsl]) (oneCells_iV _) rfl (by show (0 + s.len) * 8 ≤ _; omega) fun s' bs' w2 ro st _ => ?_⟩
    intro b w3 hb hw
    have st := st.alloc hb hw
    obtain ⟨h1, h2⟩ := new_beyV (top := top) (by omega) h.2
    refine k1 mk rfl (by omega) h.2 _ ((b, _) :: bs') w3 ⟨b, s', bs', rfl, rfl, ?_, by show mk ≤ 65536; omega, fun n hn => h2 n (of_decide_eq_true hn)⟩ st
    rw [h1]; simpa using ro

theorem sorted_snoc {l : List Int} {x : Int} (h : l.Pairwise (· < ·)) (hx : ∀ y ∈ l, y < x) : (l ++ [x]).Pairwise (· < ·) := by
  rw [List.pairwise_append]
  exact ⟨h, List.pairwise_singleton _ _, fun y hy z hz => by rw [List.mem_singleton] at hz; rw [hz]; exact hx y hy⟩

theorem ref_strip {s : Slc} {ll : List Int} {lb : List Chunk} {b n : Nat} {old : Slc} {R : Int → Int → World → Prop} (ro : RowC 1 s (ll.map iV) lb) (st : St w0 (lb ++ ((b, [iV (m.mark : Int), Value.slice old.ptr old.len old.cap]) :: l)) w)
    (hmk : m.mark ≤ 65536) (hS : ∀ j, m.S j = true → j ≤ 65536) (hn : n ≤ 65536) (hp : ll.Pairwise (· < ·)) (hm : ∀ x, x ∈ ll ↔ ∃ j : Nat, x = (j : Int) ∧ m.mark < j ∧ j ≤ 65536 ∧ m.done n j = true)
    (k : ∀ bs' w', RefO (some ⟨b, 0, none⟩) (m.next n) bs' → St w0 (bs' ++ l) w' → R (m.up n : Int) 0 w') : F_towpathref12_Gate_Done_k4 (some ⟨b, 0, none⟩) R s w := by
  unfold F_towpathref12_Gate_Done_k4
  obtain ⟨hr1, hr2, hr3⟩ := runF_spec (m.done n) (65536 - m.mark) m.mark
  have hup : runF (m.done n) m.mark (65536 - m.mark) = m.up n := rfl
  rw [hup] at hr1 hr2 hr3
  refine ⟨fun s n_ w' => ∃ (u : Nat) (ll : List Int) (lb : List Chunk), n_ = (u : Int) ∧ u ≤ m.up n ∧ ll.Pairwise (· < ·) ∧ (∀ x, x ∈ ll ↔ ∃ j : Nat, x = (j : Int) ∧ m.mark + u < j ∧ j ≤ 65536 ∧ m.done n j = true) ∧ RowC 1 s (ll.map iV) lb ∧
    St w0 (lb ++ ((b, [iV ((m.mark + u : Nat) : Int), Value.slice old.ptr old.len old.cap]) :: l)) w', fun s _ _ => s.len, ⟨0, ll, lb, rfl, by omega, hp, hm, ro, st⟩, ?_⟩
  clear ro st hp hm ll lb
  rintro s n_ w1 ⟨u, ll, lb, rfl, hu, hp, hm, ro, st⟩
  unfold F_towpathref12_Gate_Done_L5
  have hsl : s.len = ll.length := by have := ro.len; simp at this; omega
  have fin : u = m.up n → ∀ w', St w0 (lb ++ ((b, [iV ((m.mark + u : Nat) : Int), Value.slice old.ptr old.len old.cap]) :: l)) w' →
      (IsAt (some ⟨b, 0, none⟩ : Option Addr) ∧ (Writable w' b 1 1 ∧ ∀ w13, w13 = World.puts b 1 [Value.slice s.ptr s.len s.cap] w' → R (u : Int) 0 w13)) := fun hue w' st => by
    have st := st.unmid
    refine ⟨rfl, st.writable 0 rfl (by simp), fun w13 hw => ?_⟩
    have st := st.put0 hw
    rw [hue]
    refine k _ w13 ⟨b, s, lb, rfl, rfl, ?_, by show m.mark + m.up n ≤ 65536; omega, fun j hj => ?_⟩ (by rw [hue] at st; exact st)
    · have : beyV (m.next n) = ll := sorted_ext (beyV_sorted _) hp fun x => by
        rw [beyV_mem, hm]
        constructor
        · rintro ⟨j, rfl, h1, h2, h3⟩
          have h3 : (m.done n j && decide (m.mark + m.up n < j)) = true := h3
          rw [Bool.and_eq_true] at h3
          have h1 : m.mark + m.up n < j := h1
          exact ⟨j, rfl, by omega, h2, h3.1⟩
        · rintro ⟨j, rfl, h1, h2, h3⟩
          refine ⟨j, rfl, by show m.mark + m.up n < j; omega, h2, ?_⟩
          show (m.done n j && decide (m.mark + m.up n < j)) = true
          rw [h3, decide_eq_true (by omega)]; rfl
      rw [this]; exact ro
    · have hj : (m.done n j && decide (m.mark + m.up n < j)) = true := hj
      rw [Bool.and_eq_true, decide_eq_true_eq] at hj
      refine ⟨hj.2, ?_⟩
      have h1 := hj.1
      unfold GM.done at h1
      simp only [Bool.or_eq_true, decide_eq_true_eq] at h1
      rcases h1 with h1 | h1
      · exact hS j h1
      · omega
  have hfirst : u < m.up n → ∃ x ll', ll = x :: ll' ∧ x = ((m.mark + u + 1 : Nat) : Int) := fun hlt => by
    have hd := hr2 (m.mark + u + 1) (by omega) (by omega)
    have hmem := (hm ((m.mark + u + 1 : Nat) : Int)).2 ⟨_, rfl, by omega, by omega, hd⟩
    cases ll with
    | nil => cases hmem
    | cons x ll' =>
      refine ⟨x, ll', rfl, ?_⟩
      obtain ⟨j, hj, h1, _, _⟩ := (hm x).1 (List.mem_cons_self ..)
      rw [List.pairwise_cons] at hp
      rcases List.mem_cons.1 hmem with e | e
      · exact e.symm
      · have := hp.1 _ e; omega
  refine ⟨fun hlen => ?_, fun hlen w15 e15 => ?_⟩
  · have hlen := of_decide_eq_true hlen
    obtain ⟨x, ll', rfl⟩ : ∃ x ll', ll = x :: ll' := by
      cases ll with
      | nil => simp at hsl; omega
      | cons x ll' => exact ⟨x, ll', rfl⟩
    obtain ⟨a, x', hx', hc⟩ := (ro.src st).get (i := 0) (by omega) (by omega)
    obtain rfl : x = x' := Option.some.inj hx'
    refine ⟨a, by omega, by omega, x, by simpa using hc, rfl, _, st.unmid.cell 0 rfl rfl, fun w14 e14 => ?_⟩
    have st := st.keep e14
    obtain ⟨j, hj, h1, h2, h3⟩ := (hm x).1 (List.mem_cons_self ..)
    have wm : IntKind.i64.wrap (((m.mark + u : Nat) : Int) + 1) = ((m.mark + u + 1 : Nat) : Int) := by rw [i64_in _ (by omega) (by omega)]; omega
    unfold F_towpathref12_Gate_Done_k6
    rw [wm]
    refine ⟨fun ht => ?_, fun ht => ?_⟩
    · have ht : x = ((m.mark + u + 1 : Nat) : Int) := by simpa using ht
      have hjx : j = m.mark + u + 1 := by omega
      have hlt : u < m.up n := by
        rcases Nat.lt_or_ge u (m.up n) with h | h
        · exact h
        · exfalso
          have hue : u = m.up n := by omega
          have := hr3 (by omega)
          rw [hjx, hue] at h3
          rw [h3] at this; cases this
      have hcl := ro.cap_le
      refine ⟨⟨by omega, by omega, by omega, by omega⟩, fun s1 hs1 => ⟨rfl, _, st.unmid.cell 0 rfl rfl, rfl, st.unmid.writable 0 rfl (by show 0 + 1 ≤ 2; omega), fun w12 hw => ?_⟩⟩
      have st := (st.unmid.put0 hw)
      rw [wm] at st
      have st : St w0 ((b, [iV ((m.mark + (u + 1) : Nat) : Int), Value.slice old.ptr old.len old.cap]) :: (lb ++ l)) w12 := st
      have wu : IntKind.i64.wrap ((u : Int) + 1) = ((u + 1 : Nat) : Int) := by rw [i64_in _ (by omega) (by omega)]; omega
      rw [wu]
      have rc := ro.cut (lo := 1) (hi := ((s.len : Nat) : Int)) (mx := ((s.cap : Nat) : Int)) (by omega) (by omega) (by omega) (by omega) (by omega)
      have hsl' : s.len = ll'.length + 1 := by simpa using hsl
      have e1 : (((x :: ll').map iV).drop ((1 : Int).toNat * 1)).take (((((s.len : Nat) : Int)).toNat - (1 : Int).toNat) * 1) = ll'.map iV := by
        show ((ll'.map iV)).take _ = _
        rw [List.take_of_length_le (by simp; omega)]
      rw [e1, ← hs1] at rc
      have hs1l : s1.len = s.len - 1 := by rw [hs1]; unfold Slc.cut; simp
      rw [List.pairwise_cons] at hp
      refine ⟨⟨u + 1, ll', lb, rfl, by omega, hp.2, fun y => ?_, rc, st.mid⟩, by show s1.len < s.len; omega⟩
      constructor
      · intro hy
        obtain ⟨j', hj', g1, g2, g3⟩ := (hm y).1 (List.mem_cons_of_mem _ hy)
        have := hp.1 y hy
        exact ⟨j', hj', by omega, g2, g3⟩
      · rintro ⟨j', hj', g1, g2, g3⟩
        rcases List.mem_cons.1 ((hm y).2 ⟨j', hj', by omega, g2, g3⟩) with e | e
        · omega
        · exact e
    · have ht : x ≠ ((m.mark + u + 1 : Nat) : Int) := by simpa using ht
      refine fin ?_ w14 st
      rcases Nat.lt_or_ge u (m.up n) with h | h
      · obtain ⟨y, _, hy, hye⟩ := hfirst h
        rw [List.cons.injEq] at hy
        exact absurd (hy.1.trans hye) ht
      · omega
  · have hlen := of_decide_eq_false hlen
    unfold F_towpathref12_Gate_Done_k6
    refine ⟨fun h => (by cases h), fun _ => fin ?_ w15 (st.keep e15)⟩
    rcases Nat.lt_or_ge u (m.up n) with h | h
    · obtain ⟨y, _, hy, hye⟩ := hfirst h
      rw [hy] at hsl; simp at hsl; omega
    · omega

theorem sp_ref_Done {n : Int} {R : Int → Int → World → Prop} (st : St w0 (bs ++ l) w) (o : RefO g m bs) (k0 : (n < 1 ∨ n > 65536 ∨ m.has n = true) → R 0 1 w)
    (k1 : ∀ n' : Nat, n = (n' : Int) → m.mark < n' → n' ≤ 65536 → m.S n' = false → ∀ bs' w', RefO g (m.next n') bs' → St w0 (bs' ++ l) w' → R (m.up n' : Int) 0 w') : C_towpathref12_Gate_Done g n w R := by
  apply S_towpathref12_Gate_Done
  unfold F_towpathref12_Gate_Done
  have o' := o
  obtain ⟨b, s, sb, rfl, rfl, ro, hmk, hS⟩ := o
  refine ⟨fun h => (by cases h), fun _ => ⟨fun h => ?_, fun h => sp_ref_Has st o' ?_⟩⟩
  · unfold F_towpathref12_Gate_Done_k0
    exact ⟨fun _ => k0 (by simp only [Bool.or_eq_true, decide_eq_true_eq] at h; omega), fun h => (by cases h)⟩
  simp only [Bool.or_eq_false_iff, decide_eq_false_iff_not] at h
  unfold F_towpathref12_Gate_Done_k0
  refine ⟨fun hh => k0 (.inr (.inr hh)), fun hh => ?_⟩
  obtain ⟨n, rfl⟩ := toN (show 0 ≤ n by omega)
  have hnm : m.mark < n ∧ m.S n = false := by
    unfold GM.has at hh
    simp only [Int.toNat_natCast, Bool.and_eq_false_iff, Bool.or_eq_false_iff, decide_eq_false_iff_not] at hh
    rcases hh with hh | hh
    · omega
    · exact ⟨by omega, hh.2⟩
  have k1 := k1 n rfl hnm.1 (by omega) hnm.2
  have hbl := beyV_length m
  have hsl : s.len = (beyV m).length := by have := ro.len; simp at this; omega
  have hnot : (n : Int) ∉ beyV m := fun hm => by
    obtain ⟨j, hj, _, _, h3⟩ := beyV_mem.1 hm
    rw [show j = n from by omega, hnm.2] at h3; cases h3
  have hLs := beyV_sorted m
  generalize hL : beyV m = L at *
  have sw : ∀ {lb : List Chunk} {w' : World}, St w0 (lb ++ (((b, [iV (m.mark : Int), Value.slice s.ptr s.len s.cap]) :: sb) ++ l)) w' → St w0 ((b, [iV (m.mark : Int), Value.slice s.ptr s.len s.cap]) :: (sb ++ (lb ++ l))) w' := fun st => St.swap st
  have fin : ∀ (l_ : Slc) (ll : List Int) (lb : List Chunk) (w' : World), RowC 1 l_ (ll.map iV) lb → St w0 (lb ++ (((b, [iV (m.mark : Int), Value.slice s.ptr s.len s.cap]) :: sb) ++ l)) w' → ll.Pairwise (· < ·) → (∀ x, x ∈ ll ↔ x ∈ L ∨ x = (n : Int)) →
      F_towpathref12_Gate_Done_k4 (some ⟨b, 0, none⟩) R l_ w' := fun l_ ll lb w' ro' st hp hm => by
    refine ref_strip (l := sb ++ l) (n := n) ro' st hmk (fun j hj => (hS j hj).2) (by omega) hp (fun x => ?_) fun bs' w2 o2 st2 => ?_
    · rw [hm, ← hL, beyV_mem]
      unfold GM.done
      constructor
      · rintro (⟨j, hj, h1, h2, h3⟩ | h1)
        · exact ⟨j, hj, h1, h2, by rw [h3]; rfl⟩
        · exact ⟨n, h1, hnm.1, by omega, by simp⟩
      · rintro ⟨j, hj, h1, h2, h3⟩
        simp only [Bool.or_eq_true, decide_eq_true_eq] at h3
        rcases h3 with h3 | h3
        · exact .inl ⟨j, hj, h1, h2, h3⟩
        · exact .inr (by rw [hj, h3])
    · exact k1 bs' w2 o2 (st2.swap.drop)
  refine ⟨fun l_ put i w' => ∃ (p : Nat) (ll : List Int) (lb : List Chunk), i = (p : Int) ∧ p ≤ s.len ∧ l_.len = p + put.toNat ∧ ll.Pairwise (· < ·) ∧ (∀ x, x ∈ ll ↔ x ∈ L.take p ∨ (put = true ∧ x = (n : Int))) ∧ (put = true → ∀ x ∈ L.drop p, (n : Int) < x) ∧ (put = false → ∀ x ∈ L.take p, x < (n : Int)) ∧
      RowC 1 l_ (ll.map iV) lb ∧ St w0 (lb ++ (((b, [iV (m.mark : Int), Value.slice s.ptr s.len s.cap]) :: sb) ++ l)) w', fun _ _ i _ => s.len - i.toNat, ⟨0, [], [], rfl, by omega, rfl, List.Pairwise.nil, fun x => by simp, fun h => (by cases h), fun _ x hx => by simp at hx, RowC.nil, st⟩, ?_⟩
  clear st
  rintro l_ put i w1 ⟨p, ll, lb, rfl, hp, hlp, hps, hm, hpt, hpf, rl, st⟩
  have hlb : l_.len ≤ p + 1 := by rw [hlp]; cases put <;> simp
  unfold F_towpathref12_Gate_Done_L1
  have hc0 : ∀ {lb : List Chunk} {w' : World}, St w0 (lb ++ (((b, [iV (m.mark : Int), Value.slice s.ptr s.len s.cap]) :: sb) ++ l)) w' → w'.cell? ⟨b, 0 + 1, none⟩ = some (Value.slice s.ptr s.len s.cap) := fun st => (sw st).cell 0 rfl rfl
  have hsr : ∀ {lb : List Chunk} {w' : World}, St w0 (lb ++ (((b, [iV (m.mark : Int), Value.slice s.ptr s.len s.cap]) :: sb) ++ l)) w' → SrcAt w' s 1 (L.map iV) := fun st => ro.src (l := (b, [iV (m.mark : Int), Value.slice s.ptr s.len s.cap]) :: _) (St.mid (sw st))
  refine ⟨rfl, s, hc0 st, fun hi => ?_, fun hi => ?_⟩
  · have hi := of_decide_eq_true hi
    obtain ⟨a, x, hx, hc⟩ := (hsr st).get (i := (p : Int)) (by omega) hi
    have hpl := hx
    rw [Int.toNat_natCast] at hpl
    have hpl' := (List.getElem?_eq_some_iff.1 hpl).1
    have hdc : L.drop p = x :: L.drop (p + 1) := by
      rw [List.drop_eq_getElem_cons hpl']
      rw [List.getElem?_eq_getElem hpl'] at hpl
      rw [Option.some.inj hpl]
    have htk : L.take (p + 1) = L.take p ++ [x] := by rw [List.take_add_one, hpl]; rfl
    have hlt : ∀ y ∈ L.take p, y < x := fun y hy => by
      have : (L.take p ++ L.drop p).Pairwise (· < ·) := by rw [List.take_append_drop]; exact hLs
      rw [List.pairwise_append] at this
      exact this.2.2 y hy x (by rw [hdc]; exact List.mem_cons_self ..)
    have hgt : ∀ y ∈ L.drop (p + 1), x < y := fun y hy => by
      have := hLs.drop (i := p)
      rw [hdc, List.pairwise_cons] at this
      exact this.1 y hy
    have hxn : x ≠ (n : Int) := fun e => hnot (e ▸ List.mem_of_getElem? hx)
    have wp : IntKind.i64.wrap ((p : Int) + 1) = ((p + 1 : Nat) : Int) := by rw [i64_in _ (by omega) (by omega)]; omega
    -- the element itself is put behind
    have put_x : ∀ (l2 : Slc) (put2 : Bool) (ll2 : List Int) (lb2 : List Chunk) (w2 : World), l2.len = p + put2.toNat → ll2.Pairwise (· < ·) → (∀ y, y ∈ ll2 ↔ y ∈ L.take p ∨ (put2 = true ∧ y = (n : Int))) → (∀ y ∈ ll2, y < x) → (put2 = true → (n : Int) < x) → (put2 = false → x < (n : Int) ∧ ∀ y ∈ L.take p, y < (n : Int)) →
        RowC 1 l2 (ll2.map iV) lb2 → St w0 (lb2 ++ (((b, [iV (m.mark : Int), Value.slice s.ptr s.len s.cap]) :: sb) ++ l)) w2 → F_towpathref12_Gate_Done_k2 (some ⟨b, 0, none⟩) (p : Int) (fun (l_' : Slc) (put' : Bool) (i' : Int) w' => (∃ (p : Nat) (ll : List Int) (lb : List Chunk), i' = (p : Int) ∧ p ≤ s.len ∧ l_'.len = p + put'.toNat ∧ ll.Pairwise (· < ·) ∧ (∀ x, x ∈ ll ↔ x ∈ L.take p ∨ (put' = true ∧ x = (n : Int))) ∧ (put' = true → ∀ x ∈ L.drop p, (n : Int) < x) ∧ (put' = false → ∀ x ∈ L.take p, x < (n : Int)) ∧
      RowC 1 l_' (ll.map iV) lb ∧ St w0 (lb ++ (((b, [iV (m.mark : Int), Value.slice s.ptr s.len s.cap]) :: sb) ++ l)) w') ∧ s.len - i'.toNat < s.len - ((p : Int)).toNat) l2 put2 w2 := fun l2 put2 ll2 lb2 w2 hl2 hp2 hm2 hx2 ht2 hf2 r2 st2 => by
      unfold F_towpathref12_Gate_Done_k2
      have hlb2 : l2.len ≤ p + 1 := by rw [hl2]; cases put2 <;> simp
      obtain ⟨a', x', hx', hc'⟩ := (hsr st2).get (i := (p : Int)) (by omega) hi
      obtain rfl : x' = x := by rw [hx] at hx'; exact (Option.some.inj hx').symm
      refine ⟨rfl, s, hc0 st2, a', by omega, hi, x', hc', fun b3 w3 hb3 hw3 => ⟨_, srcAt_new hb3 hw3 rfl, ?_⟩⟩
      refine r2.append (st2.alloc hb3 hw3).drop1 rfl rfl rfl (by omega) fun l3 lb3 w4 r3 st3 hl3 => ?_
      rw [wp]
      refine ⟨⟨p + 1, ll2 ++ [x'], lb3, rfl, by omega, by omega, sorted_snoc hp2 hx2, fun y => ?_, fun h y hy => ?_, fun h y hy => ?_, by simpa using r3, st3⟩, by show _ - _ < _ - _; omega⟩
      · rw [List.mem_append, hm2, htk, List.mem_append]
        constructor
        · rintro ((h | h) | h)
          · exact .inl (.inl h)
          · exact .inr h
          · exact .inl (.inr h)
        · rintro ((h | h) | h)
          · exact .inl (.inl h)
          · exact .inr h
          · exact .inl (.inr h)
      · have := hgt y hy; have := ht2 h; omega
      · rw [htk, List.mem_append, List.mem_singleton] at hy
        rcases hy with hy | hy
        · exact (hf2 h).2 y hy
        · rw [hy]; exact (hf2 h).1
    have hcx : w1.cell? ⟨pblk s.ptr, poff s.ptr + ((p : Int)).toNat, none⟩ = some (iV x) := hc
    refine ⟨fun hput => ?_, fun hput => ?_⟩
    · have hput : put = false := by simpa using hput
      subst hput
      refine ⟨rfl, s, hc0 st, a, by omega, hi, x, hcx, ?_⟩
      unfold F_towpathref12_Gate_Done_k3
      refine ⟨fun hg => fun b3 w3 hb3 hw3 => ⟨_, srcAt_new hb3 hw3 rfl, ?_⟩, fun hg => ?_⟩
      · have hg := of_decide_eq_true hg
        refine rl.append (st.alloc hb3 hw3).drop1 rfl rfl rfl (by omega) fun l3 lb3 w4 r3 st3 hl3 => ?_
        refine put_x l3 true (ll ++ [(n : Int)]) lb3 w4 ?_ (sorted_snoc hps fun y hy => ?_) (fun y => ?_) (fun y hy => ?_) (fun _ => hg) (fun h => (by cases h)) (by simpa using r3) st3
        · have hlp : l_.len = p + 0 := hlp
          show l3.len = p + 1; omega
        · rcases (hm y).1 hy with h | h
          · exact hpf rfl y h
          · cases h.1
        · rw [List.mem_append, hm, List.mem_singleton]
          simp
        · rw [List.mem_append, List.mem_singleton] at hy
          rcases hy with hy | hy
          · rcases (hm y).1 hy with h | h
            · exact hlt y h
            · cases h.1
          · rw [hy]; exact hg
      · have hg := of_decide_eq_false hg
        refine put_x l_ false ll lb w1 hlp hps hm (fun y hy => ?_) (fun h => (by cases h)) (fun _ => ⟨by omega, hpf rfl⟩) rl st
        rcases (hm y).1 hy with h | h
        · exact hlt y h
        · cases h.1
    · have hput : put = true := by simpa using hput
      subst hput
      unfold F_towpathref12_Gate_Done_k3
      refine ⟨fun hh => (by cases hh), fun _ => put_x l_ true ll lb w1 hlp hps hm (fun y hy => ?_) (fun _ => hpt rfl x (by rw [hdc]; exact List.mem_cons_self ..)) (fun h => (by cases h)) rl st⟩
      rcases (hm y).1 hy with h | h
      · exact hlt y h
      · rw [h.2]; exact hpt rfl x (by rw [hdc]; exact List.mem_cons_self ..)
  · have hi := of_decide_eq_false hi
    have hpe : L.take p = L := List.take_of_length_le (by omega)
    rw [hpe] at hm hpf
    refine ⟨fun hput b3 w3 hb3 hw3 => ⟨_, srcAt_new hb3 hw3 rfl, ?_⟩, fun hput => ?_⟩
    · have hput : put = false := by simpa using hput
      subst hput
      refine rl.append (st.alloc hb3 hw3).drop1 rfl rfl rfl (by omega) fun l3 lb3 w4 r3 st3 hl3 => ?_
      refine fin l3 (ll ++ [(n : Int)]) lb3 w4 (by simpa using r3) st3 (sorted_snoc hps fun y hy => ?_) fun y => ?_
      · rcases (hm y).1 hy with h | h
        · exact hpf rfl y h
        · cases h.1
      · rw [List.mem_append, hm, List.mem_singleton]
        simp
    · have hput : put = true := by simpa using hput
      subst hput
      exact fin l_ ll lb w1 rl st hps fun y => by rw [hm]; simp
end
end Go.Proofs.YtchcljkflklddaaDoor
