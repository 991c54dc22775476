/- The verifier's book of lists: what is the same for all kinds. -/
import Derived.Test.YtfmkemmgakdddaaGreatDoorURow3
import Derived.Test.YtfmkemmgakdddaaGreatDoorUStP
namespace Go.Proofs.YtfmkemmgakdddaaGreatDoor
open Go
set_option linter.unusedVariables false
set_option linter.unusedSimpArgs false

structure Item where
  l : Slc
  long : Slc
  n : Int
  cs : List Chunk
def itemCells (it : Item) : List Value := [slV it.l, slV it.long, iV it.n]
def itsC (its : List Item) : List Chunk := its.flatMap Item.cs
theorem itemCells_len (it : Item) : (itemCells it).length = 3 := rfl
/-- An item's own memory to the front. -/
theorem St.item {w0 : Base} {w : World} {X d c r l : List Chunk} : St w0 (X ++ ((d ++ (c ++ r)) ++ l)) w ↔ St w0 (c ++ (X ++ ((d ++ r) ++ l))) w := by
  have p : (X ++ ((d ++ (c ++ r)) ++ l)).Perm (c ++ (X ++ ((d ++ r) ++ l))) := by
    have h1 : (d ++ (c ++ r)) ++ l = d ++ (c ++ (r ++ l)) := by simp
    have h2 : (d ++ r) ++ l = d ++ (r ++ l) := by simp
    rw [h1, h2]
    refine (List.Perm.append_left X (List.perm_append_comm_assoc d c (r ++ l))).trans ?_
    exact List.perm_append_comm_assoc X c (d ++ (r ++ l))
  exact ⟨fun h => h.perm p, fun h => h.perm p.symm⟩
theorem itsC_mid (d : List Item) (it : Item) (r : List Item) : itsC (d ++ it :: r) = itsC d ++ (it.cs ++ itsC r) := by unfold itsC; rw [List.flatMap_append, List.flatMap_cons]
theorem itsC_cut (d : List Item) (r : List Item) : itsC (d ++ r) = itsC d ++ itsC r := by unfold itsC; rw [List.flatMap_append]
theorem split_at {α : Type} {l : List α} {i : Nat} (h : i < l.length) : ∃ d x r, l = d ++ x :: r ∧ d.length = i := ⟨l.take i, l[i], l.drop (i + 1), by rw [← List.drop_eq_getElem_cons h, List.take_append_drop], by rw [List.length_take]; omega⟩

/-- A cell of one's own slice of things of some cells is written. -/
theorem RowC.setN {sz : Nat} {s : Slc} {xs : List Value} {bs l : List Chunk} {w0 : Base} {w : World} {i : Nat} {v : Value} (h : RowC sz s xs bs) (st : St w0 (bs ++ l) w) (hi : i < s.len * sz) :
    IsAt s.ptr ∧ Writable w (pblk s.ptr) (poff s.ptr + i) 1 ∧ ∀ w', w' = World.puts (pblk s.ptr) (poff s.ptr + i) [v] w → ∃ bs', RowC sz s (xs.set i v) bs' ∧ St w0 (bs' ++ l) w' := by
  rcases h with ⟨hp, hl, hcz, rfl, rfl⟩ | ⟨b, pre, rest, suf, hp, rfl, hx, hr, hle⟩
  · rw [hl, Nat.zero_mul] at hi; omega
  · rw [hp]
    refine ⟨rfl, st.writable 0 rfl (by show pre.length + i + 1 ≤ _; simp; omega), fun w' hw => ?_⟩
    have hn := st.put0 hw
    refine ⟨[(b, pre ++ (xs.set i v ++ (rest ++ suf)))], .inr ⟨b, pre, rest, suf, hp, rfl, by rw [List.length_set]; exact hx, by rw [List.length_set]; exact hr, hle⟩, ?_⟩
    have e : putL (poff (some ⟨b, pre.length, none⟩ : Option Addr) + i) [v] (pre ++ (xs ++ (rest ++ suf))) = pre ++ (xs.set i v ++ (rest ++ suf)) := by
      rw [putL_one]
      show (pre ++ (xs ++ (rest ++ suf))).set (pre.length + i) v = _
      rw [List.set_append_right _ _ (by omega), show pre.length + i - pre.length = i from by omega, List.set_append_left _ _ (by omega)]
    rw [e] at hn
    exact hn
/-- Appending: the old row stays where it was, or is the beginning of the new one. -/
theorem RowC.appendK {by_ k : Nat} {e : TypeId} {sz : Nat} {s : Slc} {xs : List Value} {bs l : List Chunk} {w0 : Base} {w : World} {zs src : List Value} {K : Slc → World → Prop} (h : RowC sz s xs bs) (st : St w0 (bs ++ l) w)
    (hk : src.length = k * sz) (hk0 : 0 < k) (h1 : oneCells src = true) (hz : zs.length = sz) (hcap : (s.len + k) * by_ ≤ 140737488355328)
    (hK : ∀ s' bs' l' w', RowC sz s' (xs ++ src) bs' → St w0 (bs' ++ (l' ++ l)) w' → s'.len = s.len + k → ((s'.ptr = s.ptr ∧ l' = []) ∨ l' = bs) → K s' w') : AppendW sz by_ e zs s src k w K := by
  refine ⟨fun hc => ?_, fun hc => ⟨growslice_fits hc hcap, xs, h.src st, fun cap b w' hcl _ hb hw => ?_⟩⟩
  · rcases h with ⟨hp, hl, hcz, rfl, rfl⟩ | ⟨b, pre, rest, suf, hp, rfl, hx, hr, hle⟩
    · omega
    · have hroom : src.length ≤ rest.length := by
        have : (s.len + k) * sz ≤ s.cap * sz := Nat.mul_le_mul_right _ hc
        rw [Nat.add_mul] at this
        omega
      have hlen : poff s.ptr + s.len * sz = (pre ++ xs).length := by rw [hp]; show pre.length + s.len * sz = _; simp; omega
      have hpb : pblk s.ptr = b := by rw [hp]; rfl
      refine .inr ⟨by rw [hp]; rfl, ?_, h1, fun w' hw => ?_⟩
      · rw [hlen, hpb]
        exact st.writable 0 rfl (by simp; omega)
      · rw [hlen, hpb] at hw
        have hn := st.put0 hw
        have e1 : pre ++ (xs ++ (rest ++ suf)) = (pre ++ xs) ++ rest.take src.length ++ (rest.drop src.length ++ suf) := by
          conv => lhs; rw [← List.take_append_drop src.length rest]
          simp only [List.append_assoc]
        rw [e1, putL_append _ _ _ _ (by simp; omega)] at hn
        refine hK _ [(b, pre ++ ((xs ++ src) ++ (rest.drop src.length ++ suf)))] [] _ (.inr ⟨b, pre, rest.drop src.length, suf, hp, rfl, ?_, ?_, hc⟩) ?_ rfl (.inl ⟨rfl, rfl⟩)
        · simp [hx, hk, Nat.add_mul]
        · simp; omega
        · have e2 : pre ++ ((xs ++ src) ++ (rest.drop src.length ++ suf)) = (pre ++ xs) ++ src ++ (rest.drop src.length ++ suf) := by simp only [List.append_assoc]
          rw [e2]; exact hn
  · have hE : Ext w w.drew := Qt.ext ⟨1, rfl⟩
    have hbs : b = w.drew.heap.size := hb
    have st' := (st.keep hE).alloc hbs hw
    refine hK _ [(b, xs ++ src ++ (repCells (cap - (s.len + k)) zs).toList)] bs _ (.inr ⟨b, [], (repCells (cap - (s.len + k)) zs).toList, [], rfl, by simp, ?_, ?_, hcl⟩) st' rfl (.inr rfl)
    · simp only [List.length_append, hk, h.len, Nat.add_mul]
    · simp only [List.length_append, hk, h.len, repCells]
      simp only [List.length_flatten, List.map_replicate, hz, List.sum_replicate_nat]
      rw [← Nat.add_mul, ← Nat.add_mul]
      congr 1
      show s.len + k + (cap - (s.len + k)) = cap
      omega
theorem tab_set {d r : List Item} {it : Item} {i : Nat} {long : Slc} {cs : List Chunk} (hd : d.length = i) :
    ((d ++ it :: r).flatMap itemCells).set (i * 3 + 1) (slV long) = (d ++ ⟨it.l, long, it.n, cs⟩ :: r).flatMap itemCells := by
  have hl : (d.flatMap itemCells).length = i * 3 := by rw [flatMap_len itemCells_len, hd]
  rw [List.flatMap_append, List.flatMap_cons, List.flatMap_append, List.flatMap_cons, List.set_append_right _ _ (by omega), hl, show i * 3 + 1 - i * 3 = 1 from by omega]
  rfl
theorem tab_at {d r : List Item} {it : Item} {i : Nat} {w0 : Base} {w : World} {t : Slc} {tb l : List Chunk} (ro : RowC 3 t ((d ++ it :: r).flatMap itemCells) tb) (st : St w0 (tb ++ l) w) (hd : d.length = i) :
    IsAt t.ptr ∧ CellsAt w (pblk t.ptr) (poff t.ptr + i * 3) (itemCells it) := by
  have hl := ro.len
  rw [flatMap_len itemCells_len, List.length_append, List.length_cons] at hl
  obtain ⟨a, x, hx, hc⟩ := SrcAt.getN (ro.src st) itemCells_len (by omega) (i := (i : Int)) (by omega) (by omega)
  rw [Int.toNat_natCast] at hx hc
  rw [← hd, List.getElem?_append_right (Nat.le_refl _), Nat.sub_self, List.getElem?_cons_zero] at hx
  cases hx
  exact ⟨a, hc⟩


/-- Cells of one's own row are written. -/
theorem RowC.putN {sz : Nat} {s : Slc} {xs vs : List Value} {bs l : List Chunk} {w0 : Base} {w : World} {i : Nat} (h : RowC sz s xs bs) (st : St w0 (bs ++ l) w) (hv : 0 < vs.length) (hi : i + vs.length ≤ s.len * sz) :
    IsAt s.ptr ∧ Writable w (pblk s.ptr) (poff s.ptr + i) vs.length ∧ ∀ w', w' = World.puts (pblk s.ptr) (poff s.ptr + i) vs w → ∃ bs', RowC sz s (xs.take i ++ vs ++ xs.drop (i + vs.length)) bs' ∧ St w0 (bs' ++ l) w' := by
  rcases h with ⟨hp, hl, hcz, rfl, rfl⟩ | ⟨b, pre, rest, suf, hp, rfl, hx, hr, hle⟩
  · rw [hl, Nat.zero_mul] at hi; omega
  · rw [hp]
    refine ⟨rfl, st.writable 0 rfl (by show pre.length + i + vs.length ≤ _; simp; omega), fun w' hw => ?_⟩
    have hn := st.put0 hw
    have e0 : xs = xs.take i ++ ((xs.drop i).take vs.length ++ xs.drop (i + vs.length)) := by
      conv => lhs; rw [← List.take_append_drop i xs, ← List.take_append_drop vs.length (xs.drop i), List.drop_drop]
    have e1 : pre ++ (xs ++ (rest ++ suf)) = (pre ++ xs.take i) ++ (xs.drop i).take vs.length ++ (xs.drop (i + vs.length) ++ (rest ++ suf)) := by
      conv => lhs; rw [e0]
      simp only [List.append_assoc]
    have e2 : poff (some ⟨b, pre.length, none⟩ : Option Addr) + i = (pre ++ xs.take i).length := by
      show pre.length + i = _
      rw [List.length_append, List.length_take]; omega
    rw [e1, e2, putL_append _ _ _ _ (by rw [List.length_take, List.length_drop]; omega)] at hn
    refine ⟨[(b, pre ++ ((xs.take i ++ vs ++ xs.drop (i + vs.length)) ++ (rest ++ suf)))], .inr ⟨b, pre, rest, suf, hp, rfl, ?_, ?_, hle⟩, ?_⟩
    · simp only [List.length_append, List.length_take, List.length_drop]; omega
    · simp only [List.length_append, List.length_take, List.length_drop]; omega
    · have e3 : pre ++ ((xs.take i ++ vs ++ xs.drop (i + vs.length)) ++ (rest ++ suf)) = (pre ++ xs.take i) ++ vs ++ (xs.drop (i + vs.length) ++ (rest ++ suf)) := by simp only [List.append_assoc]
      rw [e3]; exact hn
theorem St.swapB {w0 : Base} {w : World} {c : Chunk} {a b l : List Chunk} (h : St w0 (c :: (a ++ (b ++ l))) w) : St w0 (c :: (b ++ (a ++ l))) w := h.perm (List.Perm.cons _ (List.perm_append_comm_assoc a b l))
theorem RowC.trimB {sz : Nat} {s : Slc} {ps ds : List Value} {bs : List Chunk} (h : RowC sz s (ps ++ ds) bs) (hp : ps.length = s.len * sz) : RowC sz s ps bs := by
  have hl := h.len
  rw [List.length_append] at hl
  have : ds = [] := List.eq_nil_of_length_eq_zero (by omega)
  rw [this, List.append_nil] at h
  exact h
theorem rep_len {α : Type} {f : α → List Value} {sz : Nat} (hf : ∀ x, (f x).length = sz) (k : Nat) (x : α) : ((List.replicate k x).flatMap f).length = k * sz := by rw [flatMap_len hf, List.length_replicate]
theorem rep_succ {α : Type} {f : α → List Value} (k : Nat) (x : α) : (List.replicate k x).flatMap f ++ f x = (List.replicate (k + 1) x).flatMap f := by rw [List.replicate_succ', List.flatMap_append, List.flatMap_cons, List.flatMap_nil, List.append_nil]
theorem rep_src {α : Type} {f : α → List Value} {sz p k : Nat} {x : α} {s t : Slc} {w : World} (hf : ∀ x, (f x).length = sz) (h : SrcAt w s sz ((List.replicate p x).flatMap f)) (hp : s.ptr = t.ptr) (hk : t.len = k) (hkp : k ≤ p) (hl : s.len = p) : SrcAt w t sz ((List.replicate k x).flatMap f) := by
  obtain ⟨_, hs2⟩ := h.pre (k := k) (by omega)
  have e : ((List.replicate p x).flatMap f).take (k * sz) = (List.replicate k x).flatMap f := by
    rw [show p = k + (p - k) from by omega, ← List.replicate_append_replicate, List.flatMap_append, List.take_left' (rep_len hf k x)]
  rw [e] at hs2
  refine ⟨by rw [rep_len hf, hk], ?_⟩
  rcases hs2 with h0 | h0
  · exact .inl h0
  · refine .inr ?_
    have h0' : IsAt s.ptr ∧ CellsAt w (pblk s.ptr) (poff s.ptr) ((List.replicate k x).flatMap f) := h0
    rw [hp] at h0'; exact h0'
/-- A kind's lists: its table, and each list in the state Ph. -/
def KindO (t : Slc) (its : List Item) (Ph : Item → Prop) (cs : List Chunk) : Prop := ∃ tb, RowC 3 t (its.flatMap itemCells) tb ∧ cs = tb ++ itsC its ∧ ∀ it ∈ its, Ph it
/-- The state of a walk over the lists: those ahead of place i are done. -/
def KindI (t : Slc) (m i : Nat) (Ph Ph' : Item → Prop) (cs : List Chunk) : Prop :=
  ∃ d r tb, d.length = i ∧ d.length + r.length = m ∧ RowC 3 t ((d ++ r).flatMap itemCells) tb ∧ cs = tb ++ itsC (d ++ r) ∧ (∀ it ∈ d, Ph' it) ∧ ∀ it ∈ r, Ph it
section
variable {w0 : Base} {w : World} {l cs : List Chunk} {C : List Value} {b : Nat} {t : Slc} {its : List Item} {Ph Ph' : Item → Prop}
theorem kind_new : KindO ⟨none, 0, 0⟩ [] Ph [] := ⟨[], RowC.nil, rfl, fun it h => (by cases h)⟩
theorem KindI.start (o : KindO t its Ph cs) : KindI t its.length 0 Ph Ph' cs := by
  obtain ⟨tb, ro, rfl, h⟩ := o
  exact ⟨[], its, tb, rfl, by simp, ro, rfl, fun it hit => (by cases hit), h⟩
theorem KindI.done {m : Nat} (o : KindI t m m Ph Ph' cs) : ∃ its, its.length = m ∧ KindO t its Ph' cs := by
  obtain ⟨d, r, tb, h1, h2, ro, rfl, h3, h4⟩ := o
  have : r = [] := List.eq_nil_of_length_eq_zero (by omega)
  subst this
  rw [List.append_nil] at *
  exact ⟨d, h1, tb, ro, rfl, h3⟩
theorem KindI.len {m i : Nat} (o : KindI t m i Ph Ph' cs) : t.len = m := by
  obtain ⟨d, r, tb, _, h, ro, _, _⟩ := o
  have := ro.len
  rw [flatMap_len itemCells_len, List.length_append] at this
  omega
theorem KindO.len (o : KindO t its Ph cs) : t.len = its.length := (KindI.start (Ph' := Ph) o).len
/-- The list at place i: its row in the table, and the memory apart. -/
theorem KindI.at_ {m i : Nat} (o : KindI t m i Ph Ph' cs) (st : St w0 ((b, C) :: (cs ++ l)) w) (hi : i < m) : ∃ d it r tb, d.length = i ∧ d.length + (r.length + 1) = m ∧ RowC 3 t ((d ++ it :: r).flatMap itemCells) tb ∧ (∀ x ∈ d, Ph' x) ∧ Ph it ∧ (∀ x ∈ r, Ph x) ∧
    IsAt t.ptr ∧ CellsAt w (pblk t.ptr) (poff t.ptr + i * 3) (itemCells it) ∧ St w0 (it.cs ++ (((b, C) :: tb) ++ ((itsC d ++ itsC r) ++ l))) w := by
  obtain ⟨d, r, tb, h1, h2, ro, rfl, h3, h4⟩ := o
  cases r with
  | nil => simp at h2; omega
  | cons it r =>
    rw [List.length_cons] at h2
    have st : St w0 (((b, C) :: tb) ++ ((itsC d ++ (it.cs ++ itsC r)) ++ l)) w := by rw [itsC_mid] at st; simpa using st
    have stt : St w0 (tb ++ ((b, C) :: ((itsC d ++ (it.cs ++ itsC r)) ++ l))) w := St.mid st
    obtain ⟨a, c⟩ := tab_at ro stt h1
    exact ⟨d, it, r, tb, h1, h2, ro, h3, h4 it (List.mem_cons_self ..), fun x hx => h4 x (List.mem_cons_of_mem _ hx), a, c, St.item.1 st⟩
/-- .. and put together again, the list done. -/
theorem KindI.next {m i : Nat} {d r : List Item} {it : Item} {tb : List Chunk} (h1 : d.length = i) (h2 : d.length + (r.length + 1) = m) (ro : RowC 3 t ((d ++ it :: r).flatMap itemCells) tb) (h3 : ∀ x ∈ d, Ph' x) (h : Ph' it) (h4 : ∀ x ∈ r, Ph x)
    (st : St w0 (it.cs ++ (((b, C) :: tb) ++ ((itsC d ++ itsC r) ++ l))) w) : ∃ cs, KindI t m (i + 1) Ph Ph' cs ∧ St w0 ((b, C) :: (cs ++ l)) w := by
  have e : (d ++ [it]) ++ r = d ++ it :: r := by simp
  refine ⟨_, ⟨d ++ [it], r, tb, by simp [h1], by simp; omega, by rw [e]; exact ro, rfl, fun x hx => ?_, h4⟩, ?_⟩
  · rcases List.mem_append.1 hx with hx | hx
    · exact h3 x hx
    · rw [List.mem_singleton] at hx; rw [hx]; exact h
  · rw [e, itsC_mid]
    have := St.item.2 st
    simpa using this
end
end Go.Proofs.YtfmkemmgakdddaaGreatDoor
