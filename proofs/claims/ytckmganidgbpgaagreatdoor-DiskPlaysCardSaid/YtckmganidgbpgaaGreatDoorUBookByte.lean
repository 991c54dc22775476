/- The verifier's book of lists: Byte lists. Each list is of memory of its own: marks are written into all, more is put behind each, and each reads as it should. -/
import Derived.Test.YtckmganidgbpgaaGreatDoorUOwn
import Derived.Test.YtckmganidgbpgaaGreatDoorGtowpathlaw01
namespace Go.Proofs.YtckmganidgbpgaaGreatDoor
open Go
set_option linter.unusedVariables false

abbrev eK (x : Int) : Value := Value.int .u8 x
abbrev slV (s : Slc) : Value := Value.slice s.ptr s.len s.cap
structure Item where
  l : Slc
  long : Slc
  n : Int
  cs : List Chunk
def itemCells (it : Item) : List Value := [slV it.l, slV it.long, iV it.n]
def bookC (n : Int) (t : Slc) : List Value := iV n :: ([] ++ slV t :: [slV ⟨none, 0, 0⟩, slV ⟨none, 0, 0⟩, slV ⟨none, 0, 0⟩, slV ⟨none, 0, 0⟩, slV ⟨none, 0, 0⟩, slV ⟨none, 0, 0⟩, slV ⟨none, 0, 0⟩, slV ⟨none, 0, 0⟩, slV ⟨none, 0, 0⟩, slV ⟨none, 0, 0⟩])
def itsC (its : List Item) : List Chunk := its.flatMap Item.cs
/-- The book: its number, its table, its lists, each in the state Ph. -/
def BookO (b : Nat) (n : Int) (t : Slc) (its : List Item) (Ph : Item → Prop) (bs : List Chunk) : Prop :=
  ∃ tb, RowC 3 t (its.flatMap itemCells) tb ∧ bs = (b, bookC n t) :: (tb ++ itsC its) ∧ ∀ it ∈ its, Ph it
abbrev markV (n : Int) : Int := IntKind.u8.wrap (IntKind.i64.wrap (1 + (Int.tmod n 255)))
def Kept (it : Item) : Prop := it.l.len ≤ 4398046511104 ∧ ∃ xs, RowC 1 it.l xs it.cs
def Filled (it : Item) : Prop := it.l.len ≤ 4398046511104 ∧ RowC 1 it.l (List.replicate it.l.len (eK (markV it.n))) it.cs
def Grown_ (k : Nat) (it : Item) (long : Slc) : Prop :=
  it.l.len ≤ 4398046511104 ∧ long.len = it.l.len + k ∧ ∃ c1 c2, it.cs = c1 ++ c2 ∧ RowC 1 long (List.replicate (it.l.len + k) (eK (markV it.n))) c1 ∧
    (long.ptr = it.l.ptr ∨ ∀ w0 l w, St w0 (c2 ++ l) w → SrcAt w it.l 1 (List.replicate it.l.len (eK (markV it.n))))
def Long (it : Item) : Prop := Grown_ 70 it it.long

theorem itemCells_len (it : Item) : (itemCells it).length = 3 := rfl
theorem BookO.cell {b : Nat} {n : Int} {t : Slc} {its : List Item} {Ph : Item → Prop} {bs l : List Chunk} {w0 w : World} (o : BookO b n t its Ph bs) (st : St w0 (bs ++ l) w) {i : Nat} {v : Value} (hi : (bookC n t)[i]? = some v) : w.cell? ⟨b, i, none⟩ = some v := by
  obtain ⟨tb, _, rfl, _⟩ := o
  exact st.cell 0 rfl hi
/-- An item's own memory to the front. -/
theorem St.item {w0 w : World} {X d c r l : List Chunk} : St w0 (X ++ ((d ++ (c ++ r)) ++ l)) w ↔ St w0 (c ++ (X ++ ((d ++ r) ++ l))) w := by
  have p : (X ++ ((d ++ (c ++ r)) ++ l)).Perm (c ++ (X ++ ((d ++ r) ++ l))) := by
    have h1 : (d ++ (c ++ r)) ++ l = d ++ (c ++ (r ++ l)) := by simp
    have h2 : (d ++ r) ++ l = d ++ (r ++ l) := by simp
    rw [h1, h2]
    refine (List.Perm.append_left X (List.perm_append_comm_assoc d c (r ++ l))).trans ?_
    exact List.perm_append_comm_assoc X c (d ++ (r ++ l))
  exact ⟨fun h => h.perm p, fun h => h.perm p.symm⟩
theorem itsC_mid (d : List Item) (it : Item) (r : List Item) : itsC (d ++ it :: r) = itsC d ++ (it.cs ++ itsC r) := by unfold itsC; rw [List.flatMap_append, List.flatMap_cons]
theorem itsC_cut (d : List Item) (r : List Item) : itsC (d ++ r) = itsC d ++ itsC r := by unfold itsC; rw [List.flatMap_append]
theorem split_at {α : Type} {l : List α} {i : Nat} (h : i < l.length) : ∃ d x r, l = d ++ x :: r ∧ d.length = i := ⟨l.take i, l[i], l.drop (i + 1), by rw [← List.drop_eq_getElem_cons h, List.take_append_drop], by rw [List.length_take]; omega⟩

theorem srcAt_newN {w w1 : World} {b : Nat} {T : TypeId} {vs : List Value} {n c sz : Nat} (hb : b = w.heap.size) (hw : w1 = w.alloc (.cells vs.toArray T (0, 0))) (hn : vs.length = n * sz) :
    SrcAt w1 ⟨some ⟨b, 0, none⟩, n, c⟩ sz vs := ⟨hn, .inr ⟨rfl, (Blk.new hb hw).all⟩⟩
/-- A cell of one's own slice of things of some cells is written. -/
theorem RowC.setN {sz : Nat} {s : Slc} {xs : List Value} {bs l : List Chunk} {w0 w : World} {i : Nat} {v : Value} (h : RowC sz s xs bs) (st : St w0 (bs ++ l) w) (hi : i < s.len * sz) :
    IsAt s.ptr ∧ Writable w (pblk s.ptr) (poff s.ptr + i) 1 ∧ ∀ w', w' = World.puts (pblk s.ptr) (poff s.ptr + i) [v] w → ∃ bs', RowC sz s (xs.set i v) bs' ∧ St w0 (bs' ++ l) w' := by
  rcases h with ⟨hp, hl, hcz, rfl, rfl⟩ | ⟨b, pre, rest, suf, hp, rfl, hx, hr, hle⟩
  · rw [hl, Nat.zero_mul] at hi; omega
  · rw [hp]
    refine ⟨rfl, st.writable 0 rfl (by show pre.length + i + 1 ≤ _; simp; omega), fun w' hw => ?_⟩
    have hn := st.put0 hw
    refine ⟨[(b, pre ++ (xs.set i v ++ (rest ++ suf)))], .inr ⟨b, pre, rest, suf, hp, rfl, by rw [List.length_set]; exact hx, by rw [List.length_set]; exact hr, hle⟩, ?_⟩
    have e : putL (poff (some ⟨b, pre.length, none⟩ : Option Addr) + i) [v] (pre ++ (xs ++ (rest ++ suf))) = pre ++ (xs.set i v ++ (rest ++ suf)) := by
      rw [putL_one]
      show (pre ++ (xs ++ (rest ++ suf))).set (pre.length + i) v = _
      rw [List.set_append_right _ _ (by omega), show pre.length + i - pre.length = i from by omega, List.set_append_left _ _ (by omega)]
    rw [e] at hn
    exact hn
/-- Appending: the old row stays where it was, or is the beginning of the new one. -/
theorem RowC.appendK {by_ k : Nat} {e : TypeId} {sz : Nat} {s : Slc} {xs : List Value} {bs l : List Chunk} {w0 w : World} {zs src : List Value} {K : Slc → World → Prop} (h : RowC sz s xs bs) (st : St w0 (bs ++ l) w)
    (hk : src.length = k * sz) (hk0 : 0 < k) (h1 : oneCells src = true) (hz : zs.length = sz) (hcap : (s.len + k) * by_ ≤ 140737488355328)
    (hK : ∀ s' bs' l' w', RowC sz s' (xs ++ src) bs' → St w0 (bs' ++ (l' ++ l)) w' → s'.len = s.len + k → ((s'.ptr = s.ptr ∧ l' = []) ∨ l' = bs) → K s' w') : AppendW sz by_ e zs s src k w K := by
  refine ⟨fun hc => ?_, fun hc => ⟨growslice_fits hc hcap, xs, h.src st, fun cap b w' hcl _ hb hw => ?_⟩⟩
  · rcases h with ⟨hp, hl, hcz, rfl, rfl⟩ | ⟨b, pre, rest, suf, hp, rfl, hx, hr, hle⟩
    · omega
    · have hroom : src.length ≤ rest.length := by
        have : (s.len + k) * sz ≤ s.cap * sz := Nat.mul_le_mul_right _ hc
        rw [Nat.add_mul] at this
        omega
      have hlen : poff s.ptr + s.len * sz = (pre ++ xs).length := by rw [hp]; show pre.length + s.len * sz = _; simp; omega
      have hpb : pblk s.ptr = b := by rw [hp]; rfl
      refine .inr ⟨by rw [hp]; rfl, ?_, h1, fun w' hw => ?_⟩
      · rw [hlen, hpb]
        exact st.writable 0 rfl (by simp; omega)
      · rw [hlen, hpb] at hw
        have hn := st.put0 hw
        have e1 : pre ++ (xs ++ (rest ++ suf)) = (pre ++ xs) ++ rest.take src.length ++ (rest.drop src.length ++ suf) := by
          conv => lhs; rw [← List.take_append_drop src.length rest]
          simp only [List.append_assoc]
        rw [e1, putL_append _ _ _ _ (by simp; omega)] at hn
        refine hK _ [(b, pre ++ ((xs ++ src) ++ (rest.drop src.length ++ suf)))] [] _ (.inr ⟨b, pre, rest.drop src.length, suf, hp, rfl, ?_, ?_, hc⟩) ?_ rfl (.inl ⟨rfl, rfl⟩)
        · simp [hx, hk, Nat.add_mul]
        · simp; omega
        · have e2 : pre ++ ((xs ++ src) ++ (rest.drop src.length ++ suf)) = (pre ++ xs) ++ src ++ (rest.drop src.length ++ suf) := by simp only [List.append_assoc]
          rw [e2]; exact hn
  · have hE : Ext w w.drew := Qt.ext ⟨1, rfl⟩
    have hbs : b = w.drew.heap.size := hb
    have st' := (st.keep hE).alloc hbs hw
    refine hK _ [(b, xs ++ src ++ (repCells (cap - (s.len + k)) zs).toList)] bs _ (.inr ⟨b, [], (repCells (cap - (s.len + k)) zs).toList, [], rfl, by simp, ?_, ?_, hcl⟩) st' rfl (.inr rfl)
    · simp only [List.length_append, hk, h.len, Nat.add_mul]
    · simp only [List.length_append, hk, h.len, repCells]
      simp only [List.length_flatten, List.map_replicate, hz, List.sum_replicate_nat]
      rw [← Nat.add_mul, ← Nat.add_mul]
      congr 1
      show s.len + k + (cap - (s.len + k)) = cap
      omega
theorem tab_set {d r : List Item} {it : Item} {i : Nat} {long : Slc} {cs : List Chunk} (hd : d.length = i) :
    ((d ++ it :: r).flatMap itemCells).set (i * 3 + 1) (slV long) = (d ++ ⟨it.l, long, it.n, cs⟩ :: r).flatMap itemCells := by
  have hl : (d.flatMap itemCells).length = i * 3 := by rw [flatMap_len itemCells_len, hd]
  rw [List.flatMap_append, List.flatMap_cons, List.flatMap_append, List.flatMap_cons, List.set_append_right _ _ (by omega), hl, show i * 3 + 1 - i * 3 = 1 from by omega]
  rfl
theorem tab_at {d r : List Item} {it : Item} {i : Nat} {w0 w : World} {t : Slc} {tb l : List Chunk} (ro : RowC 3 t ((d ++ it :: r).flatMap itemCells) tb) (st : St w0 (tb ++ l) w) (hd : d.length = i) :
    IsAt t.ptr ∧ CellsAt w (pblk t.ptr) (poff t.ptr + i * 3) (itemCells it) := by
  have hl := ro.len
  rw [flatMap_len itemCells_len, List.length_append, List.length_cons] at hl
  obtain ⟨a, x, hx, hc⟩ := SrcAt.getN (ro.src st) itemCells_len (by omega) (i := (i : Int)) (by omega) (by omega)
  rw [Int.toNat_natCast] at hx hc
  rw [← hd, List.getElem?_append_right (Nat.le_refl _), Nat.sub_self, List.getElem?_cons_zero] at hx
  cases hx
  exact ⟨a, hc⟩

section
variable {w0 w : World} {l bs : List Chunk} {b : Nat} {n : Int} {t : Slc} {its : List Item}

theorem book_new : BookO b 0 ⟨none, 0, 0⟩ [] Kept [(b, bookC 0 ⟨none, 0, 0⟩)] := ⟨[], RowC.nil, rfl, fun it h => (by cases h)⟩

theorem sp_keep {s : Slc} {xs : List Value} {cs : List Chunk} {R : World → Prop} (o : BookO b n t its Kept bs) (r : RowC 1 s xs cs) (st : St w0 (bs ++ (cs ++ l)) w)
    (hn : 0 ≤ n ∧ n ≤ 2000000) (hl : its.length ≤ 2000000) (hs : s.len ≤ 4398046511104) (k : ∀ t' its' bs' w', BookO b (n + 1) t' its' Kept bs' → its'.length = its.length + 1 → St w0 (bs' ++ l) w' → R w') : C_towpathlaw01_Book_keepByte (some ⟨b, 0, none⟩) s w R := by
  apply S_towpathlaw01_Book_keepByte
  unfold F_towpathlaw01_Book_keepByte
  obtain ⟨tb, ro, rfl, hph⟩ := o
  have wn : IntKind.i64.wrap (n + 1) = n + 1 := i64_in _ (by omega) (by omega)
  have htl : t.len = its.length := by
    have := ro.len
    rw [flatMap_len itemCells_len] at this
    omega
  refine ⟨rfl, n, st.cell 0 rfl rfl, st.writable 0 rfl (by show 0 + 1 ≤ _; simp [bookC]), fun w1 hw1 w2 e2 => ?_⟩
  rw [wn] at hw1
  have st := (st.put0 hw1).drew e2
  have e0 : putL (poff (some ⟨b, 0, none⟩ : Option Addr)) [iV (n + 1)] (bookC n t) = bookC (n + 1) t := rfl
  rw [e0] at st
  refine ⟨rfl, t, st.cell 0 rfl rfl, rfl, n + 1, st.cell 0 rfl rfl, fun b1 w3 hb1 hw3 => ?_⟩
  have st := st.alloc hb1 hw3
  refine ⟨st.cell 1 rfl rfl, _, srcAt_newN hb1 hw3 rfl, ?_⟩
  have st : St w0 (tb ++ ((b, bookC (n + 1) t) :: (itsC its ++ (cs ++ l)))) w3 := by
    have h : St w0 ((b, bookC (n + 1) t) :: (tb ++ (itsC its ++ (cs ++ l)))) w3 := by have := st.drop1; simpa using this
    exact h.mid
  refine ro.append st rfl rfl rfl (by rw [htl]; omega) fun t' tb' w4 ro' st hlen => ?_
  have st := st.unmid
  refine ⟨rfl, st.writable 0 rfl (by show 0 + 1 + 1 ≤ _; simp [bookC]), fun w5 hw5 => ?_⟩
  have st := st.put0 hw5
  have e1 : putL (poff (some ⟨b, 0, none⟩ : Option Addr) + 1) [slV t'] (bookC (n + 1) t) = bookC (n + 1) t' := rfl
  rw [e1] at st
  refine k t' (its ++ [⟨s, ⟨none, 0, 0⟩, n + 1, cs⟩]) ((b, bookC (n + 1) t') :: (tb' ++ itsC (its ++ [⟨s, ⟨none, 0, 0⟩, n + 1, cs⟩]))) w5 ⟨tb', ?_, rfl, fun it hit => ?_⟩ (by simp) ?_
  · rw [List.flatMap_append]; exact ro'
  · rcases List.mem_append.1 hit with hit | hit
    · exact hph it hit
    · rw [List.mem_singleton] at hit
      rw [hit]
      exact ⟨hs, xs, r⟩
  · rw [itsC_mid its _ []]
    unfold itsC at st ⊢
    simpa using st

/-- The state of a walk over the lists: those ahead of place i are done. -/
def BookI (b : Nat) (n : Int) (t : Slc) (m i : Nat) (Ph Ph' : Item → Prop) (bs : List Chunk) : Prop :=
  ∃ d r tb, d.length = i ∧ d.length + r.length = m ∧ RowC 3 t ((d ++ r).flatMap itemCells) tb ∧ bs = (b, bookC n t) :: (tb ++ itsC (d ++ r)) ∧ (∀ it ∈ d, Ph' it) ∧ ∀ it ∈ r, Ph it
theorem BookI.start {Ph Ph' : Item → Prop} (o : BookO b n t its Ph bs) : BookI b n t its.length 0 Ph Ph' bs := by
  obtain ⟨tb, ro, rfl, h⟩ := o
  exact ⟨[], its, tb, rfl, by simp, ro, rfl, fun it hit => (by cases hit), h⟩
theorem BookI.done {Ph Ph' : Item → Prop} {m : Nat} (o : BookI b n t m m Ph Ph' bs) : ∃ its, its.length = m ∧ BookO b n t its Ph' bs := by
  obtain ⟨d, r, tb, h1, h2, ro, rfl, h3, h4⟩ := o
  have : r = [] := List.eq_nil_of_length_eq_zero (by omega)
  subst this
  rw [List.append_nil] at *
  exact ⟨d, h1, tb, ro, rfl, h3⟩
theorem BookI.cell {m i j : Nat} {Ph Ph' : Item → Prop} {v : Value} (o : BookI b n t m i Ph Ph' bs) (st : St w0 (bs ++ l) w) (hi : (bookC n t)[j]? = some v) : w.cell? ⟨b, j, none⟩ = some v := by
  obtain ⟨d, r, tb, _, _, _, rfl, _⟩ := o
  exact st.cell 0 rfl hi
theorem BookI.len {m i : Nat} {Ph Ph' : Item → Prop} (o : BookI b n t m i Ph Ph' bs) : t.len = m := by
  obtain ⟨d, r, tb, _, h, ro, _, _⟩ := o
  have := ro.len
  rw [flatMap_len itemCells_len, List.length_append] at this
  omega
/-- The list at place i: its row in the table, and the memory apart. -/
theorem BookI.at_ {m i : Nat} {Ph Ph' : Item → Prop} (o : BookI b n t m i Ph Ph' bs) (st : St w0 (bs ++ l) w) (hi : i < m) : ∃ d it r tb, d.length = i ∧ d.length + (r.length + 1) = m ∧ RowC 3 t ((d ++ it :: r).flatMap itemCells) tb ∧ (∀ x ∈ d, Ph' x) ∧ Ph it ∧ (∀ x ∈ r, Ph x) ∧
    IsAt t.ptr ∧ CellsAt w (pblk t.ptr) (poff t.ptr + i * 3) (itemCells it) ∧ St w0 (it.cs ++ (((b, bookC n t) :: tb) ++ ((itsC d ++ itsC r) ++ l))) w := by
  obtain ⟨d, r, tb, h1, h2, ro, rfl, h3, h4⟩ := o
  cases r with
  | nil => simp at h2; omega
  | cons it r =>
    rw [List.length_cons] at h2
    have st : St w0 (((b, bookC n t) :: tb) ++ ((itsC d ++ (it.cs ++ itsC r)) ++ l)) w := by rw [itsC_mid] at st; simpa using st
    have stt : St w0 (tb ++ ((b, bookC n t) :: ((itsC d ++ (it.cs ++ itsC r)) ++ l))) w := St.mid st
    obtain ⟨a, c⟩ := tab_at ro stt h1
    exact ⟨d, it, r, tb, h1, h2, ro, h3, h4 it (List.mem_cons_self ..), fun x hx => h4 x (List.mem_cons_of_mem _ hx), a, c, St.item.1 st⟩
/-- .. and put together again, the list done. -/
theorem BookI.next {m i : Nat} {Ph Ph' : Item → Prop} {d r : List Item} {it : Item} {tb : List Chunk} (h1 : d.length = i) (h2 : d.length + (r.length + 1) = m) (ro : RowC 3 t ((d ++ it :: r).flatMap itemCells) tb) (h3 : ∀ x ∈ d, Ph' x) (h : Ph' it) (h4 : ∀ x ∈ r, Ph x)
    (st : St w0 (it.cs ++ (((b, bookC n t) :: tb) ++ ((itsC d ++ itsC r) ++ l))) w) : ∃ bs, BookI b n t m (i + 1) Ph Ph' bs ∧ St w0 (bs ++ l) w := by
  have e : (d ++ [it]) ++ r = d ++ it :: r := by simp
  refine ⟨_, ⟨d ++ [it], r, tb, by simp [h1], by simp; omega, by rw [e]; exact ro, rfl, fun x hx => ?_, h4⟩, ?_⟩
  · rcases List.mem_append.1 hx with hx | hx
    · exact h3 x hx
    · rw [List.mem_singleton] at hx; rw [hx]; exact h
  · rw [e, itsC_mid]
    have := St.item.2 st
    simpa using this

theorem sp_fillByte {R : World → Prop} (o : BookO b n t its Kept bs) (st : St w0 (bs ++ l) w) (hm : its.length ≤ 2000000)
    (k : ∀ its' bs' w', BookO b n t its' Filled bs' → its'.length = its.length → St w0 (bs' ++ l) w' → R w') : C_towpathlaw01_Book_fillByte (some ⟨b, 0, none⟩) w R := by
  apply S_towpathlaw01_Book_fillByte
  unfold F_towpathlaw01_Book_fillByte
  generalize hml : its.length = m at *
  refine ⟨fun i w' => ∃ (j : Nat) (bs : List Chunk), i = (j : Int) ∧ j ≤ m ∧ BookI b n t m j Kept Filled bs ∧ St w0 (bs ++ l) w', fun i _ => m - i.toNat, ⟨0, bs, rfl, by omega, by rw [← hml]; exact BookI.start o, st⟩, ?_⟩
  clear o st
  rintro i w1 ⟨j, bs, rfl, hj, o, st⟩
  unfold F_towpathlaw01_Book_fillByte_L0
  have htl := o.len
  refine ⟨rfl, t, o.cell st rfl, fun h => ?_, fun h => ?_⟩
  · have h := of_decide_eq_true h
    obtain ⟨d, it, r, tb, h1, h2, ro, h3, ⟨hlen, xs, hx⟩, h4, ha, hc, sti⟩ := o.at_ st (by omega)
    refine ⟨rfl, t, o.cell st rfl, ha, by omega, h, ⟨it.l, it.long, it.n⟩, ?_, fun b1 w2 hb1 hw2 => ?_⟩
    · rw [Int.toNat_natCast]; exact hc
    have st := sti.alloc hb1 hw2
    clear sti
    refine ⟨st.writable 0 rfl (by simp), fun w3 hw3 => ?_⟩
    have st := st.put0 hw3
    have e0 : putL 0 [slV it.l, slV it.long, iV it.n] [slV ⟨none, 0, 0⟩, slV ⟨none, 0, 0⟩, iV 0] = itemCells it := rfl
    have st : St w0 ((b1, itemCells it) :: (it.cs ++ (((b, bookC n t) :: tb) ++ ((itsC d ++ itsC r) ++ l)))) w3 := st
    refine ⟨fun k w' => ∃ (q : Nat) (ys : List Value) (cs : List Chunk), k = (q : Int) ∧ q ≤ it.l.len ∧ RowC 1 it.l (List.replicate q (eK (markV it.n)) ++ ys) cs ∧ St w0 ((b1, itemCells it) :: (cs ++ (((b, bookC n t) :: tb) ++ ((itsC d ++ itsC r) ++ l)))) w', fun k _ => it.l.len - k.toNat, ⟨0, xs, it.cs, rfl, by omega, hx, st⟩, ?_⟩
    clear st
    rintro k4 w4 ⟨q, ys, cs, rfl, hq, hr, st⟩
    unfold F_towpathlaw01_Book_fillByte_L1
    refine ⟨it.l, st.cell 0 rfl rfl, fun hk => ?_, fun hk => ?_⟩
    · have hk := of_decide_eq_true hk
      intro w5 e5
      have st := st.drew e5
      refine ⟨it.l, st.cell 0 rfl rfl, it.n, st.cell 0 rfl rfl, ?_⟩
      apply S_towpathlaw01_markByte
      unfold F_towpathlaw01_markByte
      refine ⟨st.cell 0 rfl rfl, ?_⟩
      obtain ⟨a, wr, hset⟩ := hr.setN (l := (b1, itemCells it) :: (((b, bookC n t) :: tb) ++ ((itsC d ++ itsC r) ++ l))) (v := eK (markV it.n)) (i := q) st.mid (by omega)
      refine ⟨a, by omega, hk, ?_, fun w7 hw7 => ?_⟩
      · rw [Int.toNat_natCast]; exact wr
      rw [Int.toNat_natCast] at hw7
      obtain ⟨cs', hr', st⟩ := hset w7 hw7
      have wq : IntKind.i64.wrap ((q : Int) + 1) = ((q + 1 : Nat) : Int) := by rw [i64_in _ (by omega) (by omega)]; omega
      rw [wq]
      have hyl : 0 < ys.length := by have := hr.len; simp at this; omega
      obtain ⟨y, ys', rfl⟩ : ∃ y ys', ys = y :: ys' := by cases ys with
        | nil => simp at hyl
        | cons y ys' => exact ⟨y, ys', rfl⟩
      refine ⟨⟨q + 1, ys', cs', rfl, by omega, ?_, st.unmid⟩, by show _ - _ < _ - _; omega⟩
      have e : (List.replicate q (eK (markV it.n)) ++ y :: ys').set q (eK (markV it.n)) = List.replicate (q + 1) (eK (markV it.n)) ++ ys' := by
        rw [List.set_append_right _ _ (by simp), List.length_replicate, Nat.sub_self, List.set_cons_zero, List.replicate_succ', List.append_assoc]; rfl
      rw [e] at hr'
      exact hr'
    · have hk := of_decide_eq_false hk
      have hqe : q = it.l.len := by omega
      subst hqe
      have hys : ys = [] := by have := hr.len; simp at this; exact this
      subst hys
      rw [List.append_nil] at hr
      have wj : IntKind.i64.wrap ((j : Int) + 1) = ((j + 1 : Nat) : Int) := by rw [i64_in _ (by omega) (by omega)]; omega
      rw [wj]
      obtain ⟨bs', o', st'⟩ := BookI.next (it := ⟨it.l, it.long, it.n, cs⟩) (Ph := Kept) (Ph' := Filled) h1 h2 (by simpa [itemCells] using ro) h3 ⟨hlen, hr⟩ h4 st.drop1
      exact ⟨⟨j + 1, bs', rfl, by omega, o', st'⟩, by show _ - _ < _ - _; omega⟩
  · have h := of_decide_eq_false h
    have : j = m := by omega
    subst this
    obtain ⟨its', hl', o'⟩ := o.done
    exact k its' bs _ o' hl' st

theorem sp_growByte {R : World → Prop} (o : BookO b n t its Filled bs) (st : St w0 (bs ++ l) w) (hm : its.length ≤ 2000000)
    (k : ∀ its' bs' w', BookO b n t its' Long bs' → its'.length = its.length → St w0 (bs' ++ l) w' → R w') : C_towpathlaw01_Book_growByte (some ⟨b, 0, none⟩) w R := by
  apply S_towpathlaw01_Book_growByte
  unfold F_towpathlaw01_Book_growByte
  generalize hml : its.length = m at *
  refine ⟨fun i w' => ∃ (j : Nat) (bs : List Chunk), i = (j : Int) ∧ j ≤ m ∧ BookI b n t m j Filled Long bs ∧ St w0 (bs ++ l) w', fun i _ => m - i.toNat, ⟨0, bs, rfl, by omega, by rw [← hml]; exact BookI.start o, st⟩, ?_⟩
  clear o st
  rintro i w1 ⟨j, bs, rfl, hj, o, st⟩
  unfold F_towpathlaw01_Book_growByte_L0
  have htl := o.len
  refine ⟨rfl, t, o.cell st rfl, fun h => ?_, fun h => ?_⟩
  · have h := of_decide_eq_true h
    obtain ⟨d, it, r, tb, h1, h2, ro, h3, ⟨hlen, hx⟩, h4, ha, hc, sti⟩ := o.at_ st (by omega)
    refine ⟨rfl, t, o.cell st rfl, ha, by omega, h, ⟨it.l, it.long, it.n⟩, ?_, fun b1 w2 hb1 hw2 => ?_⟩
    · rw [Int.toNat_natCast]; exact hc
    have st := sti.alloc hb1 hw2
    clear sti
    refine ⟨st.writable 0 rfl (by simp), fun w3 hw3 => ?_⟩
    have st := st.put0 hw3
    have st : St w0 ((b1, itemCells it) :: (it.cs ++ (((b, bookC n t) :: tb) ++ ((itsC d ++ itsC r) ++ l)))) w3 := st
    refine ⟨it.l, st.cell 0 rfl rfl, fun long k w' => ∃ (q : Nat) (cs : List Chunk), k = (q : Int) ∧ q ≤ 70 ∧ Grown_ q ⟨it.l, long, it.n, cs⟩ long ∧ St w0 ((b1, itemCells it) :: (cs ++ (((b, bookC n t) :: tb) ++ ((itsC d ++ itsC r) ++ l)))) w', fun _ k _ => 70 - k.toNat, ⟨0, it.cs, rfl, by omega, ⟨hlen, rfl, it.cs, [], by simp, hx, .inl rfl⟩, st⟩, ?_⟩
    clear st
    rintro long k4 w4 ⟨q, cs, rfl, hq, hg, st⟩
    unfold F_towpathlaw01_Book_growByte_L1
    refine ⟨fun hk => ?_, fun hk => ?_⟩
    · have hk := of_decide_eq_true hk
      refine ⟨it.n, st.cell 0 rfl rfl, ?_⟩
      apply S_towpathlaw01_markByte
      unfold F_towpathlaw01_markByte
      intro b2 w6 hb2 hw6
      have st := (st.alloc hb2 hw6).drop1
      refine ⟨_, srcAt_new hb2 hw6 rfl, ?_⟩
      have wq : IntKind.i64.wrap ((q : Int) + 1) = ((q + 1 : Nat) : Int) := by rw [i64_in _ (by omega) (by omega)]; omega
      rw [wq]
      obtain ⟨_, hll, c1, c2, hcs, hg, hor⟩ := hg
      have hll : long.len = it.l.len + q := hll
      have hcs : cs = c1 ++ c2 := hcs
      subst hcs
      have er : ∀ p : Nat, List.replicate p (eK (markV it.n)) ++ [eK (markV it.n)] = List.replicate (p + 1) (eK (markV it.n)) := fun p => by rw [List.replicate_succ']
      have st : St w0 (c1 ++ (c2 ++ ((b1, itemCells it) :: (((b, bookC n t) :: tb) ++ ((itsC d ++ itsC r) ++ l))))) w6 := by have := st.mid; rwa [List.append_assoc] at this
      refine hg.appendK (by_ := 1) st rfl (by omega) rfl rfl (by rw [hll]; omega) fun s' bs' l' w7 hr7 st hl7 hcase => ?_
      rw [er] at hr7
      have st : St w0 ((b1, itemCells it) :: ((bs' ++ (l' ++ c2)) ++ (((b, bookC n t) :: tb) ++ ((itsC d ++ itsC r) ++ l)))) w7 := by
        refine St.unmid ?_
        simpa only [List.append_assoc] using st
      refine ⟨⟨q + 1, bs' ++ (l' ++ c2), rfl, by omega, ⟨hlen, by show s'.len = it.l.len + (q + 1); omega, bs', l' ++ c2, rfl, hr7, ?_⟩, st⟩, by show _ - _ < _ - _; omega⟩
      rcases hcase with ⟨hp7, rfl⟩ | hb7
      · rcases hor with hp | hsrc
        · exact .inl (hp7.trans hp)
        · exact .inr hsrc
      · have hb7' : l' = c1 := hb7
        subst hb7'
        refine .inr fun w0 l w st => ?_
        rw [List.append_assoc] at st
        rcases hor with hp | hsrc
        · obtain ⟨_, hs2⟩ := (hg.src st).pre (k := it.l.len) (by show it.l.len ≤ long.len; omega)
          rw [Nat.mul_one, List.take_replicate, Nat.min_eq_left (by show it.l.len ≤ it.l.len + q; omega)] at hs2
          refine ⟨by simp, ?_⟩
          rcases hs2 with h0 | h0
          · exact .inl h0
          · refine .inr ?_
            have hp' : long.ptr = it.l.ptr := hp
            rw [← hp']; exact h0
        · exact hsrc w0 l w st.drop
    · have hk := of_decide_eq_false hk
      obtain rfl : q = 70 := by omega
      have hcell : w4.cell? ⟨b, 1, none⟩ = some (slV t) := st.drop1.drop.cell 0 rfl rfl
      have st : St w0 (tb ++ ((b, bookC n t) :: (cs ++ ((itsC d ++ itsC r) ++ l)))) w4 := by
        have h := st.drop1.swap
        exact St.mid h
      have hlt : j * 3 + 1 < t.len * 3 := by omega
      obtain ⟨a, wr, hset⟩ := ro.setN (v := slV long) (i := j * 3 + 1) st hlt
      refine ⟨rfl, t, hcell, a, by omega, h, ?_, fun w8 hw8 => ?_⟩
      · rw [Int.toNat_natCast, Nat.add_assoc]; exact wr
      rw [Int.toNat_natCast, Nat.add_assoc] at hw8
      obtain ⟨tb', ro', st⟩ := hset w8 hw8
      rw [tab_set (cs := cs) h1] at ro'
      have wj : IntKind.i64.wrap ((j : Int) + 1) = ((j + 1 : Nat) : Int) := by rw [i64_in _ (by omega) (by omega)]; omega
      rw [wj]
      have st : St w0 (cs ++ (((b, bookC n t) :: tb') ++ ((itsC d ++ itsC r) ++ l))) w8 := by
        have h : St w0 (((b, bookC n t) :: tb') ++ (cs ++ ((itsC d ++ itsC r) ++ l))) w8 := St.unmid st
        exact h.swap
      obtain ⟨bs', o', st'⟩ := BookI.next (it := ⟨it.l, long, it.n, cs⟩) (Ph := Filled) (Ph' := Long) h1 h2 ro' h3 hg h4 st
      exact ⟨⟨j + 1, bs', rfl, by omega, o', st'⟩, by show _ - _ < _ - _; omega⟩
  · have h := of_decide_eq_false h
    have : j = m := by omega
    subst this
    obtain ⟨its', hl', o'⟩ := o.done
    exact k its' bs _ o' hl' st

theorem sp_lookByte {R : Bool → World → Prop} (o : BookO b n t its Long bs) (st : St w0 (bs ++ l) w) (hm : its.length ≤ 2000000)
    (k : ∀ w', St w0 (bs ++ l) w' → R true w') : C_towpathlaw01_Book_lookByte (some ⟨b, 0, none⟩) w R := by
  apply S_towpathlaw01_Book_lookByte
  unfold F_towpathlaw01_Book_lookByte
  generalize hml : its.length = m at *
  have hI : ∀ j, j ≤ m → BookI b n t m j Long Long bs := fun j hj => by
    obtain ⟨tb, ro, rfl, hph⟩ := o
    refine ⟨its.take j, its.drop j, tb, by rw [List.length_take]; omega, by rw [List.length_take, List.length_drop]; omega, by rw [List.take_append_drop]; exact ro, by rw [List.take_append_drop], fun it hit => hph it (List.mem_of_mem_take hit), fun it hit => hph it (List.mem_of_mem_drop hit)⟩
  refine ⟨fun i w' => ∃ (j : Nat), i = (j : Int) ∧ j ≤ m ∧ St w0 (bs ++ l) w', fun i _ => m - i.toNat, ⟨0, rfl, by omega, st⟩, ?_⟩
  clear st
  rintro i w1 ⟨j, rfl, hj, st⟩
  unfold F_towpathlaw01_Book_lookByte_L0
  have o := hI j hj
  have htl := o.len
  refine ⟨rfl, t, o.cell st rfl, fun h => ?_, fun h => ?_⟩
  · have h := of_decide_eq_true h
    obtain ⟨d, it, r, tb, h1, h2, ro, h3, ⟨hlen, hll, c1, c2, hcs, hg, hor⟩, h4, ha, hc, sti⟩ := o.at_ st (by omega)
    refine ⟨rfl, t, o.cell st rfl, ha, by omega, h, ⟨it.l, it.long, it.n⟩, ?_, fun b1 w2 hb1 hw2 => ?_⟩
    · rw [Int.toNat_natCast]; exact hc
    have sto := st.alloc hb1 hw2
    have st := sti.alloc hb1 hw2
    clear sti
    refine ⟨st.writable 0 rfl (by simp), fun w3 hw3 => ?_⟩
    have sto : St w0 ((b1, itemCells it) :: (bs ++ l)) w3 := sto.put0 hw3
    have st : St w0 ((b1, itemCells it) :: (it.cs ++ (((b, bookC n t) :: tb) ++ ((itsC d ++ itsC r) ++ l)))) w3 := st.put0 hw3
    refine ⟨it.long, st.cell 0 rfl rfl, it.l, st.cell 0 rfl rfl, fun hne => ?_, fun _ => ?_⟩
    · exfalso
      rw [hll, i64_in _ (by omega) (by omega)] at hne
      simp at hne
    refine ⟨fun k w' => ∃ (q : Nat), k = (q : Int) ∧ q ≤ it.long.len ∧ St w0 ((b1, itemCells it) :: (bs ++ l)) w' ∧ St w0 ((b1, itemCells it) :: (it.cs ++ (((b, bookC n t) :: tb) ++ ((itsC d ++ itsC r) ++ l)))) w', fun k _ => it.long.len - k.toNat, ⟨0, rfl, by omega, sto, st⟩, ?_⟩
    clear st sto
    rintro k4 w4 ⟨q, rfl, hq, sto, st⟩
    have hsrc : SrcAt w4 it.long 1 (List.replicate (it.l.len + 70) (eK (markV it.n))) ∧ SrcAt w4 it.l 1 (List.replicate it.l.len (eK (markV it.n))) := by
      have s1 := st.drop1
      rw [hcs, List.append_assoc] at s1
      refine ⟨hg.src s1, ?_⟩
      rcases hor with hp | hsrc
      · obtain ⟨_, hs2⟩ := (hg.src s1).pre (k := it.l.len) (by rw [hll]; omega)
        rw [Nat.mul_one, List.take_replicate, Nat.min_eq_left (by omega)] at hs2
        refine ⟨by simp, ?_⟩
        rcases hs2 with h0 | h0
        · exact .inl h0
        · refine .inr ?_
          have hp' : it.long.ptr = it.l.ptr := hp
          rw [← hp']; exact h0
      · exact hsrc _ _ _ s1.drop
    have rep : ∀ (s : Slc) (p i : Nat), SrcAt w4 s 1 (List.replicate p (eK (markV it.n))) → i < s.len → IsAt s.ptr ∧ w4.cell? ⟨pblk s.ptr, poff s.ptr + i, none⟩ = some (eK (markV it.n)) := fun s p i hs hi => by
      rw [show List.replicate p (eK (markV it.n)) = (List.replicate p ()).map (fun _ => eK (markV it.n)) from by simp] at hs
      obtain ⟨a, _, _, hc⟩ := hs.get (i := (i : Int)) (by omega) (by omega)
      rw [Int.toNat_natCast] at hc
      exact ⟨a, hc⟩
    unfold F_towpathlaw01_Book_lookByte_L1
    refine ⟨it.long, st.cell 0 rfl rfl, fun hk => ?_, fun hk => ?_⟩
    · have hk := of_decide_eq_true hk
      obtain ⟨a, hc1⟩ := rep it.long _ q hsrc.1 (by omega)
      refine ⟨it.long, st.cell 0 rfl rfl, a, by omega, hk, markV it.n, by rw [Int.toNat_natCast]; exact hc1, it.n, st.cell 0 rfl rfl, true, fun w' e => ?_, fun hh => (by cases hh), fun _ => ?_⟩
      · apply S_towpathlaw01_isByte
        unfold F_towpathlaw01_isByte
        exact ⟨beq_self_eq_true _, Ext.refl _⟩
      have wq : IntKind.i64.wrap ((q : Int) + 1) = ((q + 1 : Nat) : Int) := by rw [i64_in _ (by omega) (by omega)]; omega
      have fin : ∀ w', Ext w4 w' → (∃ (q' : Nat), ((q + 1 : Nat) : Int) = (q' : Int) ∧ q' ≤ it.long.len ∧ St w0 ((b1, itemCells it) :: (bs ++ l)) w' ∧ St w0 ((b1, itemCells it) :: (it.cs ++ (((b, bookC n t) :: tb) ++ ((itsC d ++ itsC r) ++ l)))) w') := fun w' e => ⟨q + 1, rfl, by omega, sto.keep e, st.keep e⟩
      refine ⟨it.l, st.cell 0 rfl rfl, fun hk2 => ?_, fun hk2 w10 e10 => ?_⟩
      · have hk2 := of_decide_eq_true hk2
        obtain ⟨a2, hc2⟩ := rep it.l _ q hsrc.2 (by omega)
        refine ⟨it.l, st.cell 0 rfl rfl, a2, by omega, hk2, markV it.n, by rw [Int.toNat_natCast]; exact hc2, it.n, st.cell 0 rfl rfl, true, fun w' e => ?_, fun w9 e9 => ?_⟩
        · apply S_towpathlaw01_isByte
          unfold F_towpathlaw01_isByte
          exact ⟨beq_self_eq_true _, Ext.refl _⟩
        · unfold F_towpathlaw01_Book_lookByte_k2
          refine ⟨fun hh => (by cases hh), fun _ => ?_⟩
          rw [wq]
          exact ⟨fin _ e9, by show _ - _ < _ - _; omega⟩
      · unfold F_towpathlaw01_Book_lookByte_k2
        refine ⟨fun hh => (by cases hh), fun _ => ?_⟩
        rw [wq]
        exact ⟨fin _ e10, by show _ - _ < _ - _; omega⟩
    · have wj : IntKind.i64.wrap ((j : Int) + 1) = ((j + 1 : Nat) : Int) := by rw [i64_in _ (by omega) (by omega)]; omega
      rw [wj]
      exact ⟨⟨j + 1, rfl, by omega, sto.drop1⟩, by show _ - _ < _ - _; omega⟩
  · exact k _ st
end
section
variable {w0 w : World} {l bs : List Chunk} {b : Nat} {n : Int} {t : Slc} {its : List Item} {Ph : Item → Prop}
theorem sp_fillInt {R : World → Prop} (o : BookO b n t its Ph bs) (st : St w0 (bs ++ l) w) (k : R w) : C_towpathlaw01_Book_fillInt (some ⟨b, 0, none⟩) w R := by
  apply S_towpathlaw01_Book_fillInt
  unfold F_towpathlaw01_Book_fillInt
  refine ⟨fun i w' => i = 0 ∧ w' = w, fun _ _ => 0, ⟨rfl, rfl⟩, ?_⟩
  rintro i w' ⟨rfl, rfl⟩
  unfold F_towpathlaw01_Book_fillInt_L0
  exact ⟨rfl, ⟨none, 0, 0⟩, o.cell st rfl, fun h => (by simp at h), fun _ => k⟩
theorem sp_growInt {R : World → Prop} (o : BookO b n t its Ph bs) (st : St w0 (bs ++ l) w) (k : R w) : C_towpathlaw01_Book_growInt (some ⟨b, 0, none⟩) w R := by
  apply S_towpathlaw01_Book_growInt
  unfold F_towpathlaw01_Book_growInt
  refine ⟨fun i w' => i = 0 ∧ w' = w, fun _ _ => 0, ⟨rfl, rfl⟩, ?_⟩
  rintro i w' ⟨rfl, rfl⟩
  unfold F_towpathlaw01_Book_growInt_L0
  exact ⟨rfl, ⟨none, 0, 0⟩, o.cell st rfl, fun h => (by simp at h), fun _ => k⟩
theorem sp_lookInt {R : Bool → World → Prop} (o : BookO b n t its Ph bs) (st : St w0 (bs ++ l) w) (k : R true w) : C_towpathlaw01_Book_lookInt (some ⟨b, 0, none⟩) w R := by
  apply S_towpathlaw01_Book_lookInt
  unfold F_towpathlaw01_Book_lookInt
  refine ⟨fun i w' => i = 0 ∧ w' = w, fun _ _ => 0, ⟨rfl, rfl⟩, ?_⟩
  rintro i w' ⟨rfl, rfl⟩
  unfold F_towpathlaw01_Book_lookInt_L0
  exact ⟨rfl, ⟨none, 0, 0⟩, o.cell st rfl, fun h => (by simp at h), fun _ => k⟩
theorem sp_fillText {R : World → Prop} (o : BookO b n t its Ph bs) (st : St w0 (bs ++ l) w) (k : R w) : C_towpathlaw01_Book_fillText (some ⟨b, 0, none⟩) w R := by
  apply S_towpathlaw01_Book_fillText
  unfold F_towpathlaw01_Book_fillText
  refine ⟨fun i w' => i = 0 ∧ w' = w, fun _ _ => 0, ⟨rfl, rfl⟩, ?_⟩
  rintro i w' ⟨rfl, rfl⟩
  unfold F_towpathlaw01_Book_fillText_L0
  exact ⟨rfl, ⟨none, 0, 0⟩, o.cell st rfl, fun h => (by simp at h), fun _ => k⟩
theorem sp_growText {R : World → Prop} (o : BookO b n t its Ph bs) (st : St w0 (bs ++ l) w) (k : R w) : C_towpathlaw01_Book_growText (some ⟨b, 0, none⟩) w R := by
  apply S_towpathlaw01_Book_growText
  unfold F_towpathlaw01_Book_growText
  refine ⟨fun i w' => i = 0 ∧ w' = w, fun _ _ => 0, ⟨rfl, rfl⟩, ?_⟩
  rintro i w' ⟨rfl, rfl⟩
  unfold F_towpathlaw01_Book_growText_L0
  exact ⟨rfl, ⟨none, 0, 0⟩, o.cell st rfl, fun h => (by simp at h), fun _ => k⟩
theorem sp_lookText {R : Bool → World → Prop} (o : BookO b n t its Ph bs) (st : St w0 (bs ++ l) w) (k : R true w) : C_towpathlaw01_Book_lookText (some ⟨b, 0, none⟩) w R := by
  apply S_towpathlaw01_Book_lookText
  unfold F_towpathlaw01_Book_lookText
  refine ⟨fun i w' => i = 0 ∧ w' = w, fun _ _ => 0, ⟨rfl, rfl⟩, ?_⟩
  rintro i w' ⟨rfl, rfl⟩
  unfold F_towpathlaw01_Book_lookText_L0
  exact ⟨rfl, ⟨none, 0, 0⟩, o.cell st rfl, fun h => (by simp at h), fun _ => k⟩
theorem sp_fillWrite {R : World → Prop} (o : BookO b n t its Ph bs) (st : St w0 (bs ++ l) w) (k : R w) : C_towpathlaw01_Book_fillWrite (some ⟨b, 0, none⟩) w R := by
  apply S_towpathlaw01_Book_fillWrite
  unfold F_towpathlaw01_Book_fillWrite
  refine ⟨fun i w' => i = 0 ∧ w' = w, fun _ _ => 0, ⟨rfl, rfl⟩, ?_⟩
  rintro i w' ⟨rfl, rfl⟩
  unfold F_towpathlaw01_Book_fillWrite_L0
  exact ⟨rfl, ⟨none, 0, 0⟩, o.cell st rfl, fun h => (by simp at h), fun _ => k⟩
theorem sp_growWrite {R : World → Prop} (o : BookO b n t its Ph bs) (st : St w0 (bs ++ l) w) (k : R w) : C_towpathlaw01_Book_growWrite (some ⟨b, 0, none⟩) w R := by
  apply S_towpathlaw01_Book_growWrite
  unfold F_towpathlaw01_Book_growWrite
  refine ⟨fun i w' => i = 0 ∧ w' = w, fun _ _ => 0, ⟨rfl, rfl⟩, ?_⟩
  rintro i w' ⟨rfl, rfl⟩
  unfold F_towpathlaw01_Book_growWrite_L0
  exact ⟨rfl, ⟨none, 0, 0⟩, o.cell st rfl, fun h => (by simp at h), fun _ => k⟩
theorem sp_lookWrite {R : Bool → World → Prop} (o : BookO b n t its Ph bs) (st : St w0 (bs ++ l) w) (k : R true w) : C_towpathlaw01_Book_lookWrite (some ⟨b, 0, none⟩) w R := by
  apply S_towpathlaw01_Book_lookWrite
  unfold F_towpathlaw01_Book_lookWrite
  refine ⟨fun i w' => i = 0 ∧ w' = w, fun _ _ => 0, ⟨rfl, rfl⟩, ?_⟩
  rintro i w' ⟨rfl, rfl⟩
  unfold F_towpathlaw01_Book_lookWrite_L0
  exact ⟨rfl, ⟨none, 0, 0⟩, o.cell st rfl, fun h => (by simp at h), fun _ => k⟩
theorem sp_fillEntry {R : World → Prop} (o : BookO b n t its Ph bs) (st : St w0 (bs ++ l) w) (k : R w) : C_towpathlaw01_Book_fillEntry (some ⟨b, 0, none⟩) w R := by
  apply S_towpathlaw01_Book_fillEntry
  unfold F_towpathlaw01_Book_fillEntry
  refine ⟨fun i w' => i = 0 ∧ w' = w, fun _ _ => 0, ⟨rfl, rfl⟩, ?_⟩
  rintro i w' ⟨rfl, rfl⟩
  unfold F_towpathlaw01_Book_fillEntry_L0
  exact ⟨rfl, ⟨none, 0, 0⟩, o.cell st rfl, fun h => (by simp at h), fun _ => k⟩
theorem sp_growEntry {R : World → Prop} (o : BookO b n t its Ph bs) (st : St w0 (bs ++ l) w) (k : R w) : C_towpathlaw01_Book_growEntry (some ⟨b, 0, none⟩) w R := by
  apply S_towpathlaw01_Book_growEntry
  unfold F_towpathlaw01_Book_growEntry
  refine ⟨fun i w' => i = 0 ∧ w' = w, fun _ _ => 0, ⟨rfl, rfl⟩, ?_⟩
  rintro i w' ⟨rfl, rfl⟩
  unfold F_towpathlaw01_Book_growEntry_L0
  exact ⟨rfl, ⟨none, 0, 0⟩, o.cell st rfl, fun h => (by simp at h), fun _ => k⟩
theorem sp_lookEntry {R : Bool → World → Prop} (o : BookO b n t its Ph bs) (st : St w0 (bs ++ l) w) (k : R true w) : C_towpathlaw01_Book_lookEntry (some ⟨b, 0, none⟩) w R := by
  apply S_towpathlaw01_Book_lookEntry
  unfold F_towpathlaw01_Book_lookEntry
  refine ⟨fun i w' => i = 0 ∧ w' = w, fun _ _ => 0, ⟨rfl, rfl⟩, ?_⟩
  rintro i w' ⟨rfl, rfl⟩
  unfold F_towpathlaw01_Book_lookEntry_L0
  exact ⟨rfl, ⟨none, 0, 0⟩, o.cell st rfl, fun h => (by simp at h), fun _ => k⟩
theorem sp_fillVersion {R : World → Prop} (o : BookO b n t its Ph bs) (st : St w0 (bs ++ l) w) (k : R w) : C_towpathlaw01_Book_fillVersion (some ⟨b, 0, none⟩) w R := by
  apply S_towpathlaw01_Book_fillVersion
  unfold F_towpathlaw01_Book_fillVersion
  refine ⟨fun i w' => i = 0 ∧ w' = w, fun _ _ => 0, ⟨rfl, rfl⟩, ?_⟩
  rintro i w' ⟨rfl, rfl⟩
  unfold F_towpathlaw01_Book_fillVersion_L0
  exact ⟨rfl, ⟨none, 0, 0⟩, o.cell st rfl, fun h => (by simp at h), fun _ => k⟩
theorem sp_growVersion {R : World → Prop} (o : BookO b n t its Ph bs) (st : St w0 (bs ++ l) w) (k : R w) : C_towpathlaw01_Book_growVersion (some ⟨b, 0, none⟩) w R := by
  apply S_towpathlaw01_Book_growVersion
  unfold F_towpathlaw01_Book_growVersion
  refine ⟨fun i w' => i = 0 ∧ w' = w, fun _ _ => 0, ⟨rfl, rfl⟩, ?_⟩
  rintro i w' ⟨rfl, rfl⟩
  unfold F_towpathlaw01_Book_growVersion_L0
  exact ⟨rfl, ⟨none, 0, 0⟩, o.cell st rfl, fun h => (by simp at h), fun _ => k⟩
theorem sp_lookVersion {R : Bool → World → Prop} (o : BookO b n t its Ph bs) (st : St w0 (bs ++ l) w) (k : R true w) : C_towpathlaw01_Book_lookVersion (some ⟨b, 0, none⟩) w R := by
  apply S_towpathlaw01_Book_lookVersion
  unfold F_towpathlaw01_Book_lookVersion
  refine ⟨fun i w' => i = 0 ∧ w' = w, fun _ _ => 0, ⟨rfl, rfl⟩, ?_⟩
  rintro i w' ⟨rfl, rfl⟩
  unfold F_towpathlaw01_Book_lookVersion_L0
  exact ⟨rfl, ⟨none, 0, 0⟩, o.cell st rfl, fun h => (by simp at h), fun _ => k⟩
theorem sp_fillTxn {R : World → Prop} (o : BookO b n t its Ph bs) (st : St w0 (bs ++ l) w) (k : R w) : C_towpathlaw01_Book_fillTxn (some ⟨b, 0, none⟩) w R := by
  apply S_towpathlaw01_Book_fillTxn
  unfold F_towpathlaw01_Book_fillTxn
  refine ⟨fun i w' => i = 0 ∧ w' = w, fun _ _ => 0, ⟨rfl, rfl⟩, ?_⟩
  rintro i w' ⟨rfl, rfl⟩
  unfold F_towpathlaw01_Book_fillTxn_L0
  exact ⟨rfl, ⟨none, 0, 0⟩, o.cell st rfl, fun h => (by simp at h), fun _ => k⟩
theorem sp_growTxn {R : World → Prop} (o : BookO b n t its Ph bs) (st : St w0 (bs ++ l) w) (k : R w) : C_towpathlaw01_Book_growTxn (some ⟨b, 0, none⟩) w R := by
  apply S_towpathlaw01_Book_growTxn
  unfold F_towpathlaw01_Book_growTxn
  refine ⟨fun i w' => i = 0 ∧ w' = w, fun _ _ => 0, ⟨rfl, rfl⟩, ?_⟩
  rintro i w' ⟨rfl, rfl⟩
  unfold F_towpathlaw01_Book_growTxn_L0
  exact ⟨rfl, ⟨none, 0, 0⟩, o.cell st rfl, fun h => (by simp at h), fun _ => k⟩
theorem sp_lookTxn {R : Bool → World → Prop} (o : BookO b n t its Ph bs) (st : St w0 (bs ++ l) w) (k : R true w) : C_towpathlaw01_Book_lookTxn (some ⟨b, 0, none⟩) w R := by
  apply S_towpathlaw01_Book_lookTxn
  unfold F_towpathlaw01_Book_lookTxn
  refine ⟨fun i w' => i = 0 ∧ w' = w, fun _ _ => 0, ⟨rfl, rfl⟩, ?_⟩
  rintro i w' ⟨rfl, rfl⟩
  unfold F_towpathlaw01_Book_lookTxn_L0
  exact ⟨rfl, ⟨none, 0, 0⟩, o.cell st rfl, fun h => (by simp at h), fun _ => k⟩
theorem sp_fillHeld {R : World → Prop} (o : BookO b n t its Ph bs) (st : St w0 (bs ++ l) w) (k : R w) : C_towpathlaw01_Book_fillHeld (some ⟨b, 0, none⟩) w R := by
  apply S_towpathlaw01_Book_fillHeld
  unfold F_towpathlaw01_Book_fillHeld
  refine ⟨fun i w' => i = 0 ∧ w' = w, fun _ _ => 0, ⟨rfl, rfl⟩, ?_⟩
  rintro i w' ⟨rfl, rfl⟩
  unfold F_towpathlaw01_Book_fillHeld_L0
  exact ⟨rfl, ⟨none, 0, 0⟩, o.cell st rfl, fun h => (by simp at h), fun _ => k⟩
theorem sp_growHeld {R : World → Prop} (o : BookO b n t its Ph bs) (st : St w0 (bs ++ l) w) (k : R w) : C_towpathlaw01_Book_growHeld (some ⟨b, 0, none⟩) w R := by
  apply S_towpathlaw01_Book_growHeld
  unfold F_towpathlaw01_Book_growHeld
  refine ⟨fun i w' => i = 0 ∧ w' = w, fun _ _ => 0, ⟨rfl, rfl⟩, ?_⟩
  rintro i w' ⟨rfl, rfl⟩
  unfold F_towpathlaw01_Book_growHeld_L0
  exact ⟨rfl, ⟨none, 0, 0⟩, o.cell st rfl, fun h => (by simp at h), fun _ => k⟩
theorem sp_lookHeld {R : Bool → World → Prop} (o : BookO b n t its Ph bs) (st : St w0 (bs ++ l) w) (k : R true w) : C_towpathlaw01_Book_lookHeld (some ⟨b, 0, none⟩) w R := by
  apply S_towpathlaw01_Book_lookHeld
  unfold F_towpathlaw01_Book_lookHeld
  refine ⟨fun i w' => i = 0 ∧ w' = w, fun _ _ => 0, ⟨rfl, rfl⟩, ?_⟩
  rintro i w' ⟨rfl, rfl⟩
  unfold F_towpathlaw01_Book_lookHeld_L0
  exact ⟨rfl, ⟨none, 0, 0⟩, o.cell st rfl, fun h => (by simp at h), fun _ => k⟩
theorem sp_fillHeldList {R : World → Prop} (o : BookO b n t its Ph bs) (st : St w0 (bs ++ l) w) (k : R w) : C_towpathlaw01_Book_fillHeldList (some ⟨b, 0, none⟩) w R := by
  apply S_towpathlaw01_Book_fillHeldList
  unfold F_towpathlaw01_Book_fillHeldList
  refine ⟨fun i w' => i = 0 ∧ w' = w, fun _ _ => 0, ⟨rfl, rfl⟩, ?_⟩
  rintro i w' ⟨rfl, rfl⟩
  unfold F_towpathlaw01_Book_fillHeldList_L0
  exact ⟨rfl, ⟨none, 0, 0⟩, o.cell st rfl, fun h => (by simp at h), fun _ => k⟩
theorem sp_growHeldList {R : World → Prop} (o : BookO b n t its Ph bs) (st : St w0 (bs ++ l) w) (k : R w) : C_towpathlaw01_Book_growHeldList (some ⟨b, 0, none⟩) w R := by
  apply S_towpathlaw01_Book_growHeldList
  unfold F_towpathlaw01_Book_growHeldList
  refine ⟨fun i w' => i = 0 ∧ w' = w, fun _ _ => 0, ⟨rfl, rfl⟩, ?_⟩
  rintro i w' ⟨rfl, rfl⟩
  unfold F_towpathlaw01_Book_growHeldList_L0
  exact ⟨rfl, ⟨none, 0, 0⟩, o.cell st rfl, fun h => (by simp at h), fun _ => k⟩
theorem sp_lookHeldList {R : Bool → World → Prop} (o : BookO b n t its Ph bs) (st : St w0 (bs ++ l) w) (k : R true w) : C_towpathlaw01_Book_lookHeldList (some ⟨b, 0, none⟩) w R := by
  apply S_towpathlaw01_Book_lookHeldList
  unfold F_towpathlaw01_Book_lookHeldList
  refine ⟨fun i w' => i = 0 ∧ w' = w, fun _ _ => 0, ⟨rfl, rfl⟩, ?_⟩
  rintro i w' ⟨rfl, rfl⟩
  unfold F_towpathlaw01_Book_lookHeldList_L0
  exact ⟨rfl, ⟨none, 0, 0⟩, o.cell st rfl, fun h => (by simp at h), fun _ => k⟩
theorem sp_fillEvent {R : World → Prop} (o : BookO b n t its Ph bs) (st : St w0 (bs ++ l) w) (k : R w) : C_towpathlaw01_Book_fillEvent (some ⟨b, 0, none⟩) w R := by
  apply S_towpathlaw01_Book_fillEvent
  unfold F_towpathlaw01_Book_fillEvent
  refine ⟨fun i w' => i = 0 ∧ w' = w, fun _ _ => 0, ⟨rfl, rfl⟩, ?_⟩
  rintro i w' ⟨rfl, rfl⟩
  unfold F_towpathlaw01_Book_fillEvent_L0
  exact ⟨rfl, ⟨none, 0, 0⟩, o.cell st rfl, fun h => (by simp at h), fun _ => k⟩
theorem sp_growEvent {R : World → Prop} (o : BookO b n t its Ph bs) (st : St w0 (bs ++ l) w) (k : R w) : C_towpathlaw01_Book_growEvent (some ⟨b, 0, none⟩) w R := by
  apply S_towpathlaw01_Book_growEvent
  unfold F_towpathlaw01_Book_growEvent
  refine ⟨fun i w' => i = 0 ∧ w' = w, fun _ _ => 0, ⟨rfl, rfl⟩, ?_⟩
  rintro i w' ⟨rfl, rfl⟩
  unfold F_towpathlaw01_Book_growEvent_L0
  exact ⟨rfl, ⟨none, 0, 0⟩, o.cell st rfl, fun h => (by simp at h), fun _ => k⟩
theorem sp_lookEvent {R : Bool → World → Prop} (o : BookO b n t its Ph bs) (st : St w0 (bs ++ l) w) (k : R true w) : C_towpathlaw01_Book_lookEvent (some ⟨b, 0, none⟩) w R := by
  apply S_towpathlaw01_Book_lookEvent
  unfold F_towpathlaw01_Book_lookEvent
  refine ⟨fun i w' => i = 0 ∧ w' = w, fun _ _ => 0, ⟨rfl, rfl⟩, ?_⟩
  rintro i w' ⟨rfl, rfl⟩
  unfold F_towpathlaw01_Book_lookEvent_L0
  exact ⟨rfl, ⟨none, 0, 0⟩, o.cell st rfl, fun h => (by simp at h), fun _ => k⟩
theorem sp_fillAnswer {R : World → Prop} (o : BookO b n t its Ph bs) (st : St w0 (bs ++ l) w) (k : R w) : C_towpathlaw01_Book_fillAnswer (some ⟨b, 0, none⟩) w R := by
  apply S_towpathlaw01_Book_fillAnswer
  unfold F_towpathlaw01_Book_fillAnswer
  refine ⟨fun i w' => i = 0 ∧ w' = w, fun _ _ => 0, ⟨rfl, rfl⟩, ?_⟩
  rintro i w' ⟨rfl, rfl⟩
  unfold F_towpathlaw01_Book_fillAnswer_L0
  exact ⟨rfl, ⟨none, 0, 0⟩, o.cell st rfl, fun h => (by simp at h), fun _ => k⟩
theorem sp_growAnswer {R : World → Prop} (o : BookO b n t its Ph bs) (st : St w0 (bs ++ l) w) (k : R w) : C_towpathlaw01_Book_growAnswer (some ⟨b, 0, none⟩) w R := by
  apply S_towpathlaw01_Book_growAnswer
  unfold F_towpathlaw01_Book_growAnswer
  refine ⟨fun i w' => i = 0 ∧ w' = w, fun _ _ => 0, ⟨rfl, rfl⟩, ?_⟩
  rintro i w' ⟨rfl, rfl⟩
  unfold F_towpathlaw01_Book_growAnswer_L0
  exact ⟨rfl, ⟨none, 0, 0⟩, o.cell st rfl, fun h => (by simp at h), fun _ => k⟩
theorem sp_lookAnswer {R : Bool → World → Prop} (o : BookO b n t its Ph bs) (st : St w0 (bs ++ l) w) (k : R true w) : C_towpathlaw01_Book_lookAnswer (some ⟨b, 0, none⟩) w R := by
  apply S_towpathlaw01_Book_lookAnswer
  unfold F_towpathlaw01_Book_lookAnswer
  refine ⟨fun i w' => i = 0 ∧ w' = w, fun _ _ => 0, ⟨rfl, rfl⟩, ?_⟩
  rintro i w' ⟨rfl, rfl⟩
  unfold F_towpathlaw01_Book_lookAnswer_L0
  exact ⟨rfl, ⟨none, 0, 0⟩, o.cell st rfl, fun h => (by simp at h), fun _ => k⟩
end

section
variable {w0 w : World} {l bs : List Chunk} {b : Nat} {n : Int} {t : Slc} {its : List Item}
/-- The book is made anew. -/
theorem book_reset {Ph : Item → Prop} (o : BookO b n t its Ph bs) (st : St w0 (bs ++ l) w) : Writable w b 0 12 ∧ ∀ w', w' = World.puts b 0 (bookC 0 ⟨none, 0, 0⟩) w → St w0 ([(b, bookC 0 ⟨none, 0, 0⟩)] ++ l) w' := by
  obtain ⟨tb, _, rfl, _⟩ := o
  refine ⟨st.writable 0 rfl (by simp [bookC]), fun w' hw => ?_⟩
  have st := st.put0 hw
  have e : putL 0 (bookC 0 ⟨none, 0, 0⟩) (bookC n t) = bookC 0 ⟨none, 0, 0⟩ := rfl
  rw [e] at st
  have h : St w0 ((b, bookC 0 ⟨none, 0, 0⟩) :: ((tb ++ itsC its) ++ l)) w' := st
  exact (St.mid h).drop
theorem sp_Apart {R : Bool → World → Prop} (o : BookO b n t its Kept bs) (st : St w0 (bs ++ l) w) (hm : its.length ≤ 2000000)
    (k : ∀ its' bs' w', BookO b n t its' Long bs' → St w0 (bs' ++ l) w' → R true w') : C_towpathlaw01_Book_Apart (some ⟨b, 0, none⟩) w R := by
  apply S_towpathlaw01_Book_Apart
  unfold F_towpathlaw01_Book_Apart
  refine sp_fillByte o st (by omega) fun its bs w o hl st => ?_
  refine sp_fillInt o st ?_
  refine sp_fillText o st ?_
  refine sp_fillWrite o st ?_
  refine sp_fillEntry o st ?_
  refine sp_fillVersion o st ?_
  refine sp_fillTxn o st ?_
  refine sp_fillHeld o st ?_
  refine sp_fillHeldList o st ?_
  refine sp_fillEvent o st ?_
  refine sp_fillAnswer o st ?_
  refine sp_growByte o st (by omega) fun its bs w o hl st => ?_
  refine sp_growInt o st ?_
  refine sp_growText o st ?_
  refine sp_growWrite o st ?_
  refine sp_growEntry o st ?_
  refine sp_growVersion o st ?_
  refine sp_growTxn o st ?_
  refine sp_growHeld o st ?_
  refine sp_growHeldList o st ?_
  refine sp_growEvent o st ?_
  refine sp_growAnswer o st ?_
  refine sp_lookByte o st (by omega) fun w st => ?_
  refine ⟨fun _ => ?_, fun h => (by cases h)⟩
  refine sp_lookInt o st ?_
  refine ⟨fun _ => ?_, fun h => (by cases h)⟩
  refine sp_lookText o st ?_
  refine ⟨fun _ => ?_, fun h => (by cases h)⟩
  refine sp_lookWrite o st ?_
  refine ⟨fun _ => ?_, fun h => (by cases h)⟩
  refine sp_lookEntry o st ?_
  refine ⟨fun _ => ?_, fun h => (by cases h)⟩
  refine sp_lookVersion o st ?_
  refine ⟨fun _ => ?_, fun h => (by cases h)⟩
  refine sp_lookTxn o st ?_
  refine ⟨fun _ => ?_, fun h => (by cases h)⟩
  refine sp_lookHeld o st ?_
  refine ⟨fun _ => ?_, fun h => (by cases h)⟩
  refine sp_lookHeldList o st ?_
  refine ⟨fun _ => ?_, fun h => (by cases h)⟩
  refine sp_lookEvent o st ?_
  refine ⟨fun _ => ?_, fun h => (by cases h)⟩
  refine sp_lookAnswer o st ?_
  exact k _ _ _ o st
theorem sp_Bytes {s : Slc} {xs : List Value} {cs : List Chunk} {R : World → Prop} (o : BookO b n t its Kept bs) (r : RowC 1 s xs cs) (st : St w0 (bs ++ (cs ++ l)) w)
    (hn : 0 ≤ n ∧ n ≤ 2000000) (hl : its.length ≤ 2000000) (hs : s.len ≤ 4398046511104) (k : ∀ t' its' bs' w', BookO b (n + 1) t' its' Kept bs' → its'.length = its.length + 1 → St w0 (bs' ++ l) w' → R w') : C_towpathlaw01_Book_Bytes (some ⟨b, 0, none⟩) s w R := by
  apply S_towpathlaw01_Book_Bytes
  unfold F_towpathlaw01_Book_Bytes
  exact sp_keep o r st hn hl hs k
end
end Go.Proofs.YtckmganidgbpgaaGreatDoor
