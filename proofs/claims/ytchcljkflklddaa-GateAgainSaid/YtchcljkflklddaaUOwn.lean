/- Memory of a call's own: a list of blocks, each with its cells. -/
import Derived.Test.YtchcljkflklddaaLib
namespace Go.Proofs.Ytchcljkflklddaa
open Go
set_option linter.unusedVariables false

abbrev Chunk := Nat × List Value
abbrev iV (x : Int) : Value := Value.int .i64 x
/-- Since w0 nothing old has turned; these blocks are new since then, apart from one another, and hold these cells. -/
structure St (w0 : World) (l : List Chunk) (w : World) : Prop where
  ext : Ext w0 w
  blk : ∀ p ∈ l, Blk w p.1 p.2
  own : ∀ p ∈ l, w0.heap.size ≤ p.1
  nodup : (l.map (·.1)).Nodup

namespace St
variable {w0 w w' : World} {l : List Chunk}
theorem start (w : World) : St w [] w := ⟨Ext.refl _, fun p hp => (by cases hp), fun p hp => (by cases hp), List.nodup_nil⟩
theorem keep (h : St w0 l w) (e : Ext w w') : St w0 l w' := ⟨h.ext.trans e, fun p hp => (h.blk p hp).ext e, h.own, h.nodup⟩
theorem drew (h : St w0 l w) (e : ∃ k, w' = w.drewN k) : St w0 l w' := h.keep (Qt.ext e)
theorem alloc {b : Nat} {cs : List Value} {T : TypeId} (h : St w0 l w) (hb : b = w.heap.size) (hw : w' = w.alloc (Obj.cells cs.toArray T (0, 0))) : St w0 ((b, cs) :: l) w' := by
  have e : Ext w w' := Ext.new hw
  refine ⟨h.ext.trans e, fun p hp => ?_, fun p hp => ?_, ?_⟩
  · rcases List.mem_cons.1 hp with rfl | hp
    · exact Blk.new hb hw
    · exact (h.blk p hp).ext e
  · rcases List.mem_cons.1 hp with rfl | hp
    · have := h.ext.size; show w0.heap.size ≤ b; omega
    · exact h.own p hp
  · rw [List.map_cons, List.nodup_cons]
    refine ⟨fun hm => ?_, h.nodup⟩
    obtain ⟨p, hp, he⟩ := List.mem_map.1 hm
    have := (h.blk p hp).lt
    simp only at he
    omega
theorem perm {l' : List Chunk} (h : St w0 l w) (p : l.Perm l') : St w0 l' w :=
  ⟨h.ext, fun q hq => h.blk q (p.mem_iff.2 hq), fun q hq => h.own q (p.mem_iff.2 hq), (p.map _).nodup_iff.1 h.nodup⟩
theorem sub {l' : List Chunk} (h : St w0 l w) (p : l'.Sublist l) : St w0 l' w :=
  ⟨h.ext, fun q hq => h.blk q (p.mem hq), fun q hq => h.own q (p.mem hq), (p.map _).nodup h.nodup⟩
theorem drop {a : List Chunk} (h : St w0 (a ++ l) w) : St w0 l w := h.sub (List.sublist_append_right _ _)
theorem drop1 {c : Chunk} (h : St w0 (c :: l) w) : St w0 l w := h.sub (List.sublist_cons_self _ _)
theorem swap {a b : List Chunk} (h : St w0 (a ++ (b ++ l)) w) : St w0 (b ++ (a ++ l)) w := h.perm (List.perm_append_comm_assoc _ _ _)
theorem swap3 {a b c : List Chunk} (h : St w0 (a ++ (b ++ (c ++ l))) w) : St w0 (c ++ (a ++ (b ++ l))) w :=
  h.perm (((List.perm_append_comm_assoc b c l).append_left a).trans (List.perm_append_comm_assoc a c (b ++ l)))
theorem back3 {a b c : List Chunk} (h : St w0 (c ++ (a ++ (b ++ l))) w) : St w0 (a ++ (b ++ (c ++ l))) w :=
  h.perm (((List.perm_append_comm_assoc b c l).append_left a).trans (List.perm_append_comm_assoc a c (b ++ l))).symm
theorem get {b : Nat} {cs : List Value} (h : St w0 l w) (i : Nat) (hi : l[i]? = some (b, cs)) : Blk w b cs := h.blk (b, cs) (List.mem_of_getElem? hi)
theorem cell {b : Nat} {cs : List Value} {o : Nat} {v : Value} (h : St w0 l w) (i : Nat) (hi : l[i]? = some (b, cs)) (hv : cs[o]? = some v) : w.cell? ⟨b, o, none⟩ = some v := (h.get i hi).cell hv
theorem put {b o : Nat} {cs vs : List Value} (h : St w0 l w) (i : Nat) (hi : l[i]? = some (b, cs)) (hw : w' = World.puts b o vs w) : St w0 (l.set i (b, putL o vs cs)) w' := by
  subst hw
  have hm := List.mem_of_getElem? hi
  have hil := (List.getElem?_eq_some_iff.1 hi).1
  have hb : w0.heap.size ≤ b := h.own _ hm
  have hmap : (l.set i (b, putL o vs cs)).map (·.1) = l.map (·.1) := by
    rw [List.map_set]
    refine List.ext_getElem? fun j => ?_
    by_cases hj : i = j
    · subst hj
      rw [List.getElem?_set_self (by simpa using hil), List.getElem?_map, hi]; rfl
    · rw [List.getElem?_set_ne hj]
  refine ⟨Below_puts _ h.ext hb, fun p hp => ?_, fun p hp => ?_, by rw [hmap]; exact h.nodup⟩
  · obtain ⟨j, hj⟩ := List.mem_iff_getElem?.1 hp
    by_cases hij : i = j
    · subst hij
      rw [List.getElem?_set_self hil] at hj
      obtain rfl := Option.some.inj hj
      exact (h.blk _ hm).puts vs
    · rw [List.getElem?_set_ne hij] at hj
      refine (h.blk p (List.mem_of_getElem? hj)).puts_ne fun e => ?_
      refine hij ((List.getElem?_inj (by simpa using hil) h.nodup).1 ?_)
      rw [List.getElem?_map, List.getElem?_map, hi, hj]
      exact congrArg some e.symm
  · obtain ⟨j, hj⟩ := List.mem_iff_getElem?.1 hp
    by_cases hij : i = j
    · subst hij
      rw [List.getElem?_set_self hil] at hj
      obtain rfl := Option.some.inj hj
      exact hb
    · rw [List.getElem?_set_ne hij] at hj
      exact h.own p (List.mem_of_getElem? hj)
/-- The first block is written. -/
theorem put0 {b o : Nat} {cs vs : List Value} (h : St w0 ((b, cs) :: l) w) (hw : w' = World.puts b o vs w) : St w0 ((b, putL o vs cs) :: l) w' := h.put 0 rfl hw
theorem put1 {b o : Nat} {cs vs : List Value} {c0 : Chunk} (h : St w0 (c0 :: (b, cs) :: l) w) (hw : w' = World.puts b o vs w) : St w0 (c0 :: (b, putL o vs cs) :: l) w' := h.put 1 rfl hw
theorem writable {b o k : Nat} {cs : List Value} (h : St w0 l w) (i : Nat) (hi : l[i]? = some (b, cs)) (hk : o + k ≤ cs.length) : Writable w b o k := (h.get i hi).writable hk
theorem below (h : St w0 l w) : RowKit.Below w0.heap.size w0 w := h.ext
theorem lt {b : Nat} {cs : List Value} (h : St w0 l w) (i : Nat) (hi : l[i]? = some (b, cs)) : b < w.heap.size := (h.get i hi).lt
end St

/-! ### Slices of one's own -/
def RowC (sz : Nat) (s : Slc) (xs : List Value) (bs : List Chunk) : Prop :=
  (s.ptr = none ∧ s.len = 0 ∧ s.cap = 0 ∧ xs = [] ∧ bs = []) ∨
  ∃ b pre rest, s.ptr = some ⟨b, pre.length, none⟩ ∧ bs = [(b, pre ++ (xs ++ rest))] ∧ xs.length = s.len * sz ∧ xs.length + rest.length = s.cap * sz ∧ s.len ≤ s.cap

namespace RowC
variable {sz : Nat} {s : Slc} {xs : List Value} {bs l : List Chunk} {w0 w : World}
theorem nil : RowC sz ⟨none, 0, 0⟩ [] [] := .inl ⟨rfl, rfl, rfl, rfl, rfl⟩
theorem new {b : Nat} {n : Nat} (h : xs.length = n * sz) : RowC sz ⟨some ⟨b, 0, none⟩, n, n⟩ xs [(b, xs)] := .inr ⟨b, [], [], rfl, by simp, h, by simpa using h, Nat.le_refl _⟩
theorem len (h : RowC sz s xs bs) : xs.length = s.len * sz := by
  rcases h with ⟨_, h, _, rfl, _⟩ | ⟨_, _, _, _, _, h, _, _⟩
  · simp [h]
  · exact h
theorem cap_le (h : RowC sz s xs bs) : s.len ≤ s.cap := by
  rcases h with ⟨_, h, _, _, _⟩ | ⟨_, _, _, _, _, _, _, h⟩ <;> omega
theorem src (h : RowC sz s xs bs) (st : St w0 (bs ++ l) w) : SrcAt w s sz xs := by
  rcases h with ⟨h1, h2, h3, rfl, _⟩ | ⟨b, pre, rest, hp, rfl, h1, h2, h3⟩
  · exact ⟨by simp [h2], .inl rfl⟩
  · refine ⟨h1, .inr ?_⟩
    rw [hp]
    refine ⟨rfl, (st.get 0 rfl).cells fun i v hi => ?_⟩
    have hl := (List.getElem?_eq_some_iff.1 hi).1
    show (pre ++ (xs ++ rest))[pre.length + i]? = some v
    rw [List.getElem?_append_right (by omega), List.getElem?_append_left (by omega)]
    rw [show pre.length + i - pre.length = i from by omega]
    exact hi
theorem append {by_ k : Nat} {e : TypeId} {zs src : List Value} {K : Slc → World → Prop} (h : RowC sz s xs bs) (st : St w0 (bs ++ l) w)
    (hk : src.length = k * sz) (h1 : oneCells src = true) (hz : zs.length = sz) (hcap : (s.len + k) * by_ ≤ 140737488355328)
    (hK : ∀ s' bs' w', RowC sz s' (xs ++ src) bs' → St w0 (bs' ++ l) w' → s'.len = s.len + k → K s' w') : AppendW sz by_ e zs s src k w K := by
  refine ⟨fun hc => ?_, fun hc => ⟨growslice_fits hc hcap, xs, h.src st, fun cap b w' hcl _ hb hw => ?_⟩⟩
  · rcases h with ⟨hp, hl, hcz, rfl, rfl⟩ | ⟨b, pre, rest, hp, rfl, hx, hr, hle⟩
    · have hk0 : k = 0 := by omega
      have hs : src = [] := by
        have : src.length = 0 := by rw [hk, hk0, Nat.zero_mul]
        exact List.eq_nil_of_length_eq_zero this
      subst hs
      exact .inl ⟨rfl, hK _ [] _ (.inl ⟨hp, by simp [hl, hk0], hcz, rfl, rfl⟩) st rfl⟩
    · have hroom : src.length ≤ rest.length := by
        have : (s.len + k) * sz ≤ s.cap * sz := Nat.mul_le_mul_right _ hc
        rw [Nat.add_mul] at this
        omega
      have hlen : poff s.ptr + s.len * sz = (pre ++ xs).length := by rw [hp]; show pre.length + s.len * sz = _; simp; omega
      have hpb : pblk s.ptr = b := by rw [hp]; rfl
      refine .inr ⟨by rw [hp]; rfl, ?_, h1, fun w' hw => ?_⟩
      · rw [hlen, hpb]
        exact st.writable 0 rfl (by simp; omega)
      · rw [hlen, hpb] at hw
        have hn := st.put0 hw
        have e1 : pre ++ (xs ++ rest) = (pre ++ xs) ++ rest.take src.length ++ rest.drop src.length := by simp
        rw [e1, putL_append _ _ _ _ (by simp; omega)] at hn
        refine hK _ [(b, pre ++ ((xs ++ src) ++ rest.drop src.length))] _ (.inr ⟨b, pre, rest.drop src.length, hp, rfl, ?_, ?_, hc⟩) ?_ rfl
        · simp [hx, hk, Nat.add_mul]
        · simp; omega
        · have e2 : pre ++ ((xs ++ src) ++ rest.drop src.length) = (pre ++ xs) ++ src ++ rest.drop src.length := by simp
          rw [e2]; exact hn
  · have hE : Ext w w.drew := Qt.ext ⟨1, rfl⟩
    have hbs : b = w.drew.heap.size := hb
    have st' := (st.drop.keep hE).alloc hbs hw
    refine hK _ [(b, xs ++ src ++ (repCells (cap - (s.len + k)) zs).toList)] _ (.inr ⟨b, [], (repCells (cap - (s.len + k)) zs).toList, rfl, by simp, ?_, ?_, hcl⟩) st' rfl
    · simp only [List.length_append, hk, h.len, Nat.add_mul]
    · simp only [List.length_append, hk, h.len, repCells]
      simp only [List.length_flatten, List.map_replicate, hz, List.sum_replicate_nat]
      rw [← Nat.add_mul, ← Nat.add_mul]
      congr 1
      show s.len + k + (cap - (s.len + k)) = cap
      omega
end RowC

/-- Element i of a slice of things of some cells. -/
theorem SrcAt.getN {α : Type} {f : α → List Value} {w : World} {s : Slc} {sz : Nat} {l : List α} (h : SrcAt w s sz (l.flatMap f)) (hf : ∀ x, (f x).length = sz) (hz : 0 < sz) {i : Int} (h0 : 0 ≤ i) (h1 : i < ((s.len : Nat) : Int)) :
    IsAt s.ptr ∧ ∃ x, l[i.toNat]? = some x ∧ CellsAt w (pblk s.ptr) (poff s.ptr + i.toNat * sz) (f x) := by
  have hfl : ∀ l : List α, (l.flatMap f).length = l.length * sz := fun l => by
    induction l with
    | nil => simp
    | cons x l ih => rw [List.flatMap_cons, List.length_append, ih, hf, List.length_cons, Nat.add_mul]; omega
  have hl : l.length = s.len := by
    have := h.1
    rw [hfl] at this
    exact Nat.eq_of_mul_eq_mul_right hz this
  obtain ⟨a, c⟩ := SrcAtN.at_ h (by omega) hz
  have hlt : i.toNat < l.length := by omega
  refine ⟨a, l[i.toNat], List.getElem?_eq_getElem hlt, cellsAt_iff.2 fun j v hj => ?_⟩
  have e1 : l.flatMap f = (l.take i.toNat).flatMap f ++ (f l[i.toNat] ++ (l.drop (i.toNat + 1)).flatMap f) := by
    conv => lhs; rw [← List.take_append_drop i.toNat l, List.drop_eq_getElem_cons hlt, List.flatMap_append, List.flatMap_cons]
  rw [Nat.add_assoc]
  refine cellsAt_iff.1 c _ v ?_
  have e2 : ((l.take i.toNat).flatMap f).length = i.toNat * sz := by rw [hfl, List.length_take, Nat.min_eq_left (by omega)]
  rw [e1, List.getElem?_append_right (by omega), e2, show i.toNat * sz + j - i.toNat * sz = j from by omega, List.getElem?_append_left (List.getElem?_eq_some_iff.1 hj).1]
  exact hj

end Go.Proofs.Ytchcljkflklddaa
