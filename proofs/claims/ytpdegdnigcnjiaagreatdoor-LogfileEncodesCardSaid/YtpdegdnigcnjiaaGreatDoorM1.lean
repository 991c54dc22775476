/- The verifier's book of lists: Txn: marks are written into each, more is put behind, and each reads as it should. -/
import Derived.Test.YtpdegdnigcnjiaaGreatDoorLib
import Derived.Test.YtpdegdnigcnjiaaGreatDoorGslices
import Derived.Test.YtpdegdnigcnjiaaGreatDoorGtowpathlaw01
import Derived.Test.YtpdegdnigcnjiaaGreatDoorGcodec
import Derived.Test.YtpdegdnigcnjiaaGreatDoorGrecord
import Derived.Test.YtpdegdnigcnjiaaGreatDoorGtowpathref02
import Derived.Test.YtpdegdnigcnjiaaGreatDoorGsum
import Derived.Test.YtpdegdnigcnjiaaGreatDoorGtowpathref03
import Derived.Test.YtpdegdnigcnjiaaGreatDoorGtowpathref05
import Derived.Test.YtpdegdnigcnjiaaGreatDoorGlogfile
import Derived.Test.YtpdegdnigcnjiaaGreatDoorGtowpathref06
import Derived.Lib.LaidTab
import Derived.Lib.ItoaLen
import Derived.Shelf.Strconv.Itoa3
import Derived.Ground.NamesProg
namespace Go.Proofs.YtpdegdnigcnjiaaGreatDoor
open Go
set_option linter.unusedVariables false
set_option linter.unusedSimpArgs false

abbrev Chunk := Nat × List Value
abbrev iV (x : Int) : Value := Value.int .i64 x
/-- The world that one began with, and what was made since that is no row of cells. -/
structure Base where
  w : World
  mp : List (Nat × Obj)
def Solid (o : Obj) : Prop := ∀ c t f, o ≠ .cells c t f
structure MpOk (w0 : Base) (w : World) : Prop where
  at_ : ∀ q ∈ w0.mp, w.heap[q.1]? = some q.2
  solid : ∀ q ∈ w0.mp, Solid q.2
  own : ∀ q ∈ w0.mp, w0.w.heap.size ≤ q.1
  nodup : (w0.mp.map (·.1)).Nodup
theorem obj_ext {w w' : World} {r : Nat} {o : Obj} (e : Ext w w') (h : w.heap[r]? = some o) : w'.heap[r]? = some o :=
  (e.block r (Array.getElem?_eq_some_iff.1 h).1).trans h
theorem MpOk.keep {w0 : Base} {w w' : World} (h : MpOk w0 w) (e : Ext w w') : MpOk w0 w' := ⟨fun q hq => obj_ext e (h.at_ q hq), h.solid, h.own, h.nodup⟩
theorem puts_heap_ne {b k : Nat} (hne : k ≠ b) : ∀ (vs : List Value) (o : Nat) (w : World), (World.puts b o vs w).heap[k]? = w.heap[k]?
  | [], _, _ => rfl
  | v :: vs, o, w => by
    show (World.puts b (o + 1) vs (w.setCell ⟨b, o, none⟩ v)).heap[k]? = _
    rw [puts_heap_ne hne vs (o + 1)]
    exact RowKit.Below.heap_setCell w ⟨b, o, none⟩ v k hne
/-- Since w0 nothing old has turned; these blocks are new since then, apart from one another, and hold these cells. -/
structure St (w0 : Base) (l : List Chunk) (w : World) : Prop where
  ext : Ext w0.w w
  blk : ∀ p ∈ l, Blk w p.1 p.2
  own : ∀ p ∈ l, w0.w.heap.size ≤ p.1
  nodup : (l.map (·.1)).Nodup
  mps : MpOk w0 w

namespace St
variable {w0 : Base} {w w' : World} {l : List Chunk}
theorem start (w : World) : St ⟨w, []⟩ [] w := ⟨Ext.refl _, fun p hp => (by cases hp), fun p hp => (by cases hp), List.nodup_nil, ⟨fun q hq => (by cases hq), fun q hq => (by cases hq), fun q hq => (by cases hq), List.nodup_nil⟩⟩
theorem keep (h : St w0 l w) (e : Ext w w') : St w0 l w' := ⟨h.ext.trans e, fun p hp => (h.blk p hp).ext e, h.own, h.nodup, h.mps.keep e⟩
theorem drew (h : St w0 l w) (e : ∃ k, w' = w.drewN k) : St w0 l w' := h.keep (Qt.ext e)
theorem alloc {b : Nat} {cs : List Value} {T : TypeId} (h : St w0 l w) (hb : b = w.heap.size) (hw : w' = w.alloc (Obj.cells cs.toArray T (0, 0))) : St w0 ((b, cs) :: l) w' := by
  have e : Ext w w' := Ext.new hw
  refine ⟨h.ext.trans e, fun p hp => ?_, fun p hp => ?_, ?_, h.mps.keep e⟩
  · rcases List.mem_cons.1 hp with rfl | hp
    · exact Blk.new hb hw
    · exact (h.blk p hp).ext e
  · rcases List.mem_cons.1 hp with rfl | hp
    · have := h.ext.size; show w0.w.heap.size ≤ b; omega
    · exact h.own p hp
  · rw [List.map_cons, List.nodup_cons]
    refine ⟨fun hm => ?_, h.nodup⟩
    obtain ⟨p, hp, he⟩ := List.mem_map.1 hm
    have := (h.blk p hp).lt
    simp only at he
    omega
theorem perm {l' : List Chunk} (h : St w0 l w) (p : l.Perm l') : St w0 l' w :=
  ⟨h.ext, fun q hq => h.blk q (p.mem_iff.2 hq), fun q hq => h.own q (p.mem_iff.2 hq), (p.map _).nodup_iff.1 h.nodup, h.mps⟩
theorem sub {l' : List Chunk} (h : St w0 l w) (p : l'.Sublist l) : St w0 l' w :=
  ⟨h.ext, fun q hq => h.blk q (p.mem hq), fun q hq => h.own q (p.mem hq), (p.map _).nodup h.nodup, h.mps⟩
theorem drop {a : List Chunk} (h : St w0 (a ++ l) w) : St w0 l w := h.sub (List.sublist_append_right _ _)
theorem drop1 {c : Chunk} (h : St w0 (c :: l) w) : St w0 l w := h.sub (List.sublist_cons_self _ _)
theorem swap {a b : List Chunk} (h : St w0 (a ++ (b ++ l)) w) : St w0 (b ++ (a ++ l)) w := h.perm (List.perm_append_comm_assoc _ _ _)
theorem swap3 {a b c : List Chunk} (h : St w0 (a ++ (b ++ (c ++ l))) w) : St w0 (c ++ (a ++ (b ++ l))) w :=
  h.perm (((List.perm_append_comm_assoc b c l).append_left a).trans (List.perm_append_comm_assoc a c (b ++ l)))
theorem back3 {a b c : List Chunk} (h : St w0 (c ++ (a ++ (b ++ l))) w) : St w0 (a ++ (b ++ (c ++ l))) w :=
  h.perm (((List.perm_append_comm_assoc b c l).append_left a).trans (List.perm_append_comm_assoc a c (b ++ l))).symm
theorem mid {a b : List Chunk} {c : Chunk} (h : St w0 (c :: (a ++ b)) w) : St w0 (a ++ (c :: b)) w := h.perm List.perm_middle.symm
theorem unmid {a b : List Chunk} {c : Chunk} (h : St w0 (a ++ (c :: b)) w) : St w0 (c :: (a ++ b)) w := h.perm List.perm_middle
theorem get {b : Nat} {cs : List Value} (h : St w0 l w) (i : Nat) (hi : l[i]? = some (b, cs)) : Blk w b cs := h.blk (b, cs) (List.mem_of_getElem? hi)
theorem cell {b : Nat} {cs : List Value} {o : Nat} {v : Value} (h : St w0 l w) (i : Nat) (hi : l[i]? = some (b, cs)) (hv : cs[o]? = some v) : w.cell? ⟨b, o, none⟩ = some v := (h.get i hi).cell hv
theorem put {b o : Nat} {cs vs : List Value} (h : St w0 l w) (i : Nat) (hi : l[i]? = some (b, cs)) (hw : w' = World.puts b o vs w) : St w0 (l.set i (b, putL o vs cs)) w' := by
  subst hw
  have hm := List.mem_of_getElem? hi
  have hil := (List.getElem?_eq_some_iff.1 hi).1
  have hb : w0.w.heap.size ≤ b := h.own _ hm
  have hmap : (l.set i (b, putL o vs cs)).map (·.1) = l.map (·.1) := by
    rw [List.map_set]
    refine List.ext_getElem? fun j => ?_
    by_cases hj : i = j
    · subst hj
      rw [List.getElem?_set_self (by simpa using hil), List.getElem?_map, hi]; rfl
    · rw [List.getElem?_set_ne hj]
  have hnm : ∀ q ∈ w0.mp, q.1 ≠ b := fun q hq e => by
    obtain ⟨T, lo, hi', hb', _⟩ := h.blk _ hm
    have hr := h.mps.at_ q hq
    rw [e] at hr
    rw [hr] at hb'
    exact h.mps.solid q hq _ _ _ (Option.some.inj hb')
  refine ⟨Below_puts _ h.ext hb, fun p hp => ?_, fun p hp => ?_, by rw [hmap]; exact h.nodup, ⟨fun q hq => (puts_heap_ne (hnm q hq) _ _ _).trans (h.mps.at_ q hq), h.mps.solid, h.mps.own, h.mps.nodup⟩⟩
  · obtain ⟨j, hj⟩ := List.mem_iff_getElem?.1 hp
    by_cases hij : i = j
    · subst hij
      rw [List.getElem?_set_self hil] at hj
      obtain rfl := Option.some.inj hj
      exact (h.blk _ hm).puts vs
    · rw [List.getElem?_set_ne hij] at hj
      refine (h.blk p (List.mem_of_getElem? hj)).puts_ne fun e => ?_
      refine hij ((List.getElem?_inj (by simpa using hil) h.nodup).1 ?_)
      rw [List.getElem?_map, List.getElem?_map, hi, hj]
      exact congrArg some e.symm
  · obtain ⟨j, hj⟩ := List.mem_iff_getElem?.1 hp
    by_cases hij : i = j
    · subst hij
      rw [List.getElem?_set_self hil] at hj
      obtain rfl := Option.some.inj hj
      exact hb
    · rw [List.getElem?_set_ne hij] at hj
      exact h.own p (List.mem_of_getElem? hj)
/-- The first block is written. -/
theorem put0 {b o : Nat} {cs vs : List Value} (h : St w0 ((b, cs) :: l) w) (hw : w' = World.puts b o vs w) : St w0 ((b, putL o vs cs) :: l) w' := h.put 0 rfl hw
theorem put1 {b o : Nat} {cs vs : List Value} {c0 : Chunk} (h : St w0 (c0 :: (b, cs) :: l) w) (hw : w' = World.puts b o vs w) : St w0 (c0 :: (b, putL o vs cs) :: l) w' := h.put 1 rfl hw
theorem writable {b o k : Nat} {cs : List Value} (h : St w0 l w) (i : Nat) (hi : l[i]? = some (b, cs)) (hk : o + k ≤ cs.length) : Writable w b o k := (h.get i hi).writable hk
/-- The mark that a row made of a constant text's bytes bears, behind its last cell. -/
theorem shape {b : Nat} {cs : List Value} (h : St w0 ((b, cs) :: l) w) : ∃ T, w.shape? b = some (T, cs.length) := by
  obtain ⟨T, lo, hi, hb, _⟩ := h.get 0 rfl
  exact ⟨T, by unfold World.shape?; rw [hb]; simp⟩
theorem freeze {b : Nat} {cs : List Value} (h : St w0 ((b, cs) :: l) w) (hw : w' = w.freeze ⟨b, cs.length, none⟩ 1) : St w0 ((b, cs) :: l) w' := by
  have hfz : ∀ j, j ≠ b → w'.heap[j]? = w.heap[j]? := fun j hj => by
    subst hw
    unfold World.freeze
    rw [if_neg (by decide)]
    simp only [Array.getElem?_modify]
    rw [if_neg (fun e => hj e.symm)]
  have hsz : w'.heap.size = w.heap.size := by subst hw; unfold World.freeze; rw [if_neg (by decide)]; simp
  have hob := h.own _ (List.mem_cons_self ..)
  simp only at hob
  refine ⟨RowKit.Below.trans h.ext ⟨by subst hw; rfl, by subst hw; rfl, by subst hw; rfl, by omega, fun k hk => hfz k (by omega)⟩, fun p hp => ?_, h.own, h.nodup, ⟨fun q hq => ?_, h.mps.solid, h.mps.own, h.mps.nodup⟩⟩
  rotate_left
  · have hq' := h.mps.at_ q hq
    refine (hfz q.1 fun e => ?_).trans hq'
    obtain ⟨T, lo, hi, hb, _⟩ := h.get 0 rfl
    rw [e] at hq'
    rw [hq'] at hb
    exact h.mps.solid q hq _ _ _ (Option.some.inj hb)
  rcases List.mem_cons.1 hp with rfl | hp
  · obtain ⟨T, lo, hi, hb, hf⟩ := h.get 0 rfl
    by_cases he : lo = hi
    · refine ⟨T, cs.length, cs.length + 1, ?_, .inr (Nat.le_refl _)⟩
      subst hw
      unfold World.freeze
      rw [if_neg (by decide)]
      simp only [Array.getElem?_modify, if_true, hb, Option.map_some]
      rw [if_pos (by simpa using he)]
    · refine ⟨T, min lo cs.length, max hi (cs.length + 1), ?_, ?_⟩
      · subst hw
        unfold World.freeze
        rw [if_neg (by decide)]
        simp only [Array.getElem?_modify, if_true, hb, Option.map_some]
        rw [if_neg (by simpa using he)]
      · exact .inr (by have : cs.length ≤ lo := hf.resolve_left he
                       show cs.length ≤ min lo cs.length; omega)
  · have hne : p.1 ≠ b := fun e => by
      have := h.nodup
      rw [List.map_cons, List.nodup_cons] at this
      exact this.1 (List.mem_map.2 ⟨p, hp, e⟩)
    obtain ⟨T, lo, hi, hb, hf⟩ := h.blk p (List.mem_cons_of_mem _ hp)
    exact ⟨T, lo, hi, (hfz _ hne).trans hb, hf⟩
theorem below (h : St w0 l w) : RowKit.Below w0.w.heap.size w0.w w := h.ext
/-- A new block that is no row of cells. -/
theorem newObj {b : Nat} {o : Obj} (h : St w0 l w) (hb : b = w.heap.size) (hw : w' = w.alloc o) (ho : Solid o) : St ⟨w0.w, (b, o) :: w0.mp⟩ l w' := by
  have h' := h.keep (Ext.new hw)
  have hs := h.ext.size
  refine ⟨h'.ext, h'.blk, h'.own, h'.nodup, ⟨fun q hq => ?_, fun q hq => ?_, fun q hq => ?_, ?_⟩⟩
  · rcases List.mem_cons.1 hq with rfl | hq
    · subst hb; subst hw
      show (w.heap.push o)[w.heap.size]? = some o
      rw [Array.getElem?_push_size]
    · exact h'.mps.at_ q hq
  · rcases List.mem_cons.1 hq with rfl | hq
    · exact ho
    · exact h'.mps.solid q hq
  · rcases List.mem_cons.1 hq with rfl | hq
    · show w0.w.heap.size ≤ b; omega
    · exact h'.mps.own q hq
  · show ((b :: w0.mp.map (·.1))).Nodup
    rw [List.nodup_cons]
    refine ⟨fun hm => ?_, h.mps.nodup⟩
    obtain ⟨q, hq, he⟩ := List.mem_map.1 hm
    have := (Array.getElem?_eq_some_iff.1 (h.mps.at_ q hq)).1
    omega
/-- A block that is no row of cells is turned. -/
theorem turn {a b : List (Nat × Obj)} {r : Nat} {o o' : Obj} {W : World} (h : St ⟨W, a ++ (r, o) :: b⟩ l w) (hw : w' = w.putObj r o') (ho : Solid o') : St ⟨W, a ++ (r, o') :: b⟩ l w' := by
  have hm : (r, o) ∈ a ++ (r, o) :: b := List.mem_append_right _ (List.mem_cons_self ..)
  have hat := h.mps.at_ _ hm
  have hlt := (Array.getElem?_eq_some_iff.1 hat).1
  have hWr : W.heap.size ≤ r := h.mps.own _ hm
  have hne : ∀ k, k ≠ r → w'.heap[k]? = w.heap[k]? := fun k hk => by subst hw; exact World.putObj_heap_other hk
  have hsz : w'.heap.size = w.heap.size := by subst hw; exact World.putObj_size
  have hx := h.ext.size
  have hnod : ((a ++ (r, o') :: b).map (·.1)) = ((a ++ (r, o) :: b).map (·.1)) := by rw [List.map_append, List.map_append]; rfl
  have hn2 := h.mps.nodup
  have hsplit : ∀ q ∈ a ++ (r, o') :: b, q = (r, o') ∨ (q ∈ a ++ (r, o) :: b ∧ q.1 ≠ r) := fun q hq => by
    have hn3 : ((a ++ (r, o) :: b).map (·.1)).Nodup := hn2
    rw [List.map_append, List.map_cons, List.nodup_append, List.nodup_cons] at hn3
    rcases List.mem_append.1 hq with hq | hq
    · refine .inr ⟨List.mem_append_left _ hq, fun e => ?_⟩
      exact hn3.2.2 _ (List.mem_map.2 ⟨q, hq, rfl⟩) _ (List.mem_cons_self ..) e
    · rcases List.mem_cons.1 hq with rfl | hq
      · exact .inl rfl
      · refine .inr ⟨List.mem_append_right _ (List.mem_cons_of_mem _ hq), fun e => ?_⟩
        exact hn3.2.1.1 (List.mem_map.2 ⟨q, hq, e⟩)
  refine ⟨RowKit.Below.trans h.ext ⟨by subst hw; rfl, by subst hw; rfl, by subst hw; rfl, by omega, fun k hk => hne k (fun e => by
      have hk : k < W.heap.size := hk
      omega)⟩, fun p hp => ?_, h.own, h.nodup, ⟨fun q hq => ?_, fun q hq => ?_, fun q hq => ?_, by show ((a ++ (r, o') :: b).map (·.1)).Nodup; rw [hnod]; exact hn2⟩⟩
  · obtain ⟨T, lo, hi, hb, hf⟩ := h.blk p hp
    refine ⟨T, lo, hi, (hne p.1 fun e => ?_).trans hb, hf⟩
    rw [e, hat] at hb
    exact h.mps.solid _ hm _ _ _ (Option.some.inj hb)
  · rcases hsplit q hq with rfl | ⟨hq, hqr⟩
    · subst hw; exact World.putObj_heap_same hlt
    · exact (hne q.1 hqr).trans (h.mps.at_ q hq)
  · rcases hsplit q hq with rfl | ⟨hq, hqr⟩
    · exact ho
    · exact h.mps.solid q hq
  · rcases hsplit q hq with rfl | ⟨hq, hqr⟩
    · exact hWr
    · exact h.mps.own q hq
theorem forget {a b : List (Nat × Obj)} {W : World} (h : St ⟨W, a ++ b⟩ l w) : St ⟨W, b⟩ l w :=
  ⟨h.ext, h.blk, h.own, h.nodup, ⟨fun q hq => h.mps.at_ q (List.mem_append_right _ hq), fun q hq => h.mps.solid q (List.mem_append_right _ hq), fun q hq => h.mps.own q (List.mem_append_right _ hq), (by
    have h2 := h.mps.nodup
    have h3 : ((a ++ b).map (·.1)).Nodup := h2
    rw [List.map_append, List.nodup_append] at h3
    exact h3.2.1)⟩⟩
theorem objAt {r : Nat} {o : Obj} (h : St w0 l w) (i : Nat) (hi : w0.mp[i]? = some (r, o)) : w.heap[r]? = some o := h.mps.at_ _ (List.mem_of_getElem? hi)
theorem lt {b : Nat} {cs : List Value} (h : St w0 l w) (i : Nat) (hi : l[i]? = some (b, cs)) : b < w.heap.size := (h.get i hi).lt
end St

/-! ### Slices of one's own -/
def RowC (sz : Nat) (s : Slc) (xs : List Value) (bs : List Chunk) : Prop :=
  (s.ptr = none ∧ s.len = 0 ∧ s.cap = 0 ∧ xs = [] ∧ bs = []) ∨
  ∃ b pre rest suf, s.ptr = some ⟨b, pre.length, none⟩ ∧ bs = [(b, pre ++ (xs ++ (rest ++ suf)))] ∧ xs.length = s.len * sz ∧ xs.length + rest.length = s.cap * sz ∧ s.len ≤ s.cap

namespace RowC
variable {sz : Nat} {s : Slc} {xs : List Value} {bs l : List Chunk} {w0 : Base} {w : World}
theorem nil : RowC sz ⟨none, 0, 0⟩ [] [] := .inl ⟨rfl, rfl, rfl, rfl, rfl⟩
theorem new {b : Nat} {n : Nat} (h : xs.length = n * sz) : RowC sz ⟨some ⟨b, 0, none⟩, n, n⟩ xs [(b, xs)] := .inr ⟨b, [], [], [], rfl, by simp, h, by simpa using h, Nat.le_refl _⟩
theorem len (h : RowC sz s xs bs) : xs.length = s.len * sz := by
  rcases h with ⟨_, h, _, rfl, _⟩ | ⟨_, _, _, _, _, _, h, _, _⟩
  · simp [h]
  · exact h
theorem cap_le (h : RowC sz s xs bs) : s.len ≤ s.cap := by
  rcases h with ⟨_, h, _, _, _⟩ | ⟨_, _, _, _, _, _, _, _, h⟩ <;> omega
theorem src (h : RowC sz s xs bs) (st : St w0 (bs ++ l) w) : SrcAt w s sz xs := by
  rcases h with ⟨h1, h2, h3, rfl, _⟩ | ⟨b, pre, rest, suf, hp, rfl, h1, h2, h3⟩
  · exact ⟨by simp [h2], .inl rfl⟩
  · refine ⟨h1, .inr ?_⟩
    rw [hp]
    refine ⟨rfl, (st.get 0 rfl).cells fun i v hi => ?_⟩
    have hl := (List.getElem?_eq_some_iff.1 hi).1
    show (pre ++ (xs ++ (rest ++ suf)))[pre.length + i]? = some v
    rw [List.getElem?_append_right (by omega), List.getElem?_append_left (by omega)]
    rw [show pre.length + i - pre.length = i from by omega]
    exact hi
theorem append {by_ k : Nat} {e : TypeId} {zs src : List Value} {K : Slc → World → Prop} (h : RowC sz s xs bs) (st : St w0 (bs ++ l) w)
    (hk : src.length = k * sz) (h1 : oneCells src = true) (hz : zs.length = sz) (hcap : (s.len + k) * by_ ≤ 140737488355328)
    (hK : ∀ s' bs' w', RowC sz s' (xs ++ src) bs' → St w0 (bs' ++ l) w' → s'.len = s.len + k → K s' w') : AppendW sz by_ e zs s src k w K := by
  refine ⟨fun hc => ?_, fun hc => ⟨growslice_fits hc hcap, xs, h.src st, fun cap b w' hcl _ hb hw => ?_⟩⟩
  · rcases h with ⟨hp, hl, hcz, rfl, rfl⟩ | ⟨b, pre, rest, suf, hp, rfl, hx, hr, hle⟩
    · have hk0 : k = 0 := by omega
      have hs : src = [] := by
        have : src.length = 0 := by rw [hk, hk0, Nat.zero_mul]
        exact List.eq_nil_of_length_eq_zero this
      subst hs
      exact .inl ⟨rfl, hK _ [] _ (.inl ⟨hp, by simp [hl, hk0], hcz, rfl, rfl⟩) st rfl⟩
    · have hroom : src.length ≤ rest.length := by
        have : (s.len + k) * sz ≤ s.cap * sz := Nat.mul_le_mul_right _ hc
        rw [Nat.add_mul] at this
        omega
      have hlen : poff s.ptr + s.len * sz = (pre ++ xs).length := by rw [hp]; show pre.length + s.len * sz = _; simp; omega
      have hpb : pblk s.ptr = b := by rw [hp]; rfl
      refine .inr ⟨by rw [hp]; rfl, ?_, h1, fun w' hw => ?_⟩
      · rw [hlen, hpb]
        exact st.writable 0 rfl (by simp; omega)
      · rw [hlen, hpb] at hw
        have hn := st.put0 hw
        have e1 : pre ++ (xs ++ (rest ++ suf)) = (pre ++ xs) ++ rest.take src.length ++ (rest.drop src.length ++ suf) := by
          conv => lhs; rw [← List.take_append_drop src.length rest]
          simp only [List.append_assoc]
        rw [e1, putL_append _ _ _ _ (by simp; omega)] at hn
        refine hK _ [(b, pre ++ ((xs ++ src) ++ (rest.drop src.length ++ suf)))] _ (.inr ⟨b, pre, rest.drop src.length, suf, hp, rfl, ?_, ?_, hc⟩) ?_ rfl
        · simp [hx, hk, Nat.add_mul]
        · simp; omega
        · have e2 : pre ++ ((xs ++ src) ++ (rest.drop src.length ++ suf)) = (pre ++ xs) ++ src ++ (rest.drop src.length ++ suf) := by simp only [List.append_assoc]
          rw [e2]; exact hn
  · have hE : Ext w w.drew := Qt.ext ⟨1, rfl⟩
    have hbs : b = w.drew.heap.size := hb
    have st' := (st.drop.keep hE).alloc hbs hw
    refine hK _ [(b, xs ++ src ++ (repCells (cap - (s.len + k)) zs).toList)] _ (.inr ⟨b, [], (repCells (cap - (s.len + k)) zs).toList, [], rfl, by simp, ?_, ?_, hcl⟩) st' rfl
    · simp only [List.length_append, hk, h.len, Nat.add_mul]
    · simp only [List.length_append, hk, h.len, repCells]
      simp only [List.length_flatten, List.map_replicate, hz, List.sum_replicate_nat]
      rw [← Nat.add_mul, ← Nat.add_mul]
      congr 1
      show s.len + k + (cap - (s.len + k)) = cap
      omega
/-- x[lo:hi:mx] of a slice of one's own. -/
theorem cut {lo hi mx : Int} (h : RowC sz s xs bs) (h0 : 0 ≤ lo) (h1 : lo ≤ hi) (h2 : hi ≤ ((s.len : Nat) : Int)) (h3 : hi ≤ mx) (h4 : mx ≤ ((s.cap : Nat) : Int)) :
    RowC sz (Slc.cut sz s lo hi mx) ((xs.drop (lo.toNat * sz)).take ((hi.toNat - lo.toNat) * sz)) bs := by
  rcases h with ⟨hp, hl, hcz, rfl, rfl⟩ | ⟨b, pre, rest, suf, hp, rfl, hx, hr, hle⟩
  · refine .inl ⟨?_, ?_, ?_, by simp, rfl⟩
    · unfold Slc.cut; rw [hp]; simp
    · unfold Slc.cut; simp only; omega
    · unfold Slc.cut; simp only; omega
  · obtain ⟨lo, rfl⟩ := toN h0
    obtain ⟨hi, rfl⟩ := toN (show 0 ≤ hi by omega)
    obtain ⟨mx, rfl⟩ := toN (show 0 ≤ mx by omega)
    simp only [Int.toNat_natCast] at *
    have hlo : lo * sz ≤ hi * sz := Nat.mul_le_mul_right _ (by omega)
    have hhi : hi * sz ≤ s.len * sz := Nat.mul_le_mul_right _ (by omega)
    have hmx : hi * sz ≤ mx * sz := Nat.mul_le_mul_right _ (by omega)
    have hcp : mx * sz ≤ s.cap * sz := Nat.mul_le_mul_right _ (by omega)
    have hsub : (hi - lo) * sz = hi * sz - lo * sz := Nat.sub_mul _ _ _
    have hsub2 : (mx - lo) * sz = mx * sz - lo * sz := Nat.sub_mul _ _ _
    have hxl : ((xs.drop (lo * sz)).take ((hi - lo) * sz)).length = (hi - lo) * sz := by
      rw [List.length_take, List.length_drop, hsub]; omega
    by_cases hm : mx = lo
    · subst hm
      have : hi = mx := by omega
      subst this
      refine .inr ⟨b, pre, [], xs ++ (rest ++ suf), ?_, ?_, ?_, ?_, ?_⟩
      · unfold Slc.cut; simp [hp]
      · rw [Nat.sub_self, Nat.zero_mul, List.take_zero]; simp
      · unfold Slc.cut; simp
      · unfold Slc.cut; simp
      · unfold Slc.cut; simp
    · refine .inr ⟨b, pre ++ xs.take (lo * sz), ((xs ++ rest).drop (hi * sz)).take ((mx - hi) * sz), (xs ++ rest).drop (mx * sz) ++ suf, ?_, ?_, ?_, ?_, ?_⟩
      · unfold Slc.cut
        simp only [Int.toNat_natCast]
        rw [if_neg hm, hp]
        simp only [Option.map_some, addr_add, List.length_append, List.length_take, Option.some.injEq, Addr.mk.injEq, true_and, and_true]
        omega
      · congr 2
        have hsub3 : (mx - hi) * sz = mx * sz - hi * sz := Nat.sub_mul _ _ _
        have e1 : xs ++ rest = xs.take (lo * sz) ++ ((xs.drop (lo * sz)).take ((hi - lo) * sz) ++ (((xs ++ rest).drop (hi * sz)).take ((mx - hi) * sz) ++ (xs ++ rest).drop (mx * sz))) := by
          have a1 : ((xs ++ rest).drop (hi * sz)).take ((mx - hi) * sz) ++ (xs ++ rest).drop (mx * sz) = (xs ++ rest).drop (hi * sz) := by
            conv => rhs; rw [← List.take_append_drop ((mx - hi) * sz) ((xs ++ rest).drop (hi * sz))]
            rw [List.drop_drop, show hi * sz + (mx - hi) * sz = mx * sz from by omega]
          have a2 : (xs.drop (lo * sz)).take ((hi - lo) * sz) ++ (xs ++ rest).drop (hi * sz) = (xs ++ rest).drop (lo * sz) := by
            conv => rhs; rw [← List.take_append_drop ((hi - lo) * sz) ((xs ++ rest).drop (lo * sz))]
            rw [List.drop_drop, show lo * sz + (hi - lo) * sz = hi * sz from by omega, List.drop_append_of_le_length (by omega : lo * sz ≤ xs.length), List.take_append_of_le_length (by rw [List.length_drop]; omega)]
          rw [a1, a2]
          conv => lhs; rw [← List.take_append_drop (lo * sz) (xs ++ rest)]
          rw [List.take_append_of_le_length (by omega)]
        rw [← List.append_assoc xs, e1]
        simp only [List.append_assoc]
        rw [← e1]
      · rw [hxl]; unfold Slc.cut; simp
      · rw [hxl, List.length_take, List.length_drop, List.length_append, hr]
        have hsub3 : (mx - hi) * sz = mx * sz - hi * sz := Nat.sub_mul _ _ _
        unfold Slc.cut
        simp only [Int.toNat_natCast]
        omega
      · unfold Slc.cut; simp only [Int.toNat_natCast]; omega
/-- copy(x[lo:], ..) -/
theorem over {lo : Nat} {src : List Value} {K : World → Prop} (h : RowC 1 s xs bs) (st : St w0 (bs ++ l) w) (h1 : lo + src.length ≤ s.len) (ho : oneCells src = true)
    (hK : ∀ bs' w', RowC 1 s (xs.take lo ++ src ++ xs.drop (lo + src.length)) bs' → St w0 (bs' ++ l) w' → K w') : CopyW (Slc.cut 1 s (lo : Int) ((s.len : Nat) : Int) ((s.cap : Nat) : Int)) src w K := by
  cases hsrc : src with
  | nil =>
    subst hsrc
    refine .inl ⟨rfl, hK bs w ?_ st⟩
    simpa using h
  | cons v vs =>
    rw [← hsrc]
    have hpos : 0 < src.length := by rw [hsrc]; simp
    rcases h with ⟨hp, hl, hcz, rfl, rfl⟩ | ⟨b, pre, rest, suf, hp, rfl, hx, hr, hle⟩
    · omega
    · have hptr : (Slc.cut 1 s (lo : Int) ((s.len : Nat) : Int) ((s.cap : Nat) : Int)).ptr = some ⟨b, pre.length + lo, none⟩ := by
        unfold Slc.cut
        simp only [Int.toNat_natCast]
        rw [if_neg (by omega), hp]
        simp [addr_add]
      right
      rw [hptr]
      have hx1 : xs.length = s.len := by omega
      have e0 : xs = xs.take lo ++ ((xs.drop lo).take src.length ++ xs.drop (lo + src.length)) := by
        conv => lhs; rw [← List.take_append_drop lo xs, ← List.take_append_drop src.length (xs.drop lo), List.drop_drop]
      refine ⟨rfl, st.writable 0 rfl (by show pre.length + lo + src.length ≤ _; simp; omega), ho, fun w' hw => ?_⟩
      have hn := st.put0 hw
      have e1 : pre ++ (xs ++ (rest ++ suf)) = (pre ++ xs.take lo) ++ (xs.drop lo).take src.length ++ (xs.drop (lo + src.length) ++ (rest ++ suf)) := by
        conv => lhs; rw [e0]
        simp only [List.append_assoc]
      have e2 : poff (some ⟨b, pre.length + lo, none⟩ : Option Addr) = (pre ++ xs.take lo).length := by
        show pre.length + lo = _
        rw [List.length_append, List.length_take]; omega
      rw [e1, e2, putL_append _ _ _ _ (by rw [List.length_take, List.length_drop]; omega)] at hn
      refine hK [(b, pre ++ ((xs.take lo ++ src ++ xs.drop (lo + src.length)) ++ (rest ++ suf)))] w' (.inr ⟨b, pre, rest, suf, hp, rfl, ?_, ?_, hle⟩) ?_
      · simp only [List.length_append, List.length_take, List.length_drop]; omega
      · simp only [List.length_append, List.length_take, List.length_drop]; omega
      · have e3 : pre ++ ((xs.take lo ++ src ++ xs.drop (lo + src.length)) ++ (rest ++ suf)) = (pre ++ xs.take lo) ++ src ++ (xs.drop (lo + src.length) ++ (rest ++ suf)) := by simp only [List.append_assoc]
        rw [e3]; exact hn
end RowC

/-- x[lo:hi:mx] of a slice that is read. -/
theorem SrcAt.cut {w : World} {s : Slc} {sz : Nat} {src : List Value} {lo hi mx : Int} (h : SrcAt w s sz src) (h0 : 0 ≤ lo) (h1 : lo ≤ hi) (h2 : hi ≤ ((s.len : Nat) : Int)) (h3 : hi ≤ mx) :
    SrcAt w (Slc.cut sz s lo hi mx) sz ((src.drop (lo.toNat * sz)).take ((hi.toNat - lo.toNat) * sz)) := by
  obtain ⟨lo, rfl⟩ := toN h0
  obtain ⟨hi, rfl⟩ := toN (show 0 ≤ hi by omega)
  obtain ⟨mx, rfl⟩ := toN (show 0 ≤ mx by omega)
  simp only [Int.toNat_natCast]
  obtain ⟨hl, hc⟩ := h
  have hlo : lo * sz ≤ hi * sz := Nat.mul_le_mul_right _ (by omega)
  have hhi : hi * sz ≤ s.len * sz := Nat.mul_le_mul_right _ (by omega)
  have hsub : (hi - lo) * sz = hi * sz - lo * sz := Nat.sub_mul _ _ _
  have hxl : ((src.drop (lo * sz)).take ((hi - lo) * sz)).length = (hi - lo) * sz := by
    rw [List.length_take, List.length_drop, hsub]; omega
  refine ⟨by rw [hxl]; unfold Slc.cut; simp, ?_⟩
  by_cases he : (src.drop (lo * sz)).take ((hi - lo) * sz) = []
  · exact .inl he
  · right
    rcases hc with hc | ⟨ha, hc⟩
    · exact absurd (by rw [hc]; simp) he
    · have hlh : lo ≠ hi := fun e => he (by subst e; simp)
      have hp : s.ptr = some ⟨pblk s.ptr, poff s.ptr, none⟩ := ha
      have hq : (Slc.cut sz s (lo : Int) (hi : Int) (mx : Int)).ptr = some ⟨pblk s.ptr, poff s.ptr + lo * sz, none⟩ := by
        unfold Slc.cut
        simp only [Int.toNat_natCast]
        rw [if_neg (by omega)]
        generalize pblk s.ptr = pb at *
        generalize poff s.ptr = po at *
        rw [hp]; simp [addr_add]
      rw [hq]
      refine ⟨rfl, cellsAt_iff.2 fun i v hi' => ?_⟩
      show w.cell? ⟨pblk s.ptr, poff s.ptr + lo * sz + i, none⟩ = some v
      rw [Nat.add_assoc]
      refine cellsAt_iff.1 hc _ v ?_
      have hil := (List.getElem?_eq_some_iff.1 hi').1
      rw [hxl] at hil
      rw [List.getElem?_take, if_pos hil, List.getElem?_drop] at hi'
      exact hi'

/-- Element i of a slice of things of some cells. -/
theorem SrcAt.getN {α : Type} {f : α → List Value} {w : World} {s : Slc} {sz : Nat} {l : List α} (h : SrcAt w s sz (l.flatMap f)) (hf : ∀ x, (f x).length = sz) (hz : 0 < sz) {i : Int} (h0 : 0 ≤ i) (h1 : i < ((s.len : Nat) : Int)) :
    IsAt s.ptr ∧ ∃ x, l[i.toNat]? = some x ∧ CellsAt w (pblk s.ptr) (poff s.ptr + i.toNat * sz) (f x) := by
  have hfl : ∀ l : List α, (l.flatMap f).length = l.length * sz := fun l => by
    induction l with
    | nil => simp
    | cons x l ih => rw [List.flatMap_cons, List.length_append, ih, hf, List.length_cons, Nat.add_mul]; omega
  have hl : l.length = s.len := by
    have := h.1
    rw [hfl] at this
    exact Nat.eq_of_mul_eq_mul_right hz this
  obtain ⟨a, c⟩ := SrcAtN.at_ h (by omega) hz
  have hlt : i.toNat < l.length := by omega
  refine ⟨a, l[i.toNat], List.getElem?_eq_getElem hlt, cellsAt_iff.2 fun j v hj => ?_⟩
  have e1 : l.flatMap f = (l.take i.toNat).flatMap f ++ (f l[i.toNat] ++ (l.drop (i.toNat + 1)).flatMap f) := by
    conv => lhs; rw [← List.take_append_drop i.toNat l, List.drop_eq_getElem_cons hlt, List.flatMap_append, List.flatMap_cons]
  rw [Nat.add_assoc]
  refine cellsAt_iff.1 c _ v ?_
  have e2 : ((l.take i.toNat).flatMap f).length = i.toNat * sz := by rw [hfl, List.length_take, Nat.min_eq_left (by omega)]
  rw [e1, List.getElem?_append_right (by omega), e2, show i.toNat * sz + j - i.toNat * sz = j from by omega, List.getElem?_append_left (List.getElem?_eq_some_iff.1 hj).1]
  exact hj

/-- x[:k] of a slice that is read. -/
theorem SrcAt.pre {w : World} {s : Slc} {sz k : Nat} {src : List Value} (h : SrcAt w s sz src) (hk : k ≤ s.len) : SrcAt w ⟨s.ptr, k, s.cap⟩ sz (src.take (k * sz)) := by
  obtain ⟨hl, hc⟩ := h
  have hm : k * sz ≤ s.len * sz := Nat.mul_le_mul_right _ hk
  refine ⟨by rw [List.length_take]; show min (k * sz) src.length = k * sz; omega, ?_⟩
  rcases hc with hc | ⟨ha, hc⟩
  · exact .inl (by rw [hc]; simp)
  · refine .inr ⟨ha, cellsAt_iff.2 fun i v hi => cellsAt_iff.1 hc i v ?_⟩
    have hil := (List.getElem?_eq_some_iff.1 hi).1
    rw [List.length_take] at hil
    rw [List.getElem?_take, if_pos (by omega)] at hi
    exact hi

/-! ### A slice of things of some cells that came in -/
theorem flatMap_len {α : Type} {f : α → List Value} {sz : Nat} (hf : ∀ x, (f x).length = sz) : ∀ l : List α, (l.flatMap f).length = l.length * sz
  | [] => by simp
  | x :: l => by rw [List.flatMap_cons, List.length_append, flatMap_len hf l, hf, List.length_cons, Nat.add_mul]; omega
theorem ok_list {α : Type} {f : α → List Value} {Pr : α → Prop} {w : World} {s : Slc} {sz by_ : Nat} {E : List Value → Prop} (h : OkSl w s sz by_ E) (hE : ∀ es, E es → ∃ x, es = f x ∧ Pr x)
    (hf : ∀ x, (f x).length = sz) (hz : 0 < sz) : ∃ l : List α, SrcAt w s sz (l.flatMap f) ∧ s.len ≤ s.cap ∧ s.cap * by_ ≤ 140737488351232 ∧ l.length = s.len ∧ ∀ x ∈ l, Pr x := by
  rcases h with ⟨h1, h2, h3⟩ | ⟨h1, h2, h3, a, hp, hi⟩
  · exact ⟨[], ⟨by simp [h2], .inl rfl⟩, by omega, by simp [h3], by simp [h2], fun x hx => by cases hx⟩
  · by_cases hl0 : s.len = 0
    · exact ⟨[], ⟨by simp [hl0], .inl rfl⟩, h1, h3, by simp [hl0], fun x hx => by cases hx⟩
    have hspot : a.spot = none := by
      obtain ⟨es0, hes0, _⟩ := hi 0 (by omega)
      rw [Nat.zero_mul] at hes0
      obtain ⟨_, hlen, hc⟩ := World.cells?_some hes0
      have h0 := hc 0 (by omega)
      have : w.cell? a = some (es0[0]'(by omega)) := by
        have e : a.add 0 = a := rfl
        rw [e, List.getElem?_eq_getElem (by omega)] at h0
        exact h0
      unfold World.cell? at this
      split at this
      · split at this
        · cases this
        · rename_i hs; simpa using hs
      · cases this
    have hadd : ∀ k, a.add k = ⟨a.block, a.off + k, none⟩ := fun k => by
      unfold Addr.add
      split
      · rename_i h0; subst h0; cases a; simp only at hspot; subst hspot; rfl
      · rfl
    have key : ∀ i, i < s.len → ∃ x, CellsAt w a.block (a.off + i * sz) (f x) ∧ Pr x := by
      intro i hlt
      obtain ⟨es, hes, he⟩ := hi i (by omega)
      obtain ⟨x, rfl, hx⟩ := hE es he
      obtain ⟨_, hlen, hc⟩ := World.cells?_some hes
      refine ⟨x, cellsAt_iff.2 fun j v hj => ?_, hx⟩
      have hjl := (List.getElem?_eq_some_iff.1 hj).1
      have h0 := hc j (by omega)
      rw [hj, hadd] at h0
      have e : (⟨a.block, a.off + i * sz, none⟩ : Addr).add j = ⟨a.block, a.off + i * sz + j, none⟩ := addr_add _ _ _
      rw [e] at h0
      exact h0
    obtain ⟨l, hl, hp'⟩ := exists_list (α := α) (n := s.len) key
    have ha : a = ⟨a.block, a.off, none⟩ := by cases a; simp only at hspot; subst hspot; rfl
    refine ⟨l, ⟨by rw [flatMap_len hf, hl], .inr ?_⟩, h1, h3, hl, fun x hx => ?_⟩
    · rw [hp]
      refine ⟨by show some a = some _; rw [ha]; rfl, ?_⟩
      have hall : ∀ (m : List α) (o : Nat), (∀ i x, m[i]? = some x → CellsAt w a.block (o + i * sz) (f x)) → CellsAt w a.block o (m.flatMap f) := by
        intro m
        induction m with
        | nil => intro o _; trivial
        | cons y ys ih =>
          intro o hm
          rw [List.flatMap_cons]
          refine cellsAt_iff.2 fun j v hj => ?_
          by_cases hjl : j < (f y).length
          · rw [List.getElem?_append_left hjl] at hj
            have := cellsAt_iff.1 (hm 0 y rfl) j v hj
            simpa using this
          · rw [List.getElem?_append_right (by omega)] at hj
            have h2 := cellsAt_iff.1 (ih (o + sz) fun i x hx => by
              have := hm (i + 1) x (by simpa using hx)
              rw [Nat.add_mul, Nat.one_mul] at this
              rw [show o + sz + i * sz = o + (i * sz + sz) from by omega]; exact this) _ v hj
            rw [hf] at h2 hjl
            rw [show o + sz + (j - sz) = o + j from by omega] at h2
            exact h2
      exact hall l a.off fun i x hx => (hp' i x hx).1
    · obtain ⟨i, hi'⟩ := List.mem_iff_getElem?.1 hx
      exact (hp' i x hi').2

end Go.Proofs.YtpdegdnigcnjiaaGreatDoor

namespace Go.Proofs.YtpdegdnigcnjiaaGreatDoor
open Go
set_option linter.unusedVariables false
set_option linter.unusedSimpArgs false

abbrev slV (s : Slc) : Value := Value.slice s.ptr s.len s.cap
theorem St.inner {w0 : Base} {w : World} {a b c l : List Chunk} (h : St w0 (c ++ (a ++ (b ++ l))) w) : St w0 (c ++ (b ++ (a ++ l))) w := h.perm ((List.perm_append_comm_assoc a b l).append_left c)
theorem St.rot {w0 : Base} {w : World} {a l : List Chunk} (h : St w0 (a ++ l) w) : St w0 (l ++ a) w := h.perm List.perm_append_comm
theorem St.skip2 {w0 : Base} {w : World} {a b l : List Chunk} (h : St w0 (a ++ (b ++ l)) w) : St w0 (a ++ l) w := h.sub (List.Sublist.append (List.Sublist.refl a) (List.sublist_append_right b l))
theorem St.skip3 {w0 : Base} {w : World} {a b c l : List Chunk} (h : St w0 (a ++ (b ++ (c ++ l))) w) : St w0 (a ++ (b ++ l)) w := h.sub (List.Sublist.append (List.Sublist.refl a) (List.Sublist.append (List.Sublist.refl b) (List.sublist_append_right c l)))
/-- What was made since a later world, beside what was there. -/
theorem St.join {w0 : Base} {w1 w2 : World} {a l : List Chunk} (h : St w0 l w1) (h2 : St ⟨w1, []⟩ a w2) : St w0 (a ++ l) w2 := by
  have h' := h.keep h2.ext
  have hs := h.ext.size
  refine ⟨h'.ext, fun p hp => ?_, fun p hp => ?_, ?_, h'.mps⟩
  · rcases List.mem_append.1 hp with hp | hp
    · exact h2.blk p hp
    · exact h'.blk p hp
  · rcases List.mem_append.1 hp with hp | hp
    · have h3 : w1.heap.size ≤ p.1 := h2.own p hp
      omega
    · exact h'.own p hp
  · rw [List.map_append, List.nodup_append]
    refine ⟨h2.nodup, h.nodup, fun x hx y hy e => ?_⟩
    obtain ⟨p, hp, rfl⟩ := List.mem_map.1 hx
    obtain ⟨q, hq, rfl⟩ := List.mem_map.1 hy
    have h1 : w1.heap.size ≤ p.1 := h2.own p hp
    have h3 := (h.blk q hq).lt
    omega
/-- A plain block: nothing of it is frozen. -/
def Plain (w : World) (b : Nat) : Prop := ∀ o, w.frozen? ⟨b, o, none⟩ = false
theorem Plain.new {w w1 : World} {b : Nat} {vs : List Value} {T : TypeId} (hb : b = w.heap.size) (hw : w1 = w.alloc (.cells vs.toArray T (0, 0))) : Plain w1 b := by
  intro o
  subst hb; subst hw
  unfold World.frozen? World.alloc
  simp
theorem Plain.ext {w w1 : World} {b : Nat} (h : Plain w b) (e : Ext w w1) (hb : b < w.heap.size) : Plain w1 b := by
  intro o
  have := h o
  unfold World.frozen? at this ⊢
  have e5 := e.block b hb
  simp only at this ⊢
  rw [e5]
  exact this

theorem srcN_pre {w : World} {s : Slc} {sz k : Nat} {src : List Value} (h : SrcAt w s sz src) (hk : k ≤ s.len) : SrcAtN w s k sz (src.take (k * sz)) := by
  obtain ⟨h1, h2⟩ := h.pre hk
  exact ⟨h1, h2⟩
theorem srcAt_newN {w w1 : World} {b : Nat} {T : TypeId} {vs : List Value} {n c sz : Nat} (hb : b = w.heap.size) (hw : w1 = w.alloc (.cells vs.toArray T (0, 0))) (hn : vs.length = n * sz) :
    SrcAt w1 ⟨some ⟨b, 0, none⟩, n, c⟩ sz vs := ⟨hn, .inr ⟨rfl, (Blk.new hb hw).all⟩⟩

section
variable {sz : Nat} {s : Slc} {xs : List Value} {bs l : List Chunk} {w0 : Base} {w : World}
theorem Slc.cut_len {lo hi mx : Int} (h0 : 0 ≤ lo) (h1 : lo ≤ hi) : (Slc.cut sz s lo hi mx).len = hi.toNat - lo.toNat := by unfold Slc.cut; rfl
/-- copy(x[lo:], ..) of things of some cells. -/
theorem RowC.overN {lo m : Nat} {src : List Value} {hi mx : Int} {K : World → Prop} (h : RowC sz s xs bs) (st : St w0 (bs ++ l) w) (hm : src.length = m * sz) (hm0 : 0 < m) (hz : 0 < sz) (h1 : lo + m ≤ s.len) (hh : hi = ((s.len : Nat) : Int)) (hx : mx = ((s.cap : Nat) : Int)) (ho : oneCells src = true)
    (hK : ∀ bs' w', RowC sz s (xs.take (lo * sz) ++ src ++ xs.drop (lo * sz + src.length)) bs' → St w0 (bs' ++ l) w' → K w') : CopyW (Slc.cut sz s (lo : Int) hi mx) src w K := by
  subst hh; subst hx
  have hpos : 0 < src.length := by rw [hm]; exact Nat.mul_pos hm0 hz
  rcases h with ⟨hp, hl, hcz, rfl, rfl⟩ | ⟨b, pre, rest, suf, hp, rfl, hx, hr, hle⟩
  · omega
  · have hptr : (Slc.cut sz s (lo : Int) ((s.len : Nat) : Int) ((s.cap : Nat) : Int)).ptr = some ⟨b, pre.length + lo * sz, none⟩ := by
      unfold Slc.cut
      simp only [Int.toNat_natCast]
      rw [if_neg (by omega), hp]
      simp [addr_add]
    right
    rw [hptr]
    have hle2 : (lo + m) * sz ≤ s.len * sz := Nat.mul_le_mul_right _ h1
    rw [Nat.add_mul] at hle2
    have e0 : xs = xs.take (lo * sz) ++ ((xs.drop (lo * sz)).take src.length ++ xs.drop (lo * sz + src.length)) := by
      conv => lhs; rw [← List.take_append_drop (lo * sz) xs, ← List.take_append_drop src.length (xs.drop (lo * sz)), List.drop_drop]
    refine ⟨rfl, st.writable 0 rfl (by show pre.length + lo * sz + src.length ≤ _; simp; omega), ho, fun w' hw => ?_⟩
    have hn := st.put0 hw
    have e1 : pre ++ (xs ++ (rest ++ suf)) = (pre ++ xs.take (lo * sz)) ++ (xs.drop (lo * sz)).take src.length ++ (xs.drop (lo * sz + src.length) ++ (rest ++ suf)) := by
      conv => lhs; rw [e0]
      simp only [List.append_assoc]
    have e2 : poff (some ⟨b, pre.length + lo * sz, none⟩ : Option Addr) = (pre ++ xs.take (lo * sz)).length := by
      show pre.length + lo * sz = _
      rw [List.length_append, List.length_take]; omega
    rw [e1, e2, putL_append _ _ _ _ (by rw [List.length_take, List.length_drop]; omega)] at hn
    refine hK [(b, pre ++ ((xs.take (lo * sz) ++ src ++ xs.drop (lo * sz + src.length)) ++ (rest ++ suf)))] w' (.inr ⟨b, pre, rest, suf, hp, rfl, ?_, ?_, hle⟩) ?_
    · simp only [List.length_append, List.length_take, List.length_drop]; omega
    · simp only [List.length_append, List.length_take, List.length_drop]; omega
    · have e3 : pre ++ ((xs.take (lo * sz) ++ src ++ xs.drop (lo * sz + src.length)) ++ (rest ++ suf)) = (pre ++ xs.take (lo * sz)) ++ src ++ (xs.drop (lo * sz + src.length) ++ (rest ++ suf)) := by simp only [List.append_assoc]
      rw [e3]; exact hn
theorem RowC.trim {ps ds : List Value} (h : RowC sz s (ps ++ ds) bs) (hp : ps.length = s.len * sz) : RowC sz s ps bs := by
  have hl := h.len
  rw [List.length_append] at hl
  have : ds = [] := List.eq_nil_of_length_eq_zero (by omega)
  rw [this, List.append_nil] at h
  exact h
/-- x[:n] with more of the room. -/
theorem RowC.extend {n : Nat} (h : RowC sz s xs bs) (h0 : s.len ≤ n) (h1 : n ≤ s.cap) (hc : 0 < s.cap) : ∃ js, js.length = (n - s.len) * sz ∧ RowC sz ⟨s.ptr, n, s.cap⟩ (xs ++ js) bs := by
  rcases h with ⟨hp, hl, hcz, rfl, rfl⟩ | ⟨b, pre, rest, suf, hp, rfl, hx, hr, hle⟩
  · omega
  · have hn : n * sz ≤ s.cap * sz := Nat.mul_le_mul_right _ h1
    have hl : s.len * sz ≤ n * sz := Nat.mul_le_mul_right _ h0
    have hsub : (n - s.len) * sz = n * sz - s.len * sz := Nat.sub_mul _ _ _
    refine ⟨rest.take ((n - s.len) * sz), by rw [List.length_take]; omega, .inr ⟨b, pre, rest.drop ((n - s.len) * sz), suf, hp, ?_, ?_, ?_, h1⟩⟩
    · congr 2
      conv => lhs; rw [← List.take_append_drop ((n - s.len) * sz) rest]
      simp only [List.append_assoc]
    · simp only [List.length_append, List.length_take]; show _ = n * sz; omega
    · simp only [List.length_append, List.length_take, List.length_drop]; show _ = s.cap * sz; omega
end
end Go.Proofs.YtpdegdnigcnjiaaGreatDoor

namespace Go.Proofs.YtpdegdnigcnjiaaGreatDoor
open Go
set_option linter.unusedVariables false
set_option linter.unusedSimpArgs false

theorem perm_of_sum {l l' : List Chunk} (h : ∀ f : Chunk → Nat, (l.map f).sum = (l'.map f).sum) : l.Perm l' := by
  classical
  refine List.perm_iff_count.2 fun a => ?_
  have key : ∀ l : List Chunk, List.count a l = (l.map fun x => if x = a then 1 else 0).sum := fun l => by
    induction l with
    | nil => rfl
    | cons x l ih =>
      rw [List.count_cons, ih, List.map_cons, List.sum_cons]
      by_cases hx : x = a
      · simp [hx]; omega
      · simp [hx]
  rw [key, key]
  exact h _
theorem St.weak {w0 : Base} {w : World} {l l' : List Chunk} (h : St w0 l w) (r : List Chunk) (p : l.Perm (r ++ l')) : St w0 l' w := (h.perm p).drop
/-- What was made since by a call that began anew. -/
theorem St.more {w0 : Base} {w1 w2 : World} {a l : List Chunk} (h : St w0 l w1) (h2 : St ⟨w1, []⟩ a w2) : St w0 (a ++ l) w2 := h.join h2
theorem stp_try {a b c : List Chunk} {x y : Chunk} {w0 : Base} {w : World} (h : St w0 (x :: (a ++ (y :: (b ++ c)))) w) : St w0 (b ++ (y :: (c ++ [x]))) w := h.weak a (perm_of_sum fun f_ => by simp only [List.map_append, List.map_cons, List.map_nil, List.sum_append, List.sum_cons, List.sum_nil, List.append_nil]; omega)
end Go.Proofs.YtpdegdnigcnjiaaGreatDoor

namespace Go.Proofs.YtpdegdnigcnjiaaGreatDoor
open Go
set_option linter.unusedVariables false
set_option linter.unusedSimpArgs false

theorem fdiv_pow (x k : Nat) : Int.fdiv (x : Int) (2 ^ k) = ((x / 2 ^ k : Nat) : Int) := by
  rw [← fdiv_nat, Int.natCast_pow]; rfl
theorem wrap64_nat (x : Nat) : IntKind.u64.wrap (x : Int) = ((x % 18446744073709551616 : Nat) : Int) := by rw [wrap_u64]; omega
theorem shl_nat {x : Nat} (k : Nat) : (x : Int) * 2 ^ k = ((x * 2 ^ k : Nat) : Int) := by
  rw [Int.natCast_mul, Int.natCast_pow]; rfl
def zz (x : Int) : Nat := if 0 ≤ x then (2 * x).toNat else (-2 * x - 1).toNat
def za (y : Nat) : Int := if y % 2 = 0 then (y / 2 : Nat) else -1 - (y / 2 : Nat)
theorem za_zz (x : Int) : za (zz x) = x := by unfold za zz; split <;> split <;> omega
theorem zz_za (y : Nat) : zz (za y) = y := by unfold za zz; split <;> split <;> omega
theorem zz_lt {x : Int} (h0 : -9223372036854775808 ≤ x) (h1 : x ≤ 9223372036854775807) : zz x < 18446744073709551616 := by unfold zz; split <;> omega
theorem za_bd {y : Nat} (h : y < 18446744073709551616) : -9223372036854775808 ≤ za y ∧ za y ≤ 9223372036854775807 := by unfold za; split <;> omega


end Go.Proofs.YtpdegdnigcnjiaaGreatDoor

namespace Go.Proofs.YtpdegdnigcnjiaaGreatDoor
open Go
set_option linter.unusedVariables false
set_option linter.unusedSimpArgs false

/-! ### Numbers as bytes -/
def varB : Nat → Nat → List UInt8
  | 0, _ => []
  | f + 1, n => if n < 128 then [UInt8.ofNat n] else UInt8.ofNat (n % 128 + 128) :: varB f (n / 128)
/-- A short number. -/
def varF (n : Nat) : List UInt8 := varB 10 n
def fixB : Nat → Nat → List UInt8
  | 0, _ => []
  | k + 1, n => UInt8.ofNat (n % 256) :: fixB k (n / 256)
theorem varB_len : ∀ (f n : Nat), (varB f n).length ≤ f
  | 0, _ => Nat.le_refl _
  | f + 1, n => by
    unfold varB
    split
    · simp
    · have := varB_len f (n / 128); simp; omega
theorem fixB_len : ∀ (k n : Nat), (fixB k n).length = k
  | 0, _ => rfl
  | k + 1, n => by rw [fixB, List.length_cons, fixB_len]
theorem ofNat_toNat {n : Nat} (h : n < 256) : ((UInt8.ofNat n).toNat : Int) = (n : Int) := by
  rw [UInt8.toNat_ofNat']; omega
theorem or_128 : ∀ x, x < 256 → x ||| 128 = x % 128 + 128 := by decide +kernel
theorem bV_ofNat {n : Nat} (h : n < 256) : bV (UInt8.ofNat n) = Value.int .u8 (n : Int) := by
  show Value.int .u8 ((UInt8.ofNat n).toNat : Int) = _
  rw [ofNat_toNat h]

section
variable {w0 : Base} {w : World} {fr bs : List Chunk}

theorem sp_Clone {s : Slc} {xs : List UInt8} {R : Slc → World → Prop} (st : St w0 fr w) (hs : SrcAt w s 1 (xs.map bV)) (hl : s.len ≤ 140737488351232)
    (k : ∀ s' rb w', RowC 1 s' (xs.map bV) rb → St w0 (rb ++ fr) w' → s'.len = xs.length → R s' w') : C_slices_Clone_byte_byte s w R := by
  apply S_slices_Clone_byte_byte
  unfold F_slices_Clone_byte_byte
  have hlen := hs.len_eq
  refine ⟨fun h => ?_, fun h => fun b w1 hb hw => ?_⟩
  · have hp : s.ptr = none := by simpa using h
    have : xs = [] := by
      obtain ⟨_, h2 | ⟨h2, _⟩⟩ := hs
      · simpa using h2
      · rw [hp] at h2; cases h2
    subst this
    exact k _ [] _ RowC.nil st rfl
  · have st := st.alloc hb hw
    refine ⟨_, (Ext.new hw).src hs, ?_⟩
    refine (RowC.new (b := b) (xs := []) (n := 0) rfl : RowC 1 ⟨some ⟨b, 0, none⟩, 0, 0⟩ [] [(b, [])]).append st (by simp [hlen]) (by simp [oneCells, oneCell, bV]) rfl (by show (0 + s.len) * 1 ≤ _; omega) fun s' rb w' r st hl' => k _ _ _ r st (by rw [hl']; show 0 + s.len = _; omega)
end
end Go.Proofs.YtpdegdnigcnjiaaGreatDoor

namespace Go.Proofs.YtpdegdnigcnjiaaGreatDoor
open Go
def mkS (l : List UInt8) : ByteArray := ⟨l.toArray⟩
theorem mkS_cells (l : List UInt8) : strCells (mkS l) = l.map bV := rfl
theorem mkS_data (s : ByteArray) : mkS s.data.toList = s := by unfold mkS; simp
theorem mkS_size (l : List UInt8) : (mkS l).size = l.length := by simp [mkS, ByteArray.size]
theorem mkS_toList (l : List UInt8) : (mkS l).data.toList = l := by simp [mkS]
end Go.Proofs.YtpdegdnigcnjiaaGreatDoor

namespace Go.Proofs.YtpdegdnigcnjiaaGreatDoor
open Go
set_option linter.unusedVariables false
set_option linter.unusedSimpArgs false
section
variable {w0 : Base} {w : World} {fr bs : List Chunk}

/-! ### Writers -/
def WrO (w_ : Option Addr) (xs : List UInt8) (bs : List Chunk) : Prop :=
  ∃ (b : Nat) (s : Slc) (rb : List Chunk), w_ = some ⟨b, 0, none⟩ ∧ RowC 1 s (xs.map bV) rb ∧ bs = (b, [Value.bool true, Value.slice s.ptr s.len s.cap]) :: rb

variable {wr : Option Addr} {xs : List UInt8}
theorem sp_NewWriter {R : Option Addr → World → Prop} (st : St w0 fr w) (k : ∀ r bs w', WrO r [] bs → St w0 (bs ++ fr) w' → R r w') : C_codec_NewWriter w R := by
  apply S_codec_NewWriter
  intro b w1 hb hw
  exact k _ _ _ ⟨b, ⟨none, 0, 0⟩, [], rfl, RowC.nil, rfl⟩ (st.alloc hb hw)

theorem sp_Writer_gone {R : Bool → World → Prop} (st : St w0 (bs ++ fr) w) (o : WrO wr xs bs) (k : R false w) : C_codec_Writer_gone wr w R := by
  apply S_codec_Writer_gone
  obtain ⟨b, s, rb, rfl, r, rfl⟩ := o
  exact ⟨fun h => (by cases h), fun _ => ⟨rfl, true, st.cell 0 rfl rfl, k⟩⟩

theorem one_str (s : ByteArray) : oneCells (strCells s) = true := by
  unfold strCells oneCells
  rw [List.all_map]
  exact List.all_eq_true.2 fun _ _ => rfl
/-- One byte more, as the writer's methods put it. -/
theorem wr_push {b : Nat} {s : Slc} {rb : List Chunk} {x : UInt8} {v : Value} {T : TypeId} {w1 : World} {b2 : Nat} {K : Slc → World → Prop} (st : St w0 ((b, [Value.bool true, Value.slice s.ptr s.len s.cap]) :: (rb ++ fr)) w) (r : RowC 1 s (xs.map bV) rb)
    (hl : xs.length + 1 ≤ 140737488351232) (hv : v = bV x) (hb : b2 = w.heap.size) (hw : w1 = w.alloc (Obj.cells [v].toArray T (0, 0)))
    (k : ∀ s' w2, (b = b) → Writable w2 b 1 1 → (∀ w3, w3 = World.puts b 1 [Value.slice s'.ptr s'.len s'.cap] w2 → ∃ bs', WrO (some ⟨b, 0, none⟩) (xs ++ [x]) bs' ∧ St w0 (bs' ++ fr) w3) → K s' w2) :
    ∃ src, SrcAt w1 (Slc.mk (some ⟨b2, 0, none⟩) 1 1) 1 src ∧ AppendW 1 1 T [Value.int .u8 0] s src 1 w1 K := by
  subst hv
  refine ⟨_, srcAt_new hb hw rfl, ?_⟩
  have st1 := (st.alloc hb hw).drop1
  have hsl := r.len
  rw [List.length_map] at hsl
  refine r.append (l := (b, [Value.bool true, Value.slice s.ptr s.len s.cap]) :: fr) (by exact st1.swap (a := [(b, [Value.bool true, Value.slice s.ptr s.len s.cap])])) rfl rfl rfl (by omega) fun s' rb' w2 r' st' hl' => ?_
  refine k s' w2 rfl ((st'.swap (b := [(b, _)])).writable 0 rfl (by simp)) fun w3 hw3 => ⟨_, ⟨b, s', rb', rfl, by simpa using r', rfl⟩, ?_⟩
  exact (st'.swap (b := [(b, [Value.bool true, Value.slice s.ptr s.len s.cap])])).put0 hw3

theorem sp_Writer_Var {n : Nat} {R : World → Prop} (st : St w0 (bs ++ fr) w) (o : WrO wr xs bs) (hn : n < 2 ^ 64) (hl : xs.length + 20 ≤ 140737488351232)
    (k : ∀ bs' w', WrO wr (xs ++ varF n) bs' → St w0 (bs' ++ fr) w' → R w') : C_codec_Writer_Var wr (n : Int) w R := by
  apply S_codec_Writer_Var
  refine sp_Writer_gone st o ⟨fun h => (by cases h), fun _ => ?_⟩
  refine ⟨fun n1 w' => ∃ (m f : Nat) (pre : List UInt8) (bs : List Chunk), n1 = (m : Int) ∧ pre.length + f = 9 ∧ m < 128 ^ (f + 1) ∧ m < 2 ^ 64 ∧ pre ++ varB (f + 1) m = varF n ∧ WrO wr (xs ++ pre) bs ∧ St w0 (bs ++ fr) w', fun n1 _ => n1.toNat,
    ⟨n, 9, [], bs, rfl, rfl, by have : (2 : Nat) ^ 64 ≤ 128 ^ (9 + 1) := by decide
                                omega, hn, rfl, by simpa using o, st⟩, ?_⟩
  rintro n1 w1 ⟨m, f, pre, bs, rfl, hpf, hm, hm64, hpre, o, st⟩
  unfold F_codec_Writer_Var_L0
  obtain ⟨b, s, rb, rfl, r, rfl⟩ := o
  have e256 : IntKind.u8.wrap (m : Int) = ((m % 256 : Nat) : Int) := by rw [wrap_u8]; omega
  refine ⟨fun h => ?_, fun h => ?_⟩
  · have h := of_decide_eq_true h
    refine ⟨rfl, s, st.cell 0 rfl rfl, fun b2 w3 hb hw => ?_⟩
    refine wr_push (x := UInt8.ofNat (m % 128 + 128)) st r (by simp; omega) ?_ hb hw fun s' w4 _ hwr hput => ⟨rfl, hwr, fun w5 hw5 => ?_⟩
    · rw [bV_ofNat (by omega), e256, show (128 : Int) = ((128 : Nat) : Int) from rfl, bor_bare rfl (by show _ < 256; omega) (by decide), or_128 _ (by omega)]
      congr 2
      omega
    · obtain ⟨bs', o', st'⟩ := hput w5 hw5
      have hd : Int.fdiv (m : Int) (2 ^ 7) = ((m / 128 : Nat) : Int) := fdiv_nat m 128
      rw [hd]
      have hf : f ≠ 0 := fun e => by subst e; simp at hm; omega
      obtain ⟨f, rfl⟩ := Nat.exists_eq_succ_of_ne_zero hf
      refine ⟨⟨m / 128, f, pre ++ [UInt8.ofNat (m % 128 + 128)], bs', rfl, by simp; omega, ?_, by omega, ?_, by simpa using o', st'⟩, by show Int.toNat _ < Int.toNat _; omega⟩
      · rw [Nat.div_lt_iff_lt_mul (by omega)]
        rw [Nat.pow_succ] at hm
        exact hm
      · rw [← hpre]
        conv => rhs; rw [varB, if_neg (by omega)]
        simp
  · have h := of_decide_eq_false h
    refine ⟨rfl, s, st.cell 0 rfl rfl, fun b2 w3 hb hw => ?_⟩
    refine wr_push (x := UInt8.ofNat m) st r (by simp; omega) ?_ hb hw fun s' w4 _ hwr hput => ⟨rfl, hwr, fun w5 hw5 => ?_⟩
    · rw [bV_ofNat (by omega), e256]
      congr 2
      omega
    · obtain ⟨bs', o', st'⟩ := hput w5 hw5
      rw [varB, if_pos (by omega)] at hpre
      rw [List.append_assoc, hpre] at o'
      exact k _ _ o' st'

theorem sp_Writer_Text {s : ByteArray} {R : World → Prop} (st : St w0 (bs ++ fr) w) (o : WrO wr xs bs) (hl : xs.length + s.size + 40 ≤ 140737488351232)
    (k : ∀ bs' w', WrO wr (xs ++ (varF s.size ++ s.data.toList)) bs' → St w0 (bs' ++ fr) w' → R w') : C_codec_Writer_Text wr s w R := by
  apply S_codec_Writer_Text
  refine sp_Writer_gone st o ⟨fun h => (by cases h), fun _ => ?_⟩
  rw [show IntKind.u64.wrap ((s.size : Nat) : Int) = ((s.size : Nat) : Int) from u64_in _ (by omega) (by omega)]
  refine sp_Writer_Var st o (by omega) (by omega) fun bs w2 o st => ?_
  obtain ⟨b, sl, rb, rfl, r, rfl⟩ := o
  have hv := varB_len 10 s.size
  have hsl := r.len
  simp only [List.length_map, List.length_append] at hsl
  refine ⟨rfl, sl, st.cell 0 rfl rfl, ?_⟩
  have hsz : s.data.toList.length = s.size := by simp
  refine r.append (l := (b, [Value.bool true, Value.slice sl.ptr sl.len sl.cap]) :: fr) (by exact st.swap (a := [(b, [Value.bool true, Value.slice sl.ptr sl.len sl.cap])])) (by simp [strCells]) (one_str _) rfl (by unfold varF at hsl; omega) fun s' rb' w3 r' st' hl' => ?_
  refine ⟨rfl, (st'.swap (b := [(b, _)])).writable 0 rfl (by simp [poff]), fun w4 hw4 => k _ _ ⟨b, s', rb', rfl, ?_, rfl⟩ ((st'.swap (b := [(b, [Value.bool true, Value.slice sl.ptr sl.len sl.cap])])).put0 (o := 1) hw4)⟩
  have e : strCells s = s.data.toList.map bV := rfl
  rw [← List.append_assoc, List.map_append, ← e]
  exact r'

theorem sp_Writer_Fixed {n : Nat} {width : Int} {R : Int → World → Prop} (st : St w0 (bs ++ fr) w) (o : WrO wr xs bs) (hn : n < 2 ^ 64) (hl : xs.length + 20 ≤ 140737488351232)
    (k1 : (width < 1 ∨ width > 8) → R 1 w) (k3 : 1 ≤ width → width ≤ 8 → 256 ^ width.toNat ≤ n → R 3 w)
    (k0 : 1 ≤ width → width ≤ 8 → n < 256 ^ width.toNat → ∀ bs' w', WrO wr (xs ++ fixB width.toNat n) bs' → St w0 (bs' ++ fr) w' → R 0 w') : C_codec_Writer_Fixed wr (n : Int) width w R := by
  apply S_codec_Writer_Fixed
  refine sp_Writer_gone st o ⟨fun h => (by cases h), fun _ => ⟨fun h => k1 (by simpa using h), fun h => ?_⟩⟩
  simp only [Bool.or_eq_false_iff, decide_eq_false_iff_not] at h
  obtain ⟨W, rfl⟩ := toN (show 0 ≤ width by omega)
  have h8 : IntKind.i64.wrap (8 * (W : Int)) = ((8 * W : Nat) : Int) := by rw [i64_in _ (by omega) (by omega)]; omega
  have hp : (2 : Nat) ^ (8 * W) = 256 ^ W := by rw [Nat.pow_mul]
  have hdiv : Int.fdiv (n : Int) (2 ^ (min (((8 * W : Nat) : Int).toNat) 64)) = ((n / 256 ^ W : Nat) : Int) := by
    rw [Int.toNat_natCast, Nat.min_eq_left (by omega), show ((2 : Int) ^ (8 * W)) = ((2 ^ (8 * W) : Nat) : Int) from by push_cast; rfl, fdiv_nat, hp]
  rw [h8, hdiv]
  rw [Int.toNat_natCast] at k3 k0
  have hpos : 0 < 256 ^ W := Nat.pow_pos (by omega)
  refine ⟨by omega, fun hh => k3 (by omega) (by omega) ?_, fun hh => ?_⟩
  · have hne : n / 256 ^ W ≠ 0 := fun e => by rw [e] at hh; simp at hh
    rcases Nat.lt_or_ge n (256 ^ W) with h3 | h3
    · exact absurd (Nat.div_eq_of_lt h3) hne
    · exact h3
  have hlt : n < 256 ^ W := by
    have h4 : n / 256 ^ W = 0 := by
      have : ((n / 256 ^ W : Nat) : Int) = 0 := by simpa using hh
      omega
    rcases Nat.lt_or_ge n (256 ^ W) with h3 | h3
    · exact h3
    · have := Nat.div_pos h3 hpos; omega
  have k0 := k0 (by omega) (by omega) hlt
  refine ⟨fun n1 t w' => ∃ (m j : Nat) (pre : List UInt8) (bs : List Chunk), n1 = (m : Int) ∧ t = ((W - j : Nat) : Int) ∧ j ≤ W ∧ m < 2 ^ 64 ∧ pre.length + j = W ∧ pre ++ fixB j m = fixB W n ∧ WrO wr (xs ++ pre) bs ∧ St w0 (bs ++ fr) w', fun _ t _ => W - t.toNat,
    ⟨n, W, [], bs, rfl, by simp, Nat.le_refl _, hn, by simp, rfl, by simpa using o, st⟩, ?_⟩
  rintro n1 t w1 ⟨m, j, pre, bs, rfl, rfl, hj, hm, hpj, hpre, o, st⟩
  unfold F_codec_Writer_Fixed_L0
  refine ⟨fun h => ?_, fun h => ?_⟩
  · have h := of_decide_eq_true h
    have hj0 : j ≠ 0 := fun e => by subst e; omega
    obtain ⟨j, rfl⟩ := Nat.exists_eq_succ_of_ne_zero hj0
    obtain ⟨b, s, rb, rfl, r, rfl⟩ := o
    have e256 : IntKind.u8.wrap (m : Int) = ((m % 256 : Nat) : Int) := by rw [wrap_u8]; omega
    refine ⟨rfl, s, st.cell 0 rfl rfl, fun b2 w3 hb hw => ?_⟩
    refine wr_push (x := UInt8.ofNat (m % 256)) st r (by simp; omega) ?_ hb hw fun s' w4 _ hwr hput => ⟨rfl, hwr, fun w5 hw5 => ?_⟩
    · rw [bV_ofNat (by omega), e256]
    · obtain ⟨bs', o', st'⟩ := hput w5 hw5
      have hd : Int.fdiv (m : Int) (2 ^ 8) = ((m / 256 : Nat) : Int) := fdiv_nat m 256
      have wt : IntKind.i64.wrap (((W - (j + 1) : Nat) : Int) + 1) = ((W - j : Nat) : Int) := by rw [i64_in _ (by omega) (by omega)]; omega
      rw [hd, wt]
      refine ⟨⟨m / 256, j, pre ++ [UInt8.ofNat (m % 256)], bs', rfl, rfl, by omega, by omega, by simp; omega, ?_, by simpa using o', st'⟩, by show _ - _ < _ - _; omega⟩
      rw [← hpre]
      conv => rhs; rw [fixB]
      simp
  · have h := of_decide_eq_false h
    obtain rfl : j = 0 := by omega
    rw [fixB, List.append_nil] at hpre
    rw [hpre] at o
    exact k0 _ _ o st

theorem sp_Writer_Done {R : Slc → World → Prop} (st : St w0 (bs ++ fr) w) (o : WrO wr xs bs) (hl : xs.length ≤ 140737488351232)
    (k : ∀ s rb w', RowC 1 s (xs.map bV) rb → St w0 (rb ++ (bs ++ fr)) w' → s.len = xs.length → R s w') : C_codec_Writer_Done wr w R := by
  apply S_codec_Writer_Done
  refine sp_Writer_gone st o ⟨fun h => (by cases h), fun _ => ?_⟩
  obtain ⟨b, s, rb, rfl, r, rfl⟩ := o
  have hsl := r.len
  rw [List.length_map] at hsl
  refine ⟨rfl, s, st.cell 0 rfl rfl, ?_⟩
  exact sp_Clone st (r.src (st.drop1 : St w0 (rb ++ fr) w)) (by omega) k
end

end Go.Proofs.YtpdegdnigcnjiaaGreatDoor

namespace Go.Proofs.YtpdegdnigcnjiaaGreatDoor
open Go
set_option linter.unusedVariables false
set_option linter.unusedSimpArgs false

section
variable {w0 : Base} {w : World} {fr bs : List Chunk}
theorem sp_SameBytes {a b : Slc} {xs ys : List UInt8} {R : Bool → World → Prop} (ha : SrcAt w a 1 (xs.map bV)) (hb : SrcAt w b 1 (ys.map bV)) (hl : a.len ≤ 4611686018427387904)
    (k : ∀ w', Ext w w' → R (decide (xs = ys)) w') : C_towpathlaw01_SameBytes a b w R := by
  apply S_towpathlaw01_SameBytes
  unfold F_towpathlaw01_SameBytes
  have la := ha.len_eq
  have lb := hb.len_eq
  refine ⟨fun h => ?_, fun h => ?_⟩
  · have h : xs.length ≠ ys.length := by
      rw [la, lb] at h
      have : (xs.length : Int) ≠ (ys.length : Int) := by simpa using h
      omega
    have := k w (Ext.refl _)
    rw [decide_eq_false (fun e => h (by rw [e]))] at this
    exact this
  have h : xs.length = ys.length := by
    rw [la, lb] at h
    have : (xs.length : Int) = (ys.length : Int) := by simpa using h
    omega
  refine ⟨fun i w' => Ext w w' ∧ 0 ≤ i ∧ i ≤ a.len ∧ ∀ j, j < i.toNat → xs[j]? = ys[j]?, fun i _ => a.len - i.toNat, ⟨Ext.refl _, by omega, by omega, fun j hj => by omega⟩, ?_⟩
  rintro i w1 ⟨e, h0, h1, hj⟩
  unfold F_towpathlaw01_SameBytes_L0
  refine ⟨fun hi => ?_, fun hi => ?_⟩
  · have hi := of_decide_eq_true hi
    obtain ⟨pa, x, hx, hc⟩ := (e.src ha).get h0 hi
    obtain ⟨pb, y, hy, hd⟩ := (e.src hb).get h0 (show i < ((b.len : Nat) : Int) by omega)
    have wi : IntKind.i64.wrap (i + 1) = i + 1 := wrap_next h0 hi (by omega)
    refine ⟨pa, h0, hi, _, hc, pb, h0, by omega, _, hd, fun w2 e2 => ⟨fun hne => ?_, fun heq => ?_⟩⟩
    · have hne : x ≠ y := fun e => by rw [e] at hne; simp at hne
      have := k w2 (e.trans e2)
      rw [decide_eq_false (fun e => hne (by rw [e, hy] at hx; exact (Option.some.inj hx).symm))] at this
      exact this
    · have heq : x = y := by
        have : (x.toNat : Int) = (y.toNat : Int) := by simpa using heq
        exact UInt8.toNat_inj.1 (by omega)
      rw [wi]
      refine ⟨⟨e.trans e2, by omega, by omega, fun j hjlt => ?_⟩, by show _ - _ < _ - _; omega⟩
      rw [toNat_next h0] at hjlt
      by_cases hji : j = i.toNat
      · rw [hji, hx, hy, heq]
      · exact hj j (by omega)
  · have hi := of_decide_eq_false hi
    have := k w1 e
    rw [decide_eq_true (List.ext_getElem? fun j => by
      by_cases hjl : j < xs.length
      · exact hj j (by omega)
      · rw [List.getElem?_eq_none (by omega), List.getElem?_eq_none (by omega)])] at this
    exact this

end
end Go.Proofs.YtpdegdnigcnjiaaGreatDoor

namespace Go.Proofs.YtpdegdnigcnjiaaGreatDoor
open Go
set_option linter.unusedVariables false
set_option linter.unusedSimpArgs false

def beyondF : Int → List Int → Bool
  | _, [] => false
  | n, x :: r => if IntKind.i64.wrap (n + x) > 1048576 then true else beyondF (IntKind.i64.wrap (n + x)) r

theorem sp_towpathlaw01_Beyond {s : Slc} {w : World} {R : Bool → World → Prop} {xs : List Int} (hs : SrcAt w s 1 (xs.map (Value.int .i64))) (hl : s.len ≤ 4611686018427387904)
    (h : R (beyondF 0 xs) w) : C_towpathlaw01_Beyond s w R := by
  apply S_towpathlaw01_Beyond
  unfold F_towpathlaw01_Beyond
  have hlen := hs.len_eq
  refine ⟨fun n i w' => w' = w ∧ 0 ≤ i ∧ i ≤ s.len ∧ beyondF n (xs.drop i.toNat) = beyondF 0 xs, fun n i w' => s.len - i.toNat, ⟨rfl, by omega, by omega, by simp⟩, ?_⟩
  rintro n i _ ⟨rfl, h0, h1, hb⟩
  unfold F_towpathlaw01_Beyond_L0
  refine ⟨fun hi => ?_, fun hi => ?_⟩
  · have hi := of_decide_eq_true hi
    obtain ⟨ha, x, hx, hc⟩ := hs.get h0 hi
    rw [drop_get hx, beyondF] at hb
    refine ⟨ha, h0, hi, x, hc, fun hg => ?_, fun hg => ?_⟩
    · rw [if_pos (of_decide_eq_true hg)] at hb
      rw [← hb] at h; exact h
    · rw [if_neg (of_decide_eq_false hg)] at hb
      have hw := wrap_next h0 hi hl
      refine ⟨⟨rfl, by omega, by omega, ?_⟩, by simp only [hw]; omega⟩
      rw [hw, toNat_next h0]; exact hb
  · have hi := of_decide_eq_false hi
    rw [drop_end (by omega), beyondF] at hb
    rw [← hb] at h; exact h

theorem beyond_one {x : Int} (h0 : 0 ≤ x) (h1 : x ≤ 140737488351232) : beyondF 0 [x] = decide (x > 1048576) := by
  unfold beyondF
  rw [i64_in _ (by omega) (by omega), Int.zero_add]
  by_cases h : x > 1048576
  · rw [if_pos h]; exact (decide_eq_true h).symm
  · rw [if_neg h]; exact (decide_eq_false h).symm
theorem beyond_two {x y : Int} (h0 : 0 ≤ x) (h1 : x ≤ 140737488351232) (h2 : 0 ≤ y) (h3 : y ≤ 140737488351232) : beyondF 0 [x, y] = decide (x + y > 1048576) := by
  unfold beyondF
  rw [i64_in (0 + x) (by omega) (by omega), Int.zero_add]
  by_cases h : x > 1048576
  · rw [if_pos h]; exact (decide_eq_true (by omega)).symm
  · rw [if_neg h]
    unfold beyondF
    rw [i64_in _ (by omega) (by omega)]
    by_cases h' : x + y > 1048576
    · rw [if_pos h']; exact (decide_eq_true h').symm
    · rw [if_neg h']; exact (decide_eq_false h').symm

/-- The one-element row that the call of Beyond is handed. -/
theorem beyond1 {w w1 : World} {b : Nat} {T : TypeId} {x : Nat} {R : Bool → World → Prop} (hb : b = w.heap.size) (hw : w1 = w.alloc (Obj.cells ([Value.int .i64 ((x : Nat) : Int)]).toArray T (0, 0)))
    (hx : x ≤ 140737488351232) (h : R (decide ((x : Int) > 1048576)) w1) : C_towpathlaw01_Beyond (Slc.mk (some ⟨b, 0, none⟩) 1 1) w1 R :=
  sp_towpathlaw01_Beyond (xs := [(x : Int)]) (srcAt_new hb hw rfl) (by show 1 ≤ _; omega) (by rw [beyond_one (by omega) (by omega)]; exact h)
theorem beyond2 {w w1 : World} {b : Nat} {T : TypeId} {x y : Nat} {R : Bool → World → Prop} (hb : b = w.heap.size) (hw : w1 = w.alloc (Obj.cells ([Value.int .i64 ((x : Nat) : Int), Value.int .i64 ((y : Nat) : Int)]).toArray T (0, 0)))
    (hx : x ≤ 140737488351232) (hy : y ≤ 140737488351232) (h : R (decide ((x : Int) + y > 1048576)) w1) : C_towpathlaw01_Beyond (Slc.mk (some ⟨b, 0, none⟩) 2 2) w1 R :=
  sp_towpathlaw01_Beyond (xs := [(x : Int), (y : Int)]) (srcAt_new hb hw rfl) (by show 2 ≤ _; omega) (by rw [beyond_two (by omega) (by omega) (by omega) (by omega)]; exact h)


end Go.Proofs.YtpdegdnigcnjiaaGreatDoor

namespace Go.Proofs.YtpdegdnigcnjiaaGreatDoor
open Go
set_option linter.unusedVariables false
set_option linter.unusedSimpArgs false

theorem beyond_s1 {v : Int} (h0 : 0 ≤ v) (h1 : v ≤ 400000000000000) (h : beyondF 0 [v] = false) : v ≤ 1048576 := by
  unfold beyondF at h
  rw [i64_in _ (by omega) (by omega), Int.zero_add] at h
  by_cases hv : v > 1048576
  · rw [if_pos hv] at h; cases h
  · omega
theorem beyond_s2 {v m : Int} (h0 : 0 ≤ v) (h1 : v ≤ 400000000000000) (h2 : 0 ≤ m) (h3 : m ≤ 400000000000000) (h : beyondF 0 [v, m] = false) : v + m ≤ 1048576 := by
  unfold beyondF at h
  rw [i64_in _ (by omega) (by omega), Int.zero_add] at h
  by_cases hv : v > 1048576
  · rw [if_pos hv] at h; cases h
  · rw [if_neg hv] at h
    unfold beyondF at h
    rw [i64_in _ (by omega) (by omega)] at h
    by_cases hv : v + m > 1048576
    · rw [if_pos hv] at h; cases h
    · omega
section
variable {w w1 : World} {b : Nat} {T : TypeId} {x y : Int}
theorem sp_BeyondS1 {R : Bool → World → Prop} (hb : b = w.heap.size) (hw : w1 = w.alloc (Obj.cells ([Value.int .i64 x]).toArray T (0, 0))) (h0 : 0 ≤ x) (h1 : x ≤ 400000000000000) (k : ∀ v, (v = false → x ≤ 1048576) → R v w1) :
    C_towpathlaw01_Beyond (Slc.mk (some ⟨b, 0, none⟩) 1 1) w1 R :=
  sp_towpathlaw01_Beyond (xs := [x]) (srcAt_new hb hw rfl) (by show 1 ≤ _; omega) (k _ (beyond_s1 h0 h1))
theorem sp_BeyondS2 {R : Bool → World → Prop} (hb : b = w.heap.size) (hw : w1 = w.alloc (Obj.cells ([Value.int .i64 x, Value.int .i64 y]).toArray T (0, 0))) (h0 : 0 ≤ x) (h1 : x ≤ 400000000000000) (h2 : 0 ≤ y) (h3 : y ≤ 400000000000000) (k : ∀ v, (v = false → x + y ≤ 1048576) → R v w1) :
    C_towpathlaw01_Beyond (Slc.mk (some ⟨b, 0, none⟩) 2 2) w1 R :=
  sp_towpathlaw01_Beyond (xs := [x, y]) (srcAt_new hb hw rfl) (by show 2 ≤ _; omega) (k _ (beyond_s2 h0 h1 h2 h3))
end
end Go.Proofs.YtpdegdnigcnjiaaGreatDoor

namespace Go.Proofs.YtpdegdnigcnjiaaGreatDoor
open Go
set_option linter.unusedVariables false
set_option linter.unusedSimpArgs false

abbrev Wr := T_api_Write
def wV (x : Wr) : List Value := [Value.string x.Key, Value.string x.Val, Value.bool x.Drop]
def goodW (x : Wr) : Prop := 1 ≤ x.Key.size ∧ x.Key.size ≤ 64 ∧ x.Val.size ≤ 1024 ∧ (x.Drop = true → x.Val.size = 0)
instance (x : Wr) : Decidable (goodW x) := inferInstanceAs (Decidable (_ ∧ _))
def okT (n : Int) (ws : List Wr) : Prop := 1 ≤ n ∧ n ≤ 65536 ∧ ws.length ≤ 32 ∧ ∀ x ∈ ws, goodW x
instance (n : Int) (ws : List Wr) : Decidable (okT n ws) := inferInstanceAs (Decidable (_ ∧ _))
theorem size_empty (s : ByteArray) : (s.toList == ByteArray.empty.toList) = decide (s.size = 0) := by
  rw [ByteArray.toList_eq, ByteArray.toList_eq]
  have : s.data.toList.length = s.size := by simp
  cases h : s.data.toList with
  | nil => rw [h] at this; have h0 : s.size = 0 := by simpa using this.symm
           rw [h0]; rfl
  | cons c r => rw [h] at this; have h0 : ¬ s.size = 0 := by simp at this; omega
                rw [decide_eq_false h0]; rfl
section
variable {w0 w : World} {fr bs : List Chunk}
theorem sp_Check_1 {x : Wr} {R : Bool → World → Prop} (k : ∀ w', Ext w w' → R (!decide (goodW x)) w') : C_record_Check_1 x w R := by
  apply S_record_Check_1
  intro b w1 hb hw
  have kb := Blk.new hb hw
  have k := k w1 (Ext.new hw)
  refine ⟨x.Key, kb.cell rfl, fun h => ?_, fun h => ⟨x.Key, kb.cell rfl, fun h2 => ?_, fun h2 => ⟨x.Val, kb.cell rfl, fun h3 => ?_, fun h3 => ⟨x.Drop, kb.cell rfl, fun h4 => ⟨x.Val, kb.cell rfl, ?_⟩, fun h4 => ?_⟩⟩⟩⟩
  · rw [size_empty, decide_eq_true_eq] at h
    rw [decide_eq_false (fun hg => by have := hg.1; omega)] at k; exact k
  · have h2 := of_decide_eq_true h2
    rw [decide_eq_false (fun hg => by have := hg.2.1; omega)] at k; exact k
  · have h3 := of_decide_eq_true h3
    rw [decide_eq_false (fun hg => by have := hg.2.2.1; omega)] at k; exact k
  · rw [size_empty, decide_eq_false_iff_not] at h
    have h2 := of_decide_eq_false h2
    have h3 := of_decide_eq_false h3
    rw [size_empty]
    by_cases hv : x.Val.size = 0
    · rw [decide_eq_true (show goodW x from ⟨by omega, by omega, by omega, fun _ => hv⟩)] at k
      rw [decide_eq_true hv]; exact k
    · rw [decide_eq_false (fun hg => hv (hg.2.2.2 h4))] at k
      rw [decide_eq_false hv]; exact k
  · rw [size_empty, decide_eq_false_iff_not] at h
    have h2 := of_decide_eq_false h2
    have h3 := of_decide_eq_false h3
    rw [decide_eq_true (show goodW x from ⟨by omega, by omega, by omega, fun h => by rw [h4] at h; cases h⟩)] at k; exact k

theorem wr_at {w : World} {s : Slc} {ws : List Wr} {i : Int} (h : SrcAt w s 3 (ws.flatMap wV)) (h0 : 0 ≤ i) (h1 : i < ((s.len : Nat) : Int)) :
    IsAt s.ptr ∧ ∃ x, ws[i.toNat]? = some x ∧ CellsAt w (pblk s.ptr) (poff s.ptr + i.toNat * 3) (wV x) := SrcAt.getN h (fun _ => rfl) (by decide) h0 h1
theorem wr_len {w : World} {s : Slc} {ws : List Wr} (h : SrcAt w s 3 (ws.flatMap wV)) : s.len = ws.length := by
  have := h.1
  have hf : ∀ x : Wr, (wV x).length = 3 := fun _ => rfl
  rw [flatMap_len hf] at this
  exact (Nat.eq_of_mul_eq_mul_right (by decide) this).symm

theorem sp_Contains {s : Slc} {ws : List Wr} {R : Bool → World → Prop} (hs : SrcAt w s 3 (ws.flatMap wV)) (hl : s.len ≤ 140737488351232)
    (k : ∀ w', Ext w w' → R (!decide (∀ x ∈ ws, goodW x)) w') : C_slices_ContainsFunc_api_Write_api_Write s (Value.func (.func 197) #[] #[]) w R := by
  apply S_slices_ContainsFunc_api_Write_api_Write
  apply S_slices_IndexFunc_api_Write_api_Write
  have hlen := wr_len hs
  refine ⟨fun i w' => Ext w w' ∧ 0 ≤ i ∧ i ≤ s.len ∧ ∀ x ∈ ws.take i.toNat, goodW x, fun i _ => s.len - i.toNat, ⟨Ext.refl _, by omega, by omega, fun x hx => by simp at hx⟩, ?_⟩
  rintro i w1 ⟨e, h0, h1, hg⟩
  refine ⟨fun hi => ?_, fun hi => ?_⟩
  · have hi := of_decide_eq_true hi
    obtain ⟨a, x, hx, hc⟩ := wr_at (e.src hs) h0 hi
    refine ⟨a, h0, hi, x, hc, CallsV.mk (all := #[Value.agg #[Value.string x.Key, Value.string x.Val, Value.bool x.Drop]]) (by kernel_rfl) rfl ?_⟩
    refine sp_Check_1 fun w2 e2 => ⟨fun hb => ?_, fun hb => ?_⟩
    · have hb : ¬ goodW x := by simpa using hb
      have := k w2 (e.trans e2)
      rw [decide_eq_false (fun hh => hb (hh x (List.mem_of_getElem? hx)))] at this
      show R (decide (i ≥ 0)) w2
      rw [decide_eq_true (show i ≥ 0 from h0)]; exact this
    · have hb : goodW x := by simpa using hb
      rw [wrap_next h0 hi (by omega)]
      refine ⟨⟨e.trans e2, by omega, by omega, fun y hy => ?_⟩, by show s.len - (i + 1).toNat < s.len - i.toNat; omega⟩
      rw [toNat_next h0, List.take_add_one, hx] at hy
      rcases List.mem_append.1 hy with hy | hy
      · exact hg y hy
      · have : y = x := by simpa using hy
        subst this; exact hb
  · have hi := of_decide_eq_false hi
    have := k w1 e
    rw [List.take_of_length_le (by omega)] at hg
    rw [decide_eq_true hg] at this
    exact this

theorem sp_Check {t : T_api_Txn} {ws : List Wr} {R : Int → World → Prop} (hs : SrcAt w t.Writes 3 (ws.flatMap wV)) (hl : t.Writes.len ≤ 140737488351232)
    (k : ∀ w', Ext w w' → R (if okT t.Number ws then 0 else 1) w') : C_record_Check t w R := by
  apply S_record_Check
  intro b w1 hb hw
  have kb := Blk.new hb hw
  have e1 : Ext w w1 := Ext.new hw
  have hlen := wr_len hs
  have bad : ¬ okT t.Number ws → F_record_Check_k0 R true w1 := fun h => by
    unfold F_record_Check_k0
    have := k w1 e1
    rw [if_neg h] at this
    exact ⟨fun _ => this, fun h => (by cases h)⟩
  refine ⟨t.Number, kb.cell rfl, fun h => bad fun hg => ?_, fun h => ⟨t.Number, kb.cell rfl, fun h2 => bad fun hg => ?_, fun h2 => ⟨t.Writes, kb.cell rfl, fun h3 => bad fun hg => ?_, fun h3 => ⟨t.Writes, kb.cell rfl, ?_⟩⟩⟩⟩
  · have h := of_decide_eq_true h
    have := hg.1; omega
  · have h2 := of_decide_eq_true h2
    have := hg.2.1; omega
  · have h3 := of_decide_eq_true h3
    have := hg.2.2.1; omega
  · have h := of_decide_eq_false h
    have h2 := of_decide_eq_false h2
    have h3 := of_decide_eq_false h3
    refine sp_Contains (e1.src hs) hl fun w2 e2 => ?_
    have := k w2 (e1.trans e2)
    unfold F_record_Check_k0
    refine ⟨fun hb => ?_, fun hb => ?_⟩
    · have hb : ¬ ∀ x ∈ ws, goodW x := by simpa using hb
      rw [if_neg (fun hg => hb hg.2.2.2)] at this; exact this
    · have hb : ∀ x ∈ ws, goodW x := by simpa using hb
      rw [if_pos ⟨by omega, by omega, by omega, hb⟩] at this; exact this

end
end Go.Proofs.YtpdegdnigcnjiaaGreatDoor

namespace Go.Proofs.YtpdegdnigcnjiaaGreatDoor
open Go
set_option linter.unusedVariables false
set_option linter.unusedSimpArgs false

def encW (x : Wr) : List UInt8 := (varF x.Key.size ++ x.Key.data.toList) ++ (fixB 1 (if x.Drop then 1 else 0) ++ (if x.Drop then [] else varF x.Val.size ++ x.Val.data.toList))
def encT (n : Int) (ws : List Wr) : List UInt8 := varF n.toNat ++ (varF ws.length ++ ws.flatMap encW)

theorem encW_len {x : Wr} (h : goodW x) : (encW x).length ≤ 1109 := by
  obtain ⟨h1, h2, h3, h4⟩ := h
  have a := varB_len 10 x.Key.size
  have b := varB_len 10 x.Val.size
  have c := fixB_len 1 (if x.Drop then 1 else 0)
  have d : x.Key.data.toList.length = x.Key.size := by simp
  have e : x.Val.data.toList.length = x.Val.size := by simp
  unfold encW
  rw [List.length_append, List.length_append, List.length_append, c, d]
  unfold varF
  split
  · simp only [List.length_nil]; omega
  · rw [List.length_append, e]; omega
theorem encWs_len : ∀ {ws : List Wr}, (∀ x ∈ ws, goodW x) → (ws.flatMap encW).length ≤ 1109 * ws.length
  | [], _ => by simp
  | x :: ws, h => by
    have h1 := encW_len (h x (List.mem_cons_self ..))
    have h2 := encWs_len fun y hy => h y (List.mem_cons_of_mem _ hy)
    rw [List.flatMap_cons, List.length_append, List.length_cons]; omega
theorem encT_len {n : Int} {ws : List Wr} (h : okT n ws) : (encT n ws).length ≤ 36000 := by
  obtain ⟨h1, h2, h3, h4⟩ := h
  have a := varB_len 10 n.toNat
  have b := varB_len 10 ws.length
  have c := encWs_len h4
  unfold encT varF
  rw [List.length_append, List.length_append]; omega

section
variable {w0 : Base} {w : World} {fr bs : List Chunk}
abbrev txV (n : Int) (s : Slc) : List Value := [Value.int .i64 n, Value.slice s.ptr s.len s.cap]
theorem sp_Encode {t : T_api_Txn} {ws : List Wr} {R : Slc → Int → World → Prop} (st : St w0 fr w) (hs : ∀ l w', St w0 (l ++ fr) w' → SrcAt w' t.Writes 3 (ws.flatMap wV)) (hl : t.Writes.len ≤ 140737488351232)
    (k1 : ¬ okT t.Number ws → ∀ w', St w0 fr w' → R ⟨none, 0, 0⟩ 1 w')
    (k0 : okT t.Number ws → ∀ s rb w', RowC 1 s ((encT t.Number ws).map bV) rb → St w0 (rb ++ fr) w' → s.len = (encT t.Number ws).length → R s 0 w') : C_record_Encode t w R := by
  apply S_record_Encode
  intro b w1 hb hw
  have hlen := wr_len (hs [] w st)
  have st1 := st.alloc hb hw
  refine ⟨t, (st1.get 0 rfl).all, sp_Check (hs [_] w1 st1) hl fun w2 e2 => ⟨fun h => ?_, fun h => ?_⟩⟩
  · have hok : ¬ okT t.Number ws := fun hh => by rw [if_pos hh] at h; simp at h
    rw [if_neg hok]
    exact k1 hok w2 (st1.keep e2).drop1
  have hok : okT t.Number ws := by
    by_cases hh : okT t.Number ws
    · exact hh
    · rw [if_neg hh] at h; simp at h
  have k0 := k0 hok
  have hel := encT_len hok
  obtain ⟨hn1, hn2, hn3, hn4⟩ := hok
  have st2 := st1.keep e2
  have cb : ∀ {o : Nat} {v : Value} {bsW : List Chunk} {w' : World}, (txV t.Number t.Writes)[o]? = some v → St w0 (bsW ++ ((b, txV t.Number t.Writes) :: fr)) w' → w'.cell? ⟨b, o, none⟩ = some v := fun hv st => st.unmid.cell 0 rfl hv
  refine sp_NewWriter st2 fun wr bsW w3 oW st => ⟨t.Number, cb rfl st, ?_⟩
  obtain ⟨n, hn⟩ := toN (show 0 ≤ t.Number by omega)
  have wn : IntKind.u64.wrap t.Number = (n : Int) := by rw [u64_in _ (by omega) (by omega)]; exact hn
  have wl : IntKind.u64.wrap (((t.Writes.len : Nat) : Int)) = ((ws.length : Nat) : Int) := by rw [u64_in _ (by omega) (by omega)]; omega
  have v1 := varB_len 10 n
  have v2 := varB_len 10 ws.length
  rw [wn]
  refine sp_Writer_Var st oW (by omega) (by simp) fun bsW w4 oW st => ⟨t.Writes, cb rfl st, ?_⟩
  rw [wl]
  refine sp_Writer_Var st oW (by omega) (by unfold varF; simp; omega) fun bsW w5 oW st => ⟨t.Writes, cb rfl st, ?_⟩
  rw [List.nil_append] at oW
  have hpre : (varF n ++ varF ws.length).length ≤ 20 := by unfold varF; rw [List.length_append]; omega
  refine ⟨fun i w' => 0 ≤ i ∧ i ≤ t.Writes.len ∧ ∃ bsW, WrO wr ((varF n ++ varF ws.length) ++ (ws.take i.toNat).flatMap encW) bsW ∧ St w0 (bsW ++ ((b, txV t.Number t.Writes) :: fr)) w', fun i _ => t.Writes.len - i.toNat,
    ⟨by omega, by omega, bsW, by simpa using oW, st⟩, ?_⟩
  rintro i w6 ⟨h0, h1, bsW, oW, st⟩
  have htk := encWs_len (ws := ws.take i.toNat) fun x hx => hn4 x (List.mem_of_mem_take hx)
  have htl : (ws.take i.toNat).length ≤ 32 := by rw [List.length_take]; omega
  have hcur : ((varF n ++ varF ws.length) ++ (ws.take i.toNat).flatMap encW).length ≤ 40000 := by rw [List.length_append]; omega
  unfold F_record_Encode_L0
  refine ⟨fun hi => ?_, fun hi => ?_⟩
  · have hi := of_decide_eq_true hi
    have wi := wrap_next h0 hi (by omega)
    have hsrc := hs (bsW ++ [(b, txV t.Number t.Writes)]) w6 (by simpa using st)
    obtain ⟨a, x, hx, hc⟩ := wr_at hsrc h0 hi
    obtain ⟨g1, g2, g3, g4⟩ := hn4 x (List.mem_of_getElem? hx)
    refine ⟨t.Writes, cb rfl st, a, h0, hi, x, hc, fun b1 w8 hb1 hw8 => ?_⟩
    have st8 := st.alloc hb1 hw8
    refine ⟨st8.writable 0 rfl (by simp), fun w9 hw9 => ?_⟩
    have st9 : St w0 ((b1, wV x) :: (bsW ++ ((b, txV t.Number t.Writes) :: fr))) w9 := st8.put0 hw9
    have stW : St w0 (bsW ++ ((b1, wV x) :: ((b, txV t.Number t.Writes) :: fr))) w9 := st9.mid
    have c1 : ∀ {o : Nat} {v : Value} {bsW : List Chunk} {w' : World}, (wV x)[o]? = some v → St w0 (bsW ++ ((b1, wV x) :: ((b, txV t.Number t.Writes) :: fr))) w' → w'.cell? ⟨b1, o, none⟩ = some v := fun hv st => st.unmid.cell 0 rfl hv
    have fin : ∀ {bsW : List Chunk} {w' : World}, WrO wr (((varF n ++ varF ws.length) ++ (ws.take i.toNat).flatMap encW) ++ encW x) bsW → St w0 (bsW ++ ((b1, wV x) :: ((b, txV t.Number t.Writes) :: fr))) w' →
        F_record_Encode_k1 i (fun i' w' => (0 ≤ i' ∧ i' ≤ t.Writes.len ∧ ∃ bsW, WrO wr ((varF n ++ varF ws.length) ++ (ws.take i'.toNat).flatMap encW) bsW ∧ St w0 (bsW ++ ((b, txV t.Number t.Writes) :: fr)) w') ∧ t.Writes.len - i'.toNat < t.Writes.len - i.toNat) w' := by
      intro bsW w' oW st
      unfold F_record_Encode_k1
      rw [wi]
      refine ⟨⟨by omega, by omega, bsW, ?_, st.unmid.drop1⟩, by omega⟩
      rw [toNat_next h0, List.take_add_one, hx, List.flatMap_append, ← List.append_assoc]
      simpa using oW
    have kd : x.Key.data.toList.length = x.Key.size := by simp
    have vk : (varF x.Key.size).length ≤ 10 := varB_len 10 x.Key.size
    have hcur2 := hcur
    simp only [List.length_append] at hcur2
    refine ⟨x.Key, c1 rfl stW, sp_Writer_Text stW oW (by omega) fun bsW w10 oW st => ⟨x.Drop, c1 rfl st, fun hd => ?_, fun hd => ?_⟩⟩
    · refine sp_Writer_Fixed (n := 1) st oW (by decide) (by simp only [List.length_append]; omega) (fun h => by omega) (fun _ _ h => absurd h (by decide)) fun _ _ _ bsW w11 oW st => fin ?_ st
      have : encW x = (varF x.Key.size ++ x.Key.data.toList) ++ fixB (1 : Int).toNat 1 := by unfold encW; rw [hd]; simp
      rw [this, ← List.append_assoc]; exact oW
    · refine sp_Writer_Fixed (n := 0) st oW (by decide) (by simp only [List.length_append]; omega) (fun h => by omega) (fun _ _ h => absurd h (by decide)) fun _ _ _ bsW w11 oW st => ⟨x.Val, c1 rfl st, ?_⟩
      have f1 := fixB_len (1 : Int).toNat 0
      refine sp_Writer_Text st oW (by simp only [List.length_append, f1]; show _ + _ + _ + (_ + _) + (1 : Int).toNat + _ + 40 ≤ _; rw [show (1 : Int).toNat = 1 from rfl]; omega) fun bsW w12 oW st => fin ?_ st
      have : encW x = (varF x.Key.size ++ x.Key.data.toList) ++ (fixB (1 : Int).toNat 0 ++ (varF x.Val.size ++ x.Val.data.toList)) := by unfold encW; rw [hd]; simp
      rw [this]
      simp only [List.append_assoc] at oW ⊢
      exact oW
  · have hi := of_decide_eq_false hi
    rw [List.take_of_length_le (by omega), List.append_assoc] at oW
    have e : varF n ++ (varF ws.length ++ ws.flatMap encW) = encT t.Number ws := by unfold encT; rw [hn]; rfl
    rw [e] at oW
    refine sp_Writer_Done st oW (by omega) fun s rb w14 ro st hsl => k0 s rb w14 ro ?_ hsl
    exact st.swap.drop.unmid.drop1
end

end Go.Proofs.YtpdegdnigcnjiaaGreatDoor

namespace Go.Proofs.YtpdegdnigcnjiaaGreatDoor
open Go
set_option linter.unusedVariables false
set_option linter.unusedSimpArgs false

theorem wV_len (x : Wr) : (wV x).length = 3 := rfl
theorem flatMap_w1 (v : Wr) : [v].flatMap wV = wV v := by rw [List.flatMap_cons, List.flatMap_nil, List.append_nil]
theorem ba_eqW (a b : ByteArray) : (a == b) = decide (a = b) := by
  cases a; cases b
  rename_i x y
  show (x == y) = _
  by_cases h : x = y
  · subst h; simp
  · rw [decide_eq_false (fun e => h (ByteArray.mk.inj e))]; simpa using h
instance decWr : DecidableEq Wr := fun x y =>
  if h : x.Key = y.Key ∧ x.Val = y.Val ∧ x.Drop = y.Drop then isTrue (by cases x; cases y; simp only at h; obtain ⟨h1, h2, h3⟩ := h; rw [h1, h2, h3]) else isFalse fun e => h (by rw [e]; exact ⟨rfl, rfl, rfl⟩)
theorem wr_eqW (x y : Wr) : (((x.Key == y.Key) && (x.Val == y.Val)) && (x.Drop == y.Drop)) = decide (x = y) := by
  rw [ba_eqW, ba_eqW, Bool.eq_iff_iff]
  simp only [Bool.and_eq_true, decide_eq_true_eq, beq_iff_eq]
  constructor
  · rintro ⟨⟨h1, h2⟩, h3⟩
    cases x; cases y
    simp only at h1 h2 h3
    rw [h1, h2, h3]
  · rintro rfl; exact ⟨⟨rfl, rfl⟩, rfl⟩
theorem wr_atN {w : World} {s : Slc} {ws : List Wr} {i : Nat} (h : SrcAt w s 3 (ws.flatMap wV)) (hp : i < s.len) : IsAt s.ptr ∧ ∃ x, ws[i]? = some x ∧ CellsAt w (pblk s.ptr) (poff s.ptr + i * 3) (wV x) := by
  have := wr_at (i := (i : Int)) h (by omega) (by omega)
  rw [Int.toNat_natCast] at this; exact this
end Go.Proofs.YtpdegdnigcnjiaaGreatDoor

namespace Go.Proofs.YtpdegdnigcnjiaaGreatDoor
open Go
set_option linter.unusedVariables false
set_option linter.unusedSimpArgs false

abbrev txW (n : Int) (s : Slc) : List Value := [Value.int .i64 n, Value.slice s.ptr s.len s.cap]
abbrev Tx := Int × List Wr
def chkL : Nat → List Tx → Int
  | _, [] => 0
  | i, t :: r => if okT t.1 t.2 then (if t.1 = (i : Int) then chkL (i + 1) r else 6) else 1
theorem chkL_zero : ∀ {ts : List Tx} {i : Nat}, chkL i ts = 0 → ∀ {k : Nat} {t : Tx}, ts[k]? = some t → okT t.1 t.2 ∧ t.1 = ((i + k : Nat) : Int)
  | [], _, _, k, t, h => by simp at h
  | x :: r, i, hc, k, t, h => by
    unfold chkL at hc
    by_cases h1 : okT x.1 x.2
    · rw [if_pos h1] at hc
      by_cases h2 : x.1 = (i : Int)
      · rw [if_pos h2] at hc
        cases k with
        | zero => have : x = t := by simpa using h
                  subst this; exact ⟨h1, h2⟩
        | succ k =>
          have h' : r[k]? = some t := by simpa using h
          obtain ⟨a, b⟩ := chkL_zero hc h'
          exact ⟨a, by rw [b]; omega⟩
      · rw [if_neg h2] at hc; cases hc
    · rw [if_neg h1] at hc; cases hc
theorem chkL_nn : ∀ (ts : List Tx) (i : Nat), chkL i ts = 0 ∨ chkL i ts = 1 ∨ chkL i ts = 6
  | [], _ => .inl rfl
  | x :: r, i => by
    unfold chkL
    split
    · split
      · exact chkL_nn r (i + 1)
      · exact .inr (.inr rfl)
    · exact .inr (.inl rfl)

/-- A list of transactions, as it lies in memory. -/
structure LAt (w : World) (sl : Slc) (ts : List Tx) (sls : List Slc) : Prop where
  len : ts.length = sls.length
  src : SrcAt w sl 2 ((ts.zip sls).flatMap fun p => txW p.1.1 p.2)
  wr : ∀ (i : Nat) (t : Tx) (s : Slc), ts[i]? = some t → sls[i]? = some s → SrcAt w s 3 (t.2.flatMap wV)
  cp : ∀ s ∈ sls, s.len ≤ s.cap ∧ s.len * 40 ≤ 140737488351232
theorem LAt.ext {w w' : World} {sl : Slc} {ts : List Tx} {sls : List Slc} (h : LAt w sl ts sls) (e : Ext w w') : LAt w' sl ts sls :=
  ⟨h.len, e.src h.src, fun i t s h1 h2 => e.src (h.wr i t s h1 h2), h.cp⟩
theorem LAt.slen {w : World} {sl : Slc} {ts : List Tx} {sls : List Slc} (h : LAt w sl ts sls) : sl.len = ts.length := by
  have := h.src.1
  rw [flatMap_len (sz := 2) (fun _ => rfl), List.length_zip, ← h.len, Nat.min_self] at this
  omega
theorem LAt.get {w : World} {sl : Slc} {ts : List Tx} {sls : List Slc} (h : LAt w sl ts sls) {p : Nat} (hp : p < sl.len) :
    IsAt sl.ptr ∧ ∃ t s, ts[p]? = some t ∧ sls[p]? = some s ∧ CellsAt w (pblk sl.ptr) (poff sl.ptr + p * 2) (txW t.1 s) ∧ SrcAt w s 3 (t.2.flatMap wV) ∧ s.len ≤ s.cap ∧ s.len * 40 ≤ 140737488351232 := by
  obtain ⟨a, x, hx, hc⟩ := SrcAt.getN h.src (fun _ => rfl) (by decide) (i := (p : Int)) (by omega) (by omega)
  rw [Int.toNat_natCast] at hx hc
  have hl := h.slen
  have hll := h.len
  have h1 : ts[p]? = some (ts[p]'(by omega)) := List.getElem?_eq_getElem (by omega)
  have h2 : sls[p]? = some (sls[p]'(by omega)) := List.getElem?_eq_getElem (by omega)
  rw [List.getElem?_zip_eq_some (z := (ts[p]'(by omega), sls[p]'(by omega))) |>.2 ⟨h1, h2⟩] at hx
  cases hx
  have hm := h.cp _ (List.mem_of_getElem? h2)
  exact ⟨a, _, _, h1, h2, hc, h.wr p _ _ h1 h2, hm.1, hm.2⟩

end Go.Proofs.YtpdegdnigcnjiaaGreatDoor

namespace Go.Proofs.YtpdegdnigcnjiaaGreatDoor
open Go
set_option linter.unusedVariables false
set_option linter.unusedSimpArgs false

theorem writes_in2 {w : World} {t : T_api_Txn} (h : Ok_T_api_Txn w t) : ∃ ws : List Wr, SrcAt w t.Writes 3 (ws.flatMap wV) ∧ t.Writes.len ≤ t.Writes.cap ∧ t.Writes.cap * 40 ≤ 140737488351232 ∧ ∀ x ∈ ws, x.Key.size ≤ 140737488351232 ∧ x.Val.size ≤ 140737488351232 := by
  obtain ⟨ws, h1, h2, h3, h4, h5⟩ := ok_list (f := wV) (Pr := fun x => x.Key.size ≤ 140737488351232 ∧ x.Val.size ≤ 140737488351232) h.2 (fun es ⟨e, h, h'⟩ => ⟨e, h, h'.1, h'.2.1⟩) (fun _ => rfl) (by decide)
  exact ⟨ws, h1, h2, h3, h5⟩
theorem lat_list {w : World} : ∀ {es : List T_api_Txn}, (∀ e ∈ es, Ok_T_api_Txn w e) → ∃ ts : List Tx, ts.length = es.length ∧ ((ts.zip (es.map (·.Writes))).flatMap fun p => txW p.1.1 p.2) = (es.flatMap fun e => txW e.Number e.Writes) ∧
    (∀ (i : Nat) (t : Tx) (s : Slc), ts[i]? = some t → (es.map (·.Writes))[i]? = some s → SrcAt w s 3 (t.2.flatMap wV)) ∧ ∀ s ∈ es.map (·.Writes), s.len ≤ s.cap ∧ s.len * 40 ≤ 140737488351232
  | [], _ => ⟨[], rfl, rfl, fun i t s h => by simp at h, fun s h => by simp at h⟩
  | e :: es, h => by
    obtain ⟨ts, h1, h2, h3, h4⟩ := lat_list (es := es) fun x hx => h x (List.mem_cons_of_mem _ hx)
    obtain ⟨ws, g1, g2, g3, g4⟩ := writes_in2 (h e (List.mem_cons_self ..))
    refine ⟨(e.Number, ws) :: ts, by simp [h1], ?_, fun i t s hi hs => ?_, fun s hs => ?_⟩
    · rw [List.map_cons, List.zip_cons_cons, List.flatMap_cons, List.flatMap_cons, h2]
    · cases i with
      | zero =>
        have a : (e.Number, ws) = t := by simpa using hi
        have b : e.Writes = s := by simpa using hs
        subst a; subst b; exact g1
      | succ i => exact h3 i t s (by simpa using hi) (by simpa using hs)
    · rw [List.map_cons] at hs
      rcases List.mem_cons.1 hs with rfl | hs
      · exact ⟨g2, by omega⟩
      · exact h4 s (by simpa using hs)
theorem lat_in {w : World} {s : Slc} (h : OkSl w s 2 32 (fun es => ∃ e_ : T_api_Txn, es = txW e_.Number e_.Writes ∧ (Ok_T_api_Txn w e_))) : ∃ ts sls, LAt w s ts sls ∧ s.len ≤ 4398046511104 := by
  obtain ⟨es, hs, hcl, hcap, hlen, hok⟩ := ok_list (f := fun t : T_api_Txn => txW t.Number t.Writes) h (fun es ⟨e, h, h'⟩ => ⟨e, h, h'⟩) (fun _ => rfl) (by decide)
  obtain ⟨ts, h1, h2, h3, h4⟩ := lat_list hok
  exact ⟨ts, es.map (·.Writes), ⟨by simp [h1], by rw [h2]; exact hs, h3, h4⟩, by omega⟩
end Go.Proofs.YtpdegdnigcnjiaaGreatDoor

namespace Go.Proofs.YtpdegdnigcnjiaaGreatDoor
open Go
set_option linter.unusedVariables false
set_option linter.unusedSimpArgs false

def szX (x : Wr) : Nat := x.Key.size + x.Val.size
def szW (ws : List Wr) : Nat := ws.length + (ws.map szX).sum
def szL (ts : List Tx) : Nat := ts.length + (ts.map fun t => 1 + szW t.2).sum
def SmallW (ws : List Wr) : Prop := ∀ x ∈ ws, x.Key.size ≤ 140737488351232 ∧ x.Val.size ≤ 140737488351232
theorem sum_snoc {α : Type} {f : α → Nat} {l : List α} {p : Nat} {x : α} (h : l[p]? = some x) : ((l.take (p + 1)).map f).sum = ((l.take p).map f).sum + f x := by
  rw [List.take_add_one, h]; simp
theorem szW_mem {ts : List Tx} {t : Tx} (h : t ∈ ts) : 1 + szW t.2 ≤ (ts.map fun t => 1 + szW t.2).sum := by
  induction ts with
  | nil => cases h
  | cons a r ih =>
    rw [List.map_cons, List.sum_cons]
    rcases List.mem_cons.1 h with rfl | h
    · omega
    · have := ih h; omega
theorem szW_one {ts : List Tx} {t : Tx} (h : t ∈ ts) : t.2.length ≤ szL ts := by
  have := szW_mem h
  unfold szL; unfold szW at this; unfold szW; omega

section
variable {w : World}
theorem sp_WritesSizeX {s : Slc} {ws : List Wr} {R : Int → World → Prop} (hs : SrcAt w s 3 (ws.flatMap wV)) (hl : s.len ≤ 3518437208880) (hb : SmallW ws)
    (k : ∀ v w', Ext w w' → 0 ≤ v → v ≤ 300000000000000 → (v ≤ 1048576 → v = ((szW ws : Nat) : Int)) → R v w') : C_towpathlaw01_WritesSize s w R := by
  have hlen := wr_len hs
  apply S_towpathlaw01_WritesSize
  refine ⟨fun n i w' => Ext w w' ∧ ∃ p : Nat, i = (p : Int) ∧ p ≤ s.len ∧ n = ((ws.length + ((ws.take p).map szX).sum : Nat) : Int) ∧ n ≤ 300000000000000, fun _ i _ => s.len - i.toNat, ⟨Ext.refl _, 0, rfl, by omega, by simp; omega, by omega⟩, ?_⟩
  rintro n i w2 ⟨e, p, rfl, hp, hn, hn2⟩
  unfold F_towpathlaw01_WritesSize_L0
  refine ⟨fun hi => ?_, fun hi => k _ _ e (by omega) hn2 fun hv => ?_⟩
  · simp only [Bool.and_eq_true, decide_eq_true_eq] at hi
    obtain ⟨pa, x, hx, hc⟩ := wr_at (e.src hs) (i := (p : Int)) (by omega) hi.1
    rw [Int.toNat_natCast] at hx
    have hxb := hb x (List.mem_of_getElem? hx)
    have hsn := sum_snoc (f := szX) hx
    have hsx : szX x = x.Key.size + x.Val.size := rfl
    refine ⟨pa, by omega, hi.1, x.Key, hc.1, pa, by omega, hi.1, x.Val, hc.2.1, fun w3 e3 => ?_⟩
    rw [wrap_next (by omega) hi.1 (by omega)]
    have w1 : IntKind.i64.wrap (n + ((x.Key.size : Nat) : Int)) = n + ((x.Key.size : Nat) : Int) := i64_in _ (by omega) (by omega)
    have w2' : IntKind.i64.wrap (n + ((x.Key.size : Nat) : Int) + ((x.Val.size : Nat) : Int)) = n + ((x.Key.size : Nat) : Int) + ((x.Val.size : Nat) : Int) := i64_in _ (by omega) (by omega)
    rw [w1, w2']
    exact ⟨⟨e.trans e3, p + 1, by omega, by omega, by rw [hsn]; omega, by omega⟩, by show _ - _ < _ - _; omega⟩
  · simp only [Bool.and_eq_false_iff, decide_eq_false_iff_not] at hi
    have : p = ws.length := by omega
    rw [hn, this, List.take_length]; rfl
theorem sp_TxnSizeX {t : T_api_Txn} {ws : List Wr} {R : Int → World → Prop} (hs : SrcAt w t.Writes 3 (ws.flatMap wV)) (hl : t.Writes.len ≤ 3518437208880) (hb : SmallW ws)
    (k : ∀ v w', Ext w w' → 0 ≤ v → v ≤ 300000000000001 → (v ≤ 1048576 → v = ((1 + szW ws : Nat) : Int)) → R v w') : C_towpathlaw01_TxnSize t w R := by
  apply S_towpathlaw01_TxnSize
  intro b w1 hb' hw
  have e1 : Ext w w1 := Ext.new hw
  refine ⟨t.Writes, (Blk.new hb' hw).cell rfl, ?_⟩
  refine sp_WritesSizeX (e1.src hs) hl hb fun v w2 e2 h0 h1 h2 => ?_
  have wv : IntKind.i64.wrap (1 + v) = 1 + v := i64_in _ (by omega) (by omega)
  rw [wv]
  exact k _ _ (e1.trans e2) (by omega) (by omega) fun h => by have := h2 (by omega); omega
end

end Go.Proofs.YtpdegdnigcnjiaaGreatDoor

namespace Go.Proofs.YtpdegdnigcnjiaaGreatDoor
open Go
set_option linter.unusedVariables false
set_option linter.unusedSimpArgs false

section
variable {w : World}
theorem sp_TxnsSizeX {sl : Slc} {ts : List Tx} {sls : List Slc} {R : Int → World → Prop} (ha : LAt w sl ts sls) (hl : sl.len ≤ 4398046511104) (hb : ∀ t ∈ ts, SmallW t.2)
    (k : ∀ v w', Ext w w' → 0 ≤ v → v ≤ 400000000000000 → (v ≤ 1048576 → v = ((szL ts : Nat) : Int)) → R v w') : C_towpathlaw01_TxnsSize sl w R := by
  have hsl := ha.slen
  apply S_towpathlaw01_TxnsSize
  refine ⟨fun n i w' => Ext w w' ∧ ∃ p : Nat, i = (p : Int) ∧ p ≤ sl.len ∧ n ≤ 400000000000000 ∧ 0 ≤ n ∧ (n ≤ 1048576 → n = ((ts.length + ((ts.take p).map fun t => 1 + szW t.2).sum : Nat) : Int)), fun _ i _ => sl.len - i.toNat, ⟨Ext.refl _, 0, rfl, by omega, by omega, by omega, fun _ => by simp; omega⟩, ?_⟩
  rintro n i w1 ⟨e, p, rfl, hp, hn2, hn0, hn⟩
  unfold F_towpathlaw01_TxnsSize_L0
  refine ⟨fun hi => ?_, fun hi => k _ _ e hn0 hn2 fun hv => ?_⟩
  · simp only [Bool.and_eq_true, decide_eq_true_eq] at hi
    obtain ⟨a, t, s, ht, hs, hct, hsr, hcp1, hcp2⟩ := (ha.ext e).get (p := p) (by omega)
    have hsn := sum_snoc (f := fun t : Tx => 1 + szW t.2) ht
    refine ⟨a, by omega, hi.1, ⟨t.1, s⟩, by rw [Int.toNat_natCast]; exact hct, sp_TxnSizeX (t := ⟨t.1, s⟩) hsr (by show s.len ≤ _; omega) (hb t (List.mem_of_getElem? ht)) fun v w2 e2 h0 h1 h2 => ?_⟩
    rw [wrap_next (by omega) hi.1 (by omega)]
    have wv : IntKind.i64.wrap (n + v) = n + v := i64_in _ (by omega) (by omega)
    rw [wv]
    exact ⟨⟨e.trans e2, p + 1, by omega, by omega, by omega, by omega, fun h => by
      have g1 := hn (by omega)
      have g2 := h2 (by omega)
      rw [hsn]; omega⟩, by show _ - _ < _ - _; omega⟩
  · simp only [Bool.and_eq_false_iff, decide_eq_false_iff_not] at hi
    have : p = ts.length := by omega
    rw [hn hv, this, List.take_length]; rfl
end
theorem small_list {w : World} : ∀ {es : List T_api_Txn}, (∀ e ∈ es, Ok_T_api_Txn w e) → ∃ ts : List Tx, ts.length = es.length ∧ ((ts.zip (es.map (·.Writes))).flatMap fun p => txW p.1.1 p.2) = (es.flatMap fun e => txW e.Number e.Writes) ∧
    (∀ (i : Nat) (t : Tx) (s : Slc), ts[i]? = some t → (es.map (·.Writes))[i]? = some s → SrcAt w s 3 (t.2.flatMap wV)) ∧ (∀ s ∈ es.map (·.Writes), s.len ≤ s.cap ∧ s.len * 40 ≤ 140737488351232) ∧ ∀ t ∈ ts, SmallW t.2
  | [], _ => ⟨[], rfl, rfl, fun i t s h => by simp at h, fun s h => by simp at h, fun t h => by simp at h⟩
  | e :: es, h => by
    obtain ⟨ts, h1, h2, h3, h4, h5⟩ := small_list (es := es) fun x hx => h x (List.mem_cons_of_mem _ hx)
    obtain ⟨ws, g1, g2, g3, g4⟩ := writes_in2 (h e (List.mem_cons_self ..))
    refine ⟨(e.Number, ws) :: ts, by simp [h1], ?_, fun i t s hi hs => ?_, fun s hs => ?_, fun t ht => ?_⟩
    · rw [List.map_cons, List.zip_cons_cons, List.flatMap_cons, List.flatMap_cons, h2]
    · cases i with
      | zero =>
        have a : (e.Number, ws) = t := by simpa using hi
        have b : e.Writes = s := by simpa using hs
        subst a; subst b; exact g1
      | succ i => exact h3 i t s (by simpa using hi) (by simpa using hs)
    · rw [List.map_cons] at hs
      rcases List.mem_cons.1 hs with rfl | hs
      · exact ⟨g2, by omega⟩
      · exact h4 s (by simpa using hs)
    · rcases List.mem_cons.1 ht with rfl | ht
      · exact g4
      · exact h5 t ht
theorem lat_inS {w : World} {s : Slc} (h : OkSl w s 2 32 (fun es => ∃ e_ : T_api_Txn, es = txW e_.Number e_.Writes ∧ (Ok_T_api_Txn w e_))) : ∃ ts sls, LAt w s ts sls ∧ s.len ≤ 4398046511104 ∧ s.len ≤ s.cap ∧ ∀ t ∈ ts, SmallW t.2 := by
  obtain ⟨es, hs, hcl, hcap, hlen, hok⟩ := ok_list (f := fun t : T_api_Txn => txW t.Number t.Writes) h (fun es ⟨e, h, h'⟩ => ⟨e, h, h'⟩) (fun _ => rfl) (by decide)
  obtain ⟨ts, h1, h2, h3, h4, h5⟩ := small_list hok
  exact ⟨ts, es.map (·.Writes), ⟨by simp [h1], by rw [h2]; exact hs, h3, h4⟩, by omega, hcl, h5⟩

end Go.Proofs.YtpdegdnigcnjiaaGreatDoor

namespace Go.Proofs.YtpdegdnigcnjiaaGreatDoor
open Go
set_option linter.unusedVariables false
set_option linter.unusedSimpArgs false

def spareW : Wr := ⟨ByteArray.mk #[115, 112, 97, 114, 101], ByteArray.empty, false⟩
/-- What TwinWrites hands back: the versions, with one more behind them, in a row of one's own. -/
def TwW (t : Slc) (xs : List Wr) (rb : List Chunk) : Prop := ∃ p c, t = ⟨p, xs.length, c⟩ ∧ RowC 3 ⟨p, xs.length + 1, c⟩ (xs.flatMap wV ++ wV spareW) rb

section
variable {w0 : Base} {w : World} {fr rb : List Chunk}
theorem wr_pre (xs : List Wr) (l : List Value) : (xs.flatMap wV ++ l).take (xs.length * 3) = xs.flatMap wV := List.take_left' (flatMap_len wV_len xs)
theorem TwW.len {t : Slc} {xs : List Wr} (h : TwW t xs rb) : t.len = xs.length := by obtain ⟨p, c, rfl, _⟩ := h; rfl
theorem TwW.src {t : Slc} {xs : List Wr} (h : TwW t xs rb) (st : St w0 (rb ++ fr) w) : SrcAt w t 3 (xs.flatMap wV) := by
  obtain ⟨p, c, rfl, r⟩ := h
  have := (r.src st).pre (k := xs.length) (by show _ ≤ xs.length + 1; omega)
  rw [wr_pre] at this
  exact this
theorem TwW.cap {t : Slc} {xs : List Wr} (h : TwW t xs rb) : t.len < t.cap := by
  obtain ⟨p, c, rfl, r⟩ := h
  have := r.cap_le
  exact this
theorem TwW.row {t : Slc} {xs : List Wr} (h : TwW t xs rb) : RowC 3 t (xs.flatMap wV) rb := by
  obtain ⟨p, c, rfl, r⟩ := h
  have hl := r.len
  have hc := r.cap_le
  have := r.cut (lo := 0) (hi := (xs.length : Int)) (mx := (c : Int)) (by omega) (by omega) (by show (xs.length : Int) ≤ ((xs.length + 1 : Nat) : Int); omega) (by have : xs.length + 1 ≤ c := hc; omega) (by show (c : Int) ≤ (c : Int); omega)
  have e : Slc.cut 3 ⟨p, xs.length + 1, c⟩ 0 (xs.length : Int) (c : Int) = ⟨p, xs.length, c⟩ := by
    unfold Slc.cut
    simp only [Int.toNat_natCast, Int.toNat_zero, Nat.sub_zero, Nat.zero_mul]
    have hc0 : c ≠ 0 := by have : xs.length + 1 ≤ c := hc; omega
    rcases r with ⟨hp, hl2, _⟩ | ⟨b, pre, rest, suf, hp, _⟩
    · exact absurd hl2 (by show xs.length + 1 ≠ 0; omega)
    · rw [if_neg hc0]
      have hp : p = some ⟨b, pre.length, none⟩ := hp
      rw [hp]; rfl
  rw [e] at this
  simp only [Int.toNat_natCast, Int.toNat_zero, Nat.sub_zero, Nat.zero_mul, List.drop_zero] at this
  rw [wr_pre] at this
  exact this

theorem sp_TwinW {s : Slc} {xs : List Wr} {R : Slc → World → Prop} (st : St w0 fr w) (hs : ∀ {l' : List Chunk} {w' : World}, St w0 (l' ++ fr) w' → SrcAt w' s 3 (xs.flatMap wV)) (hl : s.len ≤ 1099511627776)
    (k : ∀ t rb w', TwW t xs rb → St w0 (rb ++ fr) w' → R t w') : C_towpathlaw01_TwinWrites s w R := by
  apply S_towpathlaw01_TwinWrites
  unfold F_towpathlaw01_TwinWrites
  have hlen := wr_len (hs (l' := []) st)
  have hw1 : IntKind.i64.wrap (((s.len : Nat) : Int) + 1) = ((s.len + 1 : Nat) : Int) := by rw [i64_in _ (by omega) (by omega)]; omega
  rw [hw1, Int.toNat_natCast]
  refine ⟨by omega, by omega, by omega, fun b w1 hb hw => ?_⟩
  have st1 := st.alloc (cs := (repCells (s.len + 1) [Value.string ByteArray.empty, Value.string ByteArray.empty, Value.bool false]).toList) hb (by simpa using hw)
  have r1 : RowC 3 ⟨some ⟨b, 0, none⟩, 0, s.len + 1⟩ [] [(b, (repCells (s.len + 1) [Value.string ByteArray.empty, Value.string ByteArray.empty, Value.bool false]).toList)] := .inr ⟨b, [], (repCells (s.len + 1) [Value.string ByteArray.empty, Value.string ByteArray.empty, Value.bool false]).toList, [], rfl, by simp, rfl, by simp [repCells, List.length_flatten], by show 0 ≤ _; omega⟩
  refine ⟨fun t i w' => ∃ (p : Nat) (rb : List Chunk), i = (p : Int) ∧ p ≤ s.len ∧ RowC 3 t ((xs.take p).flatMap wV) rb ∧ t.len = p ∧ St w0 (rb ++ fr) w', fun t i w' => s.len - i.toNat, ⟨0, _, rfl, by omega, r1, rfl, st1⟩, ?_⟩
  rintro t i w2 ⟨p, rb, rfl, hp, r, ht, st⟩
  unfold F_towpathlaw01_TwinWrites_L0
  refine ⟨fun hi => ?_, fun hi => ?_⟩
  · have hi := of_decide_eq_true hi
    obtain ⟨a, v, hv, hc⟩ := wr_atN (hs st) (i := p) (by omega)
    have wp : IntKind.i64.wrap ((p : Int) + 1) = ((p + 1 : Nat) : Int) := by rw [i64_in _ (by omega) (by omega)]; omega
    refine ⟨a, by omega, hi, v, by rw [Int.toNat_natCast]; exact hc, fun b1 w3 hb1 hw3 => ⟨wV v, srcAt_newN hb1 hw3 rfl, ?_⟩⟩
    refine r.append (st.keep (Ext.new hw3)) rfl rfl rfl (by show (t.len + 1) * 40 ≤ _; omega) fun t' rb' w4 r' st' hl' => ?_
    rw [wp]
    refine ⟨⟨p + 1, rb', rfl, by omega, ?_, by omega, st'⟩, by show _ - _ < _ - _; omega⟩
    rw [List.take_add_one, hv, List.flatMap_append, show (some v).toList = [v] from rfl, flatMap_w1]
    exact r'
  · have hi := of_decide_eq_false hi
    rw [List.take_of_length_le (by omega)] at r
    refine fun b2 w5 hb2 hw5 => ⟨wV spareW, srcAt_newN hb2 hw5 rfl, ?_⟩
    refine r.append (st.keep (Ext.new hw5)) rfl rfl rfl (by show (t.len + 1) * 40 ≤ _; omega) fun t' rb' w4 r' st' hl' => ?_
    have hc := r'.cap_le
    refine ⟨by omega, by omega, k _ rb' _ ⟨t'.ptr, t'.cap, by rw [Int.toNat_natCast, hlen], ?_⟩ st'⟩
    have : (⟨t'.ptr, xs.length + 1, t'.cap⟩ : Slc) = t' := by cases t'; simp only [Slc.mk.injEq, true_and, and_true]; simp only at hl'; omega
    rw [this]; exact r'

theorem sp_LeftW {t s : Slc} {xs : List Wr} {R : Bool → World → Prop} (o : TwW t xs rb) (st : St w0 (rb ++ fr) w) (hl : s.len ≤ 1099511627776) (hs : ∀ {l' : List Chunk} {w' : World}, St w0 (l' ++ fr) w' → SrcAt w' s 3 (xs.flatMap wV))
    (k : ∀ w', St w0 (rb ++ fr) w' → R true w') : C_towpathlaw01_LeftWrites t s w R := by
  apply S_towpathlaw01_LeftWrites
  unfold F_towpathlaw01_LeftWrites
  have hlen := wr_len (hs st)
  have htl := o.len
  have hcp := o.cap
  refine ⟨fun h => ?_, fun _ => ?_⟩
  · simp only [Bool.or_eq_true, bne_iff_ne, decide_eq_true_eq] at h
    omega
  refine ⟨fun i w' => ∃ p : Nat, i = (p : Int) ∧ p ≤ s.len ∧ St w0 (rb ++ fr) w', fun i w' => s.len - i.toNat, ⟨0, rfl, by omega, st⟩, ?_⟩
  rintro i w1 ⟨p, rfl, hp, st⟩
  unfold F_towpathlaw01_LeftWrites_L0
  refine ⟨fun hi => ?_, fun hi => ?_⟩
  · have hi := of_decide_eq_true hi
    obtain ⟨a1, x1, hx1, hc1⟩ := wr_atN (o.src st) (i := p) (by omega)
    obtain ⟨a2, x2, hx2, hc2⟩ := wr_atN (hs st) (i := p) (by omega)
    obtain rfl : x1 = x2 := by rw [hx1] at hx2; exact Option.some.inj hx2
    have wp : IntKind.i64.wrap ((p : Int) + 1) = ((p + 1 : Nat) : Int) := by rw [i64_in _ (by omega) (by omega)]; omega
    refine ⟨a1, by omega, by omega, x1, by rw [Int.toNat_natCast]; exact hc1, a2, by omega, hi, x1, by rw [Int.toNat_natCast]; exact hc2, fun w2 e => ⟨fun h => ?_, fun _ => ?_⟩⟩
    · rw [wr_eqW] at h; simp at h
    rw [wp]
    exact ⟨⟨p + 1, rfl, by omega, st.keep e⟩, by show _ - _ < _ - _; omega⟩
  · have hi := of_decide_eq_false hi
    have hw1 : IntKind.i64.wrap (((s.len : Nat) : Int) + 1) = ((s.len + 1 : Nat) : Int) := by rw [i64_in _ (by omega) (by omega)]; omega
    rw [hw1]
    obtain ⟨q, c, rfl, r⟩ := o
    obtain ⟨a, v, hv, hc⟩ := wr_atN (s := ⟨q, xs.length + 1, c⟩) (ws := xs ++ [spareW]) (by rw [List.flatMap_append, flatMap_w1]; exact r.src st) (i := xs.length) (by show xs.length < xs.length + 1; omega)
    rw [List.getElem?_append_right (Nat.le_refl _), Nat.sub_self, List.getElem?_cons_zero] at hv
    cases hv
    have hcp : xs.length < c := hcp
    refine ⟨by omega, by show ((s.len + 1 : Nat) : Int) ≤ ((c : Nat) : Int); omega, a, by omega, by omega, spareW, by rw [Int.toNat_natCast, hlen]; exact hc, fun b w3 hb hw => ?_⟩
    have st := st.alloc hb hw
    refine ⟨st.writable 0 rfl (by simp), fun w4 hw4 => ?_⟩
    have st : St w0 ([(b, wV spareW)] ++ (rb ++ fr)) w4 := st.put0 hw4
    refine ⟨spareW, (st.get 0 rfl).all, ?_⟩
    have e : (((spareW.Key == (ByteArray.mk #[115, 112, 97, 114, 101])) && (spareW.Val == ByteArray.empty)) && (spareW.Drop == false)) = true := (wr_eqW spareW spareW).trans (decide_eq_true rfl)
    rw [e]
    exact k w4 st.drop1
end
end Go.Proofs.YtpdegdnigcnjiaaGreatDoor

namespace Go.Proofs.YtpdegdnigcnjiaaGreatDoor
open Go
set_option linter.unusedVariables false
set_option linter.unusedSimpArgs false

section
variable {w0 : Base} {w : World} {fr rb : List Chunk}
theorem sp_TwinTxn {t : T_api_Txn} {ws : List Wr} {R : T_api_Txn → World → Prop} (st : St w0 fr w) (hs : ∀ {l' : List Chunk} {w' : World}, St w0 (l' ++ fr) w' → SrcAt w' t.Writes 3 (ws.flatMap wV)) (hl : t.Writes.len ≤ 1099511627776)
    (k : ∀ s rb w', TwW s ws rb → St w0 (rb ++ fr) w' → R ⟨t.Number, s⟩ w') : C_towpathlaw01_TwinTxn t w R := by
  apply S_towpathlaw01_TwinTxn
  unfold F_towpathlaw01_TwinTxn
  intro b w1 hb hw b1 w2 hb1 hw1 w3 hd
  have st3 : St w0 ((b1, txW 0 ⟨none, 0, 0⟩) :: (b, txW t.Number t.Writes) :: fr) w3 := ((st.alloc (cs := txW t.Number t.Writes) hb hw).alloc (cs := txW 0 ⟨none, 0, 0⟩) hb1 hw1).drew hd
  refine ⟨t.Number, st3.cell 1 rfl rfl, t.Writes, st3.cell 1 rfl rfl, ?_⟩
  refine sp_TwinW st3 (fun {l' w'} st' => hs (l' := l' ++ [(b1, txW 0 ⟨none, 0, 0⟩), (b, txW t.Number t.Writes)]) (by simpa using st')) hl fun s rb w4 o st4 => ?_
  have st4 : St w0 ((b1, txW 0 ⟨none, 0, 0⟩) :: (b, txW t.Number t.Writes) :: (rb ++ fr)) w4 := st4.perm (perm_of_sum fun f_ => by simp only [List.map_append, List.map_cons, List.map_nil, List.sum_append, List.sum_cons, List.sum_nil, List.append_nil]; omega)
  refine ⟨st4.cell 1 rfl rfl, st4.writable 0 rfl (by decide), fun w5 hw5 => ⟨⟨t.Number, s⟩, ?_⟩⟩
  have st5 : St w0 ((b1, txW t.Number s) :: (b, txW t.Number t.Writes) :: (rb ++ fr)) w5 := st4.put0 hw5
  exact ⟨⟨st5.cell 0 rfl rfl, st5.cell 0 rfl rfl, trivial⟩, k s rb w5 o st5.drop1.drop1⟩
theorem sp_LeftTxn {t x : T_api_Txn} {ws : List Wr} {R : Bool → World → Prop} (o : TwW t.Writes ws rb) (hn : t.Number = x.Number) (st : St w0 (rb ++ fr) w) (hl : x.Writes.len ≤ 1099511627776) (hs : ∀ {l' : List Chunk} {w' : World}, St w0 (l' ++ fr) w' → SrcAt w' x.Writes 3 (ws.flatMap wV))
    (k : ∀ w', St w0 (rb ++ fr) w' → R true w') : C_towpathlaw01_LeftTxn t x w R := by
  apply S_towpathlaw01_LeftTxn
  unfold F_towpathlaw01_LeftTxn
  intro b w1 hb hw b1 w2 hb1 hw1
  have st2 : St w0 ((b1, txW x.Number x.Writes) :: (b, txW t.Number t.Writes) :: (rb ++ fr)) w2 := (st.alloc (cs := txW t.Number t.Writes) hb hw).alloc (cs := txW x.Number x.Writes) hb1 hw1
  refine ⟨t.Number, st2.cell 1 rfl rfl, x.Number, st2.cell 0 rfl rfl, fun _ => ⟨t.Writes, st2.cell 1 rfl rfl, x.Writes, st2.cell 0 rfl rfl, ?_⟩, fun h => ?_⟩
  · have st2 : St w0 (rb ++ ((b1, txW x.Number x.Writes) :: (b, txW t.Number t.Writes) :: fr)) w2 := st2.perm (perm_of_sum fun f_ => by simp only [List.map_append, List.map_cons, List.map_nil, List.sum_append, List.sum_cons, List.sum_nil, List.append_nil]; omega)
    refine sp_LeftW o st2 hl (fun {l' w'} st' => hs (l' := l' ++ [(b1, txW x.Number x.Writes), (b, txW t.Number t.Writes)]) (by simpa using st')) fun w3 st3 => k w3 ?_
    exact st3.weak [(b1, txW x.Number x.Writes), (b, txW t.Number t.Writes)] (perm_of_sum fun f_ => by simp only [List.map_append, List.map_cons, List.map_nil, List.sum_append, List.sum_cons, List.sum_nil, List.append_nil]; omega)
  · rw [hn, beq_self_eq_true] at h; cases h
end
end Go.Proofs.YtpdegdnigcnjiaaGreatDoor

namespace Go.Proofs.YtpdegdnigcnjiaaGreatDoor
open Go
set_option linter.unusedVariables false
set_option linter.unusedSimpArgs false

/-- A copy of writes as it lies in memory, with the mark behind it. -/
def TwAt (w : World) (t : Slc) (xs : List Wr) : Prop := SrcAt w ⟨t.ptr, xs.length + 1, t.cap⟩ 3 (xs.flatMap wV ++ wV spareW) ∧ t.len = xs.length ∧ t.len < t.cap
section
variable {w0 : Base} {w : World} {fr rb : List Chunk}
theorem TwW.at_ {t : Slc} {xs : List Wr} (h : TwW t xs rb) (st : St w0 (rb ++ fr) w) : TwAt w t xs := by
  have a := h.len
  have b := h.cap
  obtain ⟨p, c, rfl, r⟩ := h
  exact ⟨r.src st, a, b⟩
theorem TwAt.ext {w' : World} {t : Slc} {xs : List Wr} (h : TwAt w t xs) (e : Ext w w') : TwAt w' t xs := ⟨e.src h.1, h.2⟩
theorem TwAt.src {t : Slc} {xs : List Wr} (h : TwAt w t xs) : SrcAt w t 3 (xs.flatMap wV) := by
  obtain ⟨p, l, c⟩ := t
  obtain ⟨h1, h2, h3⟩ := h
  have h2 : l = xs.length := h2
  subst h2
  have := h1.pre (k := xs.length) (by show _ ≤ xs.length + 1; omega)
  rw [wr_pre] at this
  exact this
theorem sp_LeftWX {t s : Slc} {xs : List Wr} {R : Bool → World → Prop} (o : TwAt w t xs) (hl : s.len ≤ 1099511627776) (hs : SrcAt w s 3 (xs.flatMap wV))
    (k : ∀ w', Ext w w' → R true w') : C_towpathlaw01_LeftWrites t s w R := by
  apply S_towpathlaw01_LeftWrites
  unfold F_towpathlaw01_LeftWrites
  have hlen := wr_len hs
  have htl := o.2.1
  have hcp := o.2.2
  refine ⟨fun h => ?_, fun _ => ?_⟩
  · simp only [Bool.or_eq_true, bne_iff_ne, decide_eq_true_eq] at h
    omega
  refine ⟨fun i w' => ∃ p : Nat, i = (p : Int) ∧ p ≤ s.len ∧ Ext w w', fun i w' => s.len - i.toNat, ⟨0, rfl, by omega, Ext.refl _⟩, ?_⟩
  rintro i w1 ⟨p, rfl, hp, e⟩
  unfold F_towpathlaw01_LeftWrites_L0
  refine ⟨fun hi => ?_, fun hi => ?_⟩
  · have hi := of_decide_eq_true hi
    obtain ⟨a1, x1, hx1, hc1⟩ := wr_atN (e.src o.src) (i := p) (by omega)
    obtain ⟨a2, x2, hx2, hc2⟩ := wr_atN (e.src hs) (i := p) (by omega)
    obtain rfl : x1 = x2 := by rw [hx1] at hx2; exact Option.some.inj hx2
    have wp : IntKind.i64.wrap ((p : Int) + 1) = ((p + 1 : Nat) : Int) := by rw [i64_in _ (by omega) (by omega)]; omega
    refine ⟨a1, by omega, by omega, x1, by rw [Int.toNat_natCast]; exact hc1, a2, by omega, hi, x1, by rw [Int.toNat_natCast]; exact hc2, fun w2 e2 => ⟨fun h => ?_, fun _ => ?_⟩⟩
    · rw [wr_eqW] at h; simp at h
    rw [wp]
    exact ⟨⟨p + 1, rfl, by omega, e.trans e2⟩, by show _ - _ < _ - _; omega⟩
  · have hi := of_decide_eq_false hi
    have hw1 : IntKind.i64.wrap (((s.len : Nat) : Int) + 1) = ((s.len + 1 : Nat) : Int) := by rw [i64_in _ (by omega) (by omega)]; omega
    rw [hw1]
    obtain ⟨a, v, hv, hc⟩ := wr_atN (s := ⟨t.ptr, xs.length + 1, t.cap⟩) (ws := xs ++ [spareW]) (by rw [List.flatMap_append, flatMap_w1]; exact e.src o.1) (i := xs.length) (by show xs.length < xs.length + 1; omega)
    rw [List.getElem?_append_right (Nat.le_refl _), Nat.sub_self, List.getElem?_cons_zero] at hv
    cases hv
    refine ⟨by omega, by omega, a, by omega, by omega, spareW, by rw [Int.toNat_natCast, hlen]; exact hc, fun b w3 hb hw => ?_⟩
    have st := ((St.start w).keep e).alloc hb hw
    refine ⟨st.writable 0 rfl (by simp), fun w4 hw4 => ?_⟩
    have st : St ⟨w, []⟩ ([(b, wV spareW)]) w4 := st.put0 hw4
    refine ⟨spareW, (st.get 0 rfl).all, ?_⟩
    have e : (((spareW.Key == (ByteArray.mk #[115, 112, 97, 114, 101])) && (spareW.Val == ByteArray.empty)) && (spareW.Drop == false)) = true := (wr_eqW spareW spareW).trans (decide_eq_true rfl)
    rw [e]
    exact k w4 st.ext
theorem sp_LeftTxnX {t x : T_api_Txn} {ws : List Wr} {R : Bool → World → Prop} (o : TwAt w t.Writes ws) (hn : t.Number = x.Number) (hl : x.Writes.len ≤ 1099511627776) (hs : SrcAt w x.Writes 3 (ws.flatMap wV))
    (k : ∀ w', Ext w w' → R true w') : C_towpathlaw01_LeftTxn t x w R := by
  apply S_towpathlaw01_LeftTxn
  unfold F_towpathlaw01_LeftTxn
  intro b w1 hb hw b1 w2 hb1 hw1
  have st2 : St ⟨w, []⟩ [(b1, txW x.Number x.Writes), (b, txW t.Number t.Writes)] w2 := ((St.start w).alloc (cs := txW t.Number t.Writes) hb hw).alloc (cs := txW x.Number x.Writes) hb1 hw1
  refine ⟨t.Number, st2.cell 1 rfl rfl, x.Number, st2.cell 0 rfl rfl, fun _ => ⟨t.Writes, st2.cell 1 rfl rfl, x.Writes, st2.cell 0 rfl rfl, ?_⟩, fun h => ?_⟩
  · exact sp_LeftWX (o.ext st2.ext) hl (st2.ext.src hs) fun w3 e3 => k w3 (st2.keep e3).ext
  · rw [hn, beq_self_eq_true] at h; cases h
end
end Go.Proofs.YtpdegdnigcnjiaaGreatDoor

namespace Go.Proofs.YtpdegdnigcnjiaaGreatDoor
open Go
set_option linter.unusedVariables false
set_option linter.unusedSimpArgs false

/-- Each thing's row, and the memory of all of them. -/
def Parts {α : Type} (In : α → Slc → List Chunk → Prop) : List α → List Slc → List Chunk → Prop
  | [], [], cs => cs = []
  | x :: xs, s :: sls, cs => ∃ c cs', cs = c ++ cs' ∧ In x s c ∧ Parts In xs sls cs'
  | _, _, _ => False
namespace Parts
variable {α : Type} {In : α → Slc → List Chunk → Prop}
theorem nil : Parts In [] [] [] := rfl
theorem len : ∀ {xs : List α} {sls : List Slc} {cs : List Chunk}, Parts In xs sls cs → sls.length = xs.length
  | [], [], _, _ => rfl
  | [], _ :: _, _, h => h.elim
  | _ :: _, [], _, h => h.elim
  | x :: xs, s :: sls, _, ⟨_, _, _, _, h⟩ => by rw [List.length_cons, List.length_cons, len h]
theorem snoc : ∀ {xs : List α} {sls : List Slc} {cs : List Chunk} {x : α} {s : Slc} {c : List Chunk}, Parts In xs sls cs → In x s c → Parts In (xs ++ [x]) (sls ++ [s]) (cs ++ c)
  | [], [], cs, x, s, c, h, hi => ⟨c, [], by rw [show cs = [] from h]; simp, hi, rfl⟩
  | [], _ :: _, _, _, _, _, h, _ => h.elim
  | _ :: _, [], _, _, _, _, h, _ => h.elim
  | y :: xs, t :: sls, cs, x, s, c, ⟨c1, cs1, e, h1, h2⟩, hi => ⟨c1, cs1 ++ c, by rw [e, List.append_assoc], h1, snoc h2 hi⟩
theorem mono {In' : α → Slc → List Chunk → Prop} (f : ∀ x s c, In x s c → In' x s c) : ∀ {xs : List α} {sls : List Slc} {cs : List Chunk}, Parts In xs sls cs → Parts In' xs sls cs
  | [], [], _, h => h
  | [], _ :: _, _, h => h.elim
  | _ :: _, [], _, h => h.elim
  | _ :: _, _ :: _, _, ⟨c, cs', e, h1, h2⟩ => ⟨c, cs', e, f _ _ _ h1, mono f h2⟩
/-- One of them, and the others' memory. -/
theorem at_ : ∀ {xs : List α} {sls : List Slc} {cs : List Chunk} {i : Nat} {x : α} {s : Slc}, Parts In xs sls cs → xs[i]? = some x → sls[i]? = some s → ∃ a c b, cs = a ++ (c ++ b) ∧ In x s c
  | [], _, _, i, x, s, _, h1, _ => by simp at h1
  | _ :: _, [], _, _, _, _, h, _, _ => h.elim
  | y :: xs, t :: sls, cs, 0, x, s, ⟨c, cs', e, h1, h2⟩, g1, g2 => by
    simp only [List.getElem?_cons_zero, Option.some.injEq] at g1 g2
    subst g1 g2
    exact ⟨[], c, cs', e, h1⟩
  | y :: xs, t :: sls, cs, i + 1, x, s, ⟨c, cs', e, h1, h2⟩, g1, g2 => by
    simp only [List.getElem?_cons_succ] at g1 g2
    obtain ⟨a, c2, b, e2, h⟩ := at_ h2 g1 g2
    exact ⟨c ++ a, c2, b, by rw [e, e2, List.append_assoc], h⟩
/-- The first ones and the rest. -/
theorem cut : ∀ {xs : List α} {sls : List Slc} {cs : List Chunk} (i : Nat), Parts In xs sls cs → ∃ a b, cs = a ++ b ∧ Parts In (xs.take i) (sls.take i) a ∧ Parts In (xs.drop i) (sls.drop i) b
  | xs, sls, cs, 0, h => ⟨[], cs, rfl, by simpa using nil, by simpa using h⟩
  | [], [], cs, i + 1, h => ⟨[], cs, rfl, by simpa using nil, by simpa using h⟩
  | [], _ :: _, _, _ + 1, h => h.elim
  | _ :: _, [], _, _ + 1, h => h.elim
  | x :: xs, s :: sls, cs, i + 1, ⟨c, cs', e, h1, h2⟩ => by
    obtain ⟨a, b, e2, g1, g2⟩ := cut i h2
    exact ⟨c ++ a, b, by rw [e, e2, List.append_assoc], ⟨c, a, rfl, h1, g1⟩, g2⟩
theorem get : ∀ {xs : List α} {sls : List Slc} {cs : List Chunk} {i : Nat}, Parts In xs sls cs → i < xs.length → ∃ x s, xs[i]? = some x ∧ sls[i]? = some s := fun {xs sls cs i} h hi => by
  have := h.len
  exact ⟨_, _, List.getElem?_eq_getElem hi, List.getElem?_eq_getElem (by omega)⟩
theorem cons {x : α} {s : Slc} {xs : List α} {sls : List Slc} {cs : List Chunk} (h : Parts In (x :: xs) (s :: sls) cs) : ∃ c cs', cs = c ++ cs' ∧ In x s c ∧ Parts In xs sls cs' := h
end Parts
end Go.Proofs.YtpdegdnigcnjiaaGreatDoor

namespace Go.Proofs.YtpdegdnigcnjiaaGreatDoor
open Go
set_option linter.unusedVariables false
set_option linter.unusedSimpArgs false

def InT (t : Tx) (s : Slc) (c : List Chunk) : Prop := TwW s t.2 c
abbrev rowT (ts : List Tx) (sls : List Slc) : List Value := (ts.zip sls).flatMap fun q => txW q.1.1 q.2
/-- What TwinTxns hands back: the transactions, with a mark behind them. -/
def TwL (sl : Slc) (ts : List Tx) (sls : List Slc) (tb wb : List Chunk) : Prop :=
  ∃ p c, sl = ⟨p, ts.length, c⟩ ∧ RowC 2 ⟨p, ts.length + 1, c⟩ (rowT ts sls ++ txW 7777 ⟨none, 0, 0⟩) tb ∧ Parts InT ts sls wb
/-- .. as it lies in memory. -/
structure TwLAt (w : World) (sl : Slc) (ts : List Tx) (sls : List Slc) : Prop where
  src : SrcAt w ⟨sl.ptr, ts.length + 1, sl.cap⟩ 2 (rowT ts sls ++ txW 7777 ⟨none, 0, 0⟩)
  slen : sl.len = ts.length
  cap : sl.len < sl.cap
  len : sls.length = ts.length
  at_ : ∀ (i : Nat) (t : Tx) (s : Slc), ts[i]? = some t → sls[i]? = some s → TwAt w s t.2
section
variable {w0 : Base} {w : World} {fr tb wb : List Chunk} {sl : Slc} {ts : List Tx} {sls : List Slc}
theorem rowT_len (h : sls.length = ts.length) : (rowT ts sls).length = ts.length * 2 := by
  rw [flatMap_len (sz := 2) (fun _ => rfl), List.length_zip, h, Nat.min_self]
theorem rowT_snoc (h : sls.length = ts.length) (t : Tx) (s : Slc) : rowT (ts ++ [t]) (sls ++ [s]) = rowT ts sls ++ txW t.1 s := by
  unfold rowT
  rw [List.zip_append (by omega), List.flatMap_append]; rfl
theorem TwL.at_ (o : TwL sl ts sls tb wb) (st : St w0 (tb ++ (wb ++ fr)) w) : TwLAt w sl ts sls := by
  obtain ⟨p, c, rfl, r, ps⟩ := o
  refine ⟨r.src st, rfl, r.cap_le, ps.len, fun i t s h1 h2 => ?_⟩
  obtain ⟨a, d, b, rfl, hi⟩ := ps.at_ h1 h2
  exact TwW.at_ (fr := a ++ (tb ++ (b ++ fr))) hi (st.perm (perm_of_sum fun f_ => by simp only [List.map_append, List.map_cons, List.map_nil, List.sum_append, List.sum_cons, List.sum_nil, List.append_nil]; omega))
theorem TwLAt.ext {w' : World} (h : TwLAt w sl ts sls) (e : Ext w w') : TwLAt w' sl ts sls := ⟨e.src h.src, h.slen, h.cap, h.len, fun i t s h1 h2 => (h.at_ i t s h1 h2).ext e⟩
theorem TwL.row (o : TwL sl ts sls tb wb) : RowC 2 sl (rowT ts sls) tb := by
  obtain ⟨p, c, rfl, r, ps⟩ := o
  have hc := r.cap_le
  have hc : ts.length + 1 ≤ c := hc
  have := r.cut (lo := 0) (hi := (ts.length : Int)) (mx := (c : Int)) (by omega) (by omega) (by show (ts.length : Int) ≤ ((ts.length + 1 : Nat) : Int); omega) (by omega) (by show (c : Int) ≤ (c : Int); omega)
  have e : Slc.cut 2 ⟨p, ts.length + 1, c⟩ 0 (ts.length : Int) (c : Int) = ⟨p, ts.length, c⟩ := by
    unfold Slc.cut
    simp only [Int.toNat_natCast, Int.toNat_zero, Nat.sub_zero, Nat.zero_mul]
    have hc0 : c ≠ 0 := by omega
    rcases r with ⟨hp, hl2, _⟩ | ⟨b, pre, rest, suf, hp, _⟩
    · exact absurd hl2 (by show ts.length + 1 ≠ 0; omega)
    · rw [if_neg hc0]
      have hp : p = some ⟨b, pre.length, none⟩ := hp
      rw [hp]; rfl
  rw [e] at this
  simp only [Int.toNat_natCast, Int.toNat_zero, Nat.sub_zero, Nat.zero_mul, List.drop_zero] at this
  rw [List.take_left' (rowT_len ps.len)] at this
  exact this
theorem TwL.parts (o : TwL sl ts sls tb wb) : Parts InT ts sls wb := by obtain ⟨p, c, rfl, r, ps⟩ := o; exact ps
theorem TwLAt.lat (h : TwLAt w sl ts sls) (hb : ∀ t ∈ ts, t.2.length ≤ 1099511627776) (hcp : ∀ s ∈ sls, s.len ≤ s.cap) : LAt w sl ts sls := by
  obtain ⟨p, l, c⟩ := sl
  have hl : l = ts.length := h.slen
  subst hl
  refine ⟨h.len.symm, ?_, fun i t s h1 h2 => (h.at_ i t s h1 h2).src, fun s hs => ⟨hcp s hs, ?_⟩⟩
  · have := h.src.pre (k := ts.length) (by show _ ≤ ts.length + 1; omega)
    rw [List.take_left' (rowT_len h.len)] at this
    exact this
  · obtain ⟨i, hi⟩ := List.mem_iff_getElem?.1 hs
    have hil := (List.getElem?_eq_some_iff.1 hi).1
    have hll := h.len
    have ht : ts[i]? = some (ts[i]'(by omega)) := List.getElem?_eq_getElem (by omega)
    have h1 := (h.at_ i _ s ht hi).2.1
    have h2 := hb _ (List.mem_of_getElem? ht)
    omega
theorem TwL.cap (o : TwL sl ts sls tb wb) : ∀ s ∈ sls, s.len ≤ s.cap := fun s hs => by
  obtain ⟨i, hi⟩ := List.mem_iff_getElem?.1 hs
  have hil := (List.getElem?_eq_some_iff.1 hi).1
  have hll := o.parts.len
  obtain ⟨a, c, b, _, h⟩ := o.parts.at_ (List.getElem?_eq_getElem (show i < ts.length by omega)) hi
  have := TwW.cap h
  omega
/-- The copy of a log is a log. -/
theorem TwL.lat (o : TwL sl ts sls tb wb) (hb : ∀ t ∈ ts, t.2.length ≤ 1099511627776) (st : St w0 (tb ++ (wb ++ fr)) w) : LAt w sl ts sls := (o.at_ st).lat hb o.cap

theorem sp_TwinTxns {s : Slc} {sls0 : List Slc} {R : Slc → World → Prop} (st : St w0 fr w) (ha : LAt w0.w s ts sls0) (hl : s.len ≤ 1099511627776) (hb : ∀ t ∈ ts, t.2.length ≤ 1099511627776)
    (k : ∀ t sls tb wb w', TwL t ts sls tb wb → St w0 (tb ++ (wb ++ fr)) w' → R t w') : C_towpathlaw01_TwinTxns s w R := by
  apply S_towpathlaw01_TwinTxns
  unfold F_towpathlaw01_TwinTxns
  have hlen := ha.slen
  have hw1 : IntKind.i64.wrap (((s.len : Nat) : Int) + 1) = ((s.len + 1 : Nat) : Int) := by rw [i64_in _ (by omega) (by omega)]; omega
  rw [hw1, Int.toNat_natCast]
  refine ⟨by omega, by omega, by omega, fun b w1 hb1 hw => ?_⟩
  have st1 := st.alloc (cs := (repCells (s.len + 1) [Value.int .i64 0, Value.slice none 0 0]).toList) hb1 (by simpa using hw)
  have r1 : RowC 2 ⟨some ⟨b, 0, none⟩, 0, s.len + 1⟩ [] [(b, (repCells (s.len + 1) [Value.int .i64 0, Value.slice none 0 0]).toList)] := .inr ⟨b, [], (repCells (s.len + 1) [Value.int .i64 0, Value.slice none 0 0]).toList, [], rfl, by simp, rfl, by simp [repCells, List.length_flatten], by show 0 ≤ _; omega⟩
  refine ⟨fun t i w' => ∃ (p : Nat) (sls : List Slc) (tb wb : List Chunk), i = (p : Int) ∧ p ≤ s.len ∧ RowC 2 t (rowT (ts.take p) sls) tb ∧ t.len = p ∧ Parts InT (ts.take p) sls wb ∧ St w0 (tb ++ (wb ++ fr)) w', fun t i w' => s.len - i.toNat, ⟨0, [], _, [], rfl, by omega, r1, rfl, by simpa using Parts.nil, st1⟩, ?_⟩
  clear st st1 r1 hb1 hw
  rintro t i w2 ⟨p, sls, tb, wb, rfl, hp, r, ht, ps, st⟩
  unfold F_towpathlaw01_TwinTxns_L0
  have hpl := ps.len
  refine ⟨fun hi => ?_, fun hi => ?_⟩
  · have hi := of_decide_eq_true hi
    obtain ⟨a, tx, s1, htx, hs1, hct, hsr, hcp1, hcp2⟩ := (ha.ext st.ext).get (p := p) (by omega)
    have wp : IntKind.i64.wrap ((p : Int) + 1) = ((p + 1 : Nat) : Int) := by rw [i64_in _ (by omega) (by omega)]; omega
    refine ⟨a, by omega, hi, ⟨tx.1, s1⟩, by rw [Int.toNat_natCast]; exact hct, ?_⟩
    refine sp_TwinTxn (t := ⟨tx.1, s1⟩) (ws := tx.2) st (fun {l' w'} st' => st'.ext.src (ha.wr p tx s1 htx hs1)) (by show s1.len ≤ _; have := hb tx (List.mem_of_getElem? htx); have := wr_len hsr; omega) fun s2 rb w3 o st3 b1 w4 hb1 hw4 => ?_
    have st4 := st3.alloc (cs := txW tx.1 s2) hb1 hw4
    refine ⟨txW tx.1 s2, srcAt_newN hb1 hw4 rfl, ?_⟩
    have st4 : St w0 (tb ++ (rb ++ (wb ++ fr))) w4 := st4.weak [(b1, txW tx.1 s2)] (perm_of_sum fun f_ => by simp only [List.map_append, List.map_cons, List.map_nil, List.sum_append, List.sum_cons, List.sum_nil, List.append_nil]; omega)
    refine r.append st4 rfl rfl rfl (by show (t.len + 1) * 32 ≤ _; omega) fun t' tb' w5 r' st' hl' => ?_
    rw [wp]
    refine ⟨⟨p + 1, sls ++ [s2], tb', wb ++ rb, rfl, by omega, ?_, by omega, ?_, st'.perm (perm_of_sum fun f_ => by simp only [List.map_append, List.map_cons, List.map_nil, List.sum_append, List.sum_cons, List.sum_nil, List.append_nil]; omega)⟩, by show _ - _ < _ - _; omega⟩
    · rw [List.take_add_one, htx, show (some tx).toList = [tx] from rfl, rowT_snoc hpl]
      exact r'
    · rw [List.take_add_one, htx, show (some tx).toList = [tx] from rfl]
      exact ps.snoc o
  · have hi := of_decide_eq_false hi
    rw [List.take_of_length_le (by omega)] at r ps hpl
    refine fun b2 w5 hb2 hw5 => ⟨txW 7777 ⟨none, 0, 0⟩, srcAt_newN hb2 hw5 rfl, ?_⟩
    have st5 := st.alloc (cs := txW 7777 ⟨none, 0, 0⟩) hb2 hw5
    have st5 : St w0 (tb ++ (wb ++ fr)) w5 := st5.drop1
    refine r.append st5 rfl rfl rfl (by show (t.len + 1) * 32 ≤ _; omega) fun t' tb' w4 r' st' hl' => ?_
    have hc := r'.cap_le
    refine ⟨by omega, by omega, k _ sls tb' wb _ ⟨t'.ptr, t'.cap, by rw [Int.toNat_natCast, hlen], ?_, ps⟩ st'⟩
    have : (⟨t'.ptr, ts.length + 1, t'.cap⟩ : Slc) = t' := by cases t'; simp only [Slc.mk.injEq, true_and, and_true]; simp only at hl'; omega
    rw [this]; exact r'

theorem sp_LeftTxns {t s : Slc} {sls0 : List Slc} {R : Bool → World → Prop} (o : TwLAt w t ts sls) (ha : LAt w s ts sls0) (hl : s.len ≤ 1099511627776) (hb : ∀ t ∈ ts, t.2.length ≤ 1099511627776)
    (k : ∀ w', Ext w w' → R true w') : C_towpathlaw01_LeftTxns t s w R := by
  apply S_towpathlaw01_LeftTxns
  unfold F_towpathlaw01_LeftTxns
  have hlen := ha.slen
  have htl := o.slen
  have hcp := o.cap
  have hsl := o.len
  refine ⟨fun h => ?_, fun _ => ?_⟩
  · simp only [Bool.or_eq_true, bne_iff_ne, decide_eq_true_eq] at h
    omega
  refine ⟨fun i w' => ∃ p : Nat, i = (p : Int) ∧ p ≤ s.len ∧ Ext w w', fun i w' => s.len - i.toNat, ⟨0, rfl, by omega, Ext.refl _⟩, ?_⟩
  rintro i w1 ⟨p, rfl, hp, e⟩
  unfold F_towpathlaw01_LeftTxns_L0
  have src : SrcAt w1 ⟨t.ptr, ts.length + 1, t.cap⟩ 2 (((ts ++ [((7777 : Int), ([] : List Wr))]).zip (sls ++ [(⟨none, 0, 0⟩ : Slc)])).flatMap fun q => txW q.1.1 q.2) := by
    have := rowT_snoc hsl ((7777 : Int), ([] : List Wr)) ⟨none, 0, 0⟩
    unfold rowT at this
    rw [this]
    exact e.src o.src
  have get : ∀ i : Nat, i < ts.length + 1 → IsAt t.ptr ∧ ∃ x : Tx × Slc, ((ts ++ [((7777 : Int), ([] : List Wr))]).zip (sls ++ [(⟨none, 0, 0⟩ : Slc)]))[i]? = some x ∧ CellsAt w1 (pblk t.ptr) (poff t.ptr + i * 2) (txW x.1.1 x.2) := fun i hi => by
    obtain ⟨a, x, hx, hc⟩ := SrcAt.getN src (fun _ => rfl) (by decide) (i := (i : Int)) (by omega) (by show (i : Int) < ((ts.length + 1 : Nat) : Int); omega)
    rw [Int.toNat_natCast] at hx hc
    exact ⟨a, x, hx, hc⟩
  refine ⟨fun hi => ?_, fun hi => ?_⟩
  · have hi := of_decide_eq_true hi
    have hpl : p < ts.length := by omega
    obtain ⟨a, x, hx, hc⟩ := get p (by omega)
    obtain ⟨hx1, hx2⟩ := List.getElem?_zip_eq_some.1 hx
    rw [List.getElem?_append_left hpl] at hx1
    rw [List.getElem?_append_left (by omega)] at hx2
    obtain ⟨a2, tx, s2, htx, hs2, hct, hsr, hcp1, hcp2⟩ := (ha.ext e).get (p := p) (by omega)
    obtain rfl : x.1 = tx := by rw [hx1] at htx; exact Option.some.inj htx
    have wp : IntKind.i64.wrap ((p : Int) + 1) = ((p + 1 : Nat) : Int) := by rw [i64_in _ (by omega) (by omega)]; omega
    refine ⟨a, by omega, by omega, ⟨x.1.1, x.2⟩, by rw [Int.toNat_natCast]; exact hc, a2, by omega, hi, ⟨x.1.1, s2⟩, by rw [Int.toNat_natCast]; exact hct, true, fun w' e' => ?_, fun w3 e3 => ⟨fun h => (by simp at h), fun _ => ?_⟩⟩
    · exact sp_LeftTxnX (t := ⟨x.1.1, x.2⟩) (x := ⟨x.1.1, s2⟩) (ws := x.1.2) ((o.at_ p x.1 x.2 hx1 hx2).ext (e.trans e')) rfl (by show s2.len ≤ _; have := hb x.1 (List.mem_of_getElem? hx1); have := wr_len hsr; omega) (e'.src hsr) fun w'' e'' => ⟨rfl, e''⟩
    · rw [wp]
      exact ⟨⟨p + 1, rfl, by omega, e.trans e3⟩, by show _ - _ < _ - _; omega⟩
  · have hi := of_decide_eq_false hi
    have hw1 : IntKind.i64.wrap (((s.len : Nat) : Int) + 1) = ((s.len + 1 : Nat) : Int) := by rw [i64_in _ (by omega) (by omega)]; omega
    rw [hw1]
    obtain ⟨a, x, hx, hc⟩ := get ts.length (by omega)
    obtain ⟨hx1, hx2⟩ := List.getElem?_zip_eq_some.1 hx
    rw [List.getElem?_append_right (Nat.le_refl _), Nat.sub_self, List.getElem?_cons_zero] at hx1
    rw [← hsl, List.getElem?_append_right (Nat.le_refl _), Nat.sub_self, List.getElem?_cons_zero] at hx2
    obtain ⟨x1, x2⟩ := x
    simp only [Option.some.injEq] at hx1 hx2
    subst hx1 hx2
    refine ⟨by omega, by omega, a, by omega, by omega, ⟨7777, ⟨none, 0, 0⟩⟩, by rw [Int.toNat_natCast, hlen]; exact hc, fun b w3 hb hw => ?_⟩
    have st := ((St.start w).keep e).alloc (cs := txW 0 ⟨none, 0, 0⟩) hb hw
    refine ⟨st.writable 0 rfl (by simp), fun w4 hw4 => ?_⟩
    have st : St ⟨w, []⟩ ([(b, txW 7777 ⟨none, 0, 0⟩)]) w4 := st.put0 hw4
    exact ⟨7777, st.cell 0 rfl rfl, k w4 st.ext⟩
end
end Go.Proofs.YtpdegdnigcnjiaaGreatDoor

namespace Go.Proofs.YtpdegdnigcnjiaaGreatDoor
open Go
set_option linter.unusedVariables false
set_option linter.unusedSimpArgs false

theorem byteAt_get {s : ByteArray} {i : Int} (h0 : 0 ≤ i) (h1 : i < ((s.size : Nat) : Int)) : ∃ x, s.data.toList[i.toNat]? = some x ∧ byteAt s i = (x.toNat : Int) := by
  have hl : i.toNat < s.data.toList.length := by have : s.data.toList.length = s.size := by simp
                                                 omega
  refine ⟨s.data.toList[i.toNat], List.getElem?_eq_getElem hl, ?_⟩
  unfold byteAt
  rw [List.getD_eq_getElem?_getD, List.getElem?_eq_getElem hl]
  rfl


section
variable {w0 : Base} {w : World} {fr wb : List Chunk} {s : Slc} {xs : List UInt8}
theorem ref_push {x : UInt8} {v : Value} {T : TypeId} {w1 : World} {b2 : Nat} {K : Slc → World → Prop} (r : RowC 1 s (xs.map bV) wb) (st : St w0 (wb ++ fr) w) (hl : xs.length + 1 ≤ 140737488351232) (hv : v = bV x)
    (hb : b2 = w.heap.size) (hw : w1 = w.alloc (Obj.cells [v].toArray T (0, 0))) (k : ∀ s' wb' w', RowC 1 s' ((xs ++ [x]).map bV) wb' → St w0 (wb' ++ fr) w' → K s' w') :
    ∃ src, SrcAt w1 (Slc.mk (some ⟨b2, 0, none⟩) 1 1) 1 src ∧ AppendW 1 1 T [Value.int .u8 0] s src 1 w1 K := by
  subst hv
  have hsl := r.len
  rw [List.length_map] at hsl
  exact ⟨_, srcAt_new hb hw rfl, r.append (st.alloc hb hw).drop1 rfl rfl rfl (by omega) fun s' wb' w' r' st' _ => k s' wb' w' (by simpa using r') st'⟩

theorem sp_refW_Var {n : Nat} {R : Slc → World → Prop} (r : RowC 1 s (xs.map bV) wb) (st : St w0 (wb ++ fr) w) (hn : n < 2 ^ 64) (hl : xs.length + 20 ≤ 140737488351232)
    (k : ∀ s' wb' w', RowC 1 s' ((xs ++ varF n).map bV) wb' → St w0 (wb' ++ fr) w' → R s' w') : C_towpathref02_Var s (n : Int) w R := by
  apply S_towpathref02_Var
  refine ⟨fun s n1 w' => ∃ (m f : Nat) (pre : List UInt8) (wb : List Chunk), n1 = (m : Int) ∧ pre.length + f = 9 ∧ m < 128 ^ (f + 1) ∧ m < 2 ^ 64 ∧ pre ++ varB (f + 1) m = varF n ∧ RowC 1 s ((xs ++ pre).map bV) wb ∧ St w0 (wb ++ fr) w', fun _ n1 _ => n1.toNat,
    ⟨n, 9, [], wb, rfl, rfl, by have : (2 : Nat) ^ 64 ≤ 128 ^ (9 + 1) := by decide
                                omega, hn, rfl, by simpa using r, st⟩, ?_⟩
  rintro s1 n1 w1 ⟨m, f, pre, wb, rfl, hpf, hm, hm64, hpre, r, st⟩
  unfold F_towpathref02_Var_L0
  refine ⟨fun h => ?_, fun h => ?_⟩
  · have h := of_decide_eq_true h
    have hm128 : 128 ≤ m := by omega
    have ht : Int.tmod (m : Int) 128 = ((m % 128 : Nat) : Int) := tmod_nat m 128
    have hd : Int.tdiv (m : Int) 128 = ((m / 128 : Nat) : Int) := tdiv_nat m 128
    refine fun b2 w2 hb hw => ref_push (x := UInt8.ofNat (m % 128 + 128)) r st (by simp; omega) ?_ hb hw fun s' wb' w' r' st' => ?_
    · rw [bV_ofNat (by omega), ht, u64_in _ (by omega) (by omega), wrap_u8]
      congr 1; omega
    · rw [hd, u64_in _ (by omega) (by omega)]
      have hf0 : f ≠ 0 := fun e => by subst e; simp at hm; omega
      obtain ⟨f, rfl⟩ := Nat.exists_eq_succ_of_ne_zero hf0
      refine ⟨⟨m / 128, f, pre ++ [UInt8.ofNat (m % 128 + 128)], wb', rfl, by simp; omega, ?_, by omega, ?_, by simpa using r', st'⟩, by show m / 128 < m; omega⟩
      · rw [Nat.div_lt_iff_lt_mul (by decide), ← Nat.pow_succ]; exact hm
      · rw [← hpre]
        conv => rhs; rw [varB, if_neg (by omega)]
        simp
  · have h := of_decide_eq_false h
    refine fun b2 w2 hb hw => ref_push (x := UInt8.ofNat m) r st (by simp; omega) ?_ hb hw fun s' wb' w' r' st' => k s' wb' w' ?_ st'
    · rw [bV_ofNat (by omega), wrap_u8]
      congr 1; omega
    · rw [varB, if_pos (by omega)] at hpre
      rw [List.append_assoc, hpre] at r'
      exact r'
theorem sp_refW_Text {t : ByteArray} {R : Slc → World → Prop} (r : RowC 1 s (xs.map bV) wb) (st : St w0 (wb ++ fr) w) (hl : xs.length + t.size + 40 ≤ 140737488351232)
    (k : ∀ s' wb' w', RowC 1 s' ((xs ++ (varF t.size ++ t.data.toList)).map bV) wb' → St w0 (wb' ++ fr) w' → R s' w') : C_towpathref02_Text s t w R := by
  apply S_towpathref02_Text
  unfold F_towpathref02_Text
  rw [show IntKind.u64.wrap ((t.size : Nat) : Int) = ((t.size : Nat) : Int) from u64_in _ (by omega) (by omega)]
  have hv := varB_len 10 t.size
  refine sp_refW_Var r st (by omega) (by omega) fun s1 wb1 w1 r1 st1 => ?_
  have htl : t.data.toList.length = t.size := by simp
  refine ⟨fun s i w' => ∃ (p : Nat) (wb : List Chunk), i = (p : Int) ∧ p ≤ t.size ∧ RowC 1 s ((xs ++ (varF t.size ++ t.data.toList.take p)).map bV) wb ∧ St w0 (wb ++ fr) w', fun _ i _ => t.size - i.toNat, ⟨0, wb1, rfl, by omega, by simpa using r1, st1⟩, ?_⟩
  rintro s2 i w2 ⟨p, wb2, rfl, hp, r2, st2⟩
  unfold F_towpathref02_Text_L0
  refine ⟨fun h => ?_, fun h => ?_⟩
  · have h := of_decide_eq_true h
    obtain ⟨x, hx, hbx⟩ := byteAt_get (s := t) (i := (p : Int)) (by omega) h
    rw [Int.toNat_natCast] at hx
    refine ⟨by omega, h, fun b2 w3 hb hw => ref_push (x := x) r2 st2 ?_ (by rw [hbx]) hb hw fun s' wb' w' r' st' => ?_⟩
    · simp only [List.length_append, List.length_take]; unfold varF; omega
    · have wp : IntKind.i64.wrap ((p : Int) + 1) = ((p + 1 : Nat) : Int) := by rw [i64_in _ (by omega) (by omega)]; omega
      rw [wp]
      refine ⟨⟨p + 1, wb', rfl, by omega, ?_, st'⟩, by show _ - _ < _ - _; omega⟩
      rw [List.take_add_one, hx]
      simpa using r'
  · have h := of_decide_eq_false h
    rw [List.take_of_length_le (by omega)] at r2
    exact k s2 wb2 w2 r2 st2
end
end Go.Proofs.YtpdegdnigcnjiaaGreatDoor

namespace Go.Proofs.YtpdegdnigcnjiaaGreatDoor
open Go
set_option linter.unusedVariables false
set_option linter.unusedSimpArgs false

section
variable {w0 : Base} {w : World} {fr wb : List Chunk} {s : Slc} {xs : List UInt8}
theorem sp_power {n : Nat} {R : Int → World → Prop} (hn : n < 64) (k : R ((2 ^ n : Nat) : Int) w) : C_towpathref02_power (n : Int) w R := by
  apply S_towpathref02_power
  refine ⟨fun p i w' => ∃ j : Nat, i = (j : Int) ∧ j ≤ n ∧ p = ((2 ^ j : Nat) : Int) ∧ w' = w, fun _ i _ => n - i.toNat, ⟨0, rfl, by omega, rfl, rfl⟩, ?_⟩
  rintro p i w1 ⟨j, rfl, hj, rfl, rfl⟩
  unfold F_towpathref02_power_L0
  refine ⟨fun h => ?_, fun h => ?_⟩
  · have h := of_decide_eq_true h
    have hp : 2 ^ (j + 1) ≤ 2 ^ 63 := Nat.pow_le_pow_right (by omega) (by omega)
    have e : 2 * 2 ^ j = 2 ^ (j + 1) := by rw [Nat.pow_succ]; omega
    have wi : IntKind.i64.wrap ((j : Int) + 1) = ((j + 1 : Nat) : Int) := by rw [i64_in _ (by omega) (by omega)]; omega
    have wp : IntKind.u64.wrap (2 * ((2 ^ j : Nat) : Int)) = ((2 ^ (j + 1) : Nat) : Int) := by
      have : (2 : Int) * ((2 ^ j : Nat) : Int) = ((2 ^ (j + 1) : Nat) : Int) := by omega
      rw [this, u64_in _ (by omega) (by omega)]
    rw [wi, wp]
    exact ⟨⟨j + 1, rfl, by omega, rfl, rfl⟩, by show _ - _ < _ - _; omega⟩
  · have h := of_decide_eq_false h
    obtain rfl : j = n := by omega
    exact k

theorem refFixed_loop {n W : Nat} {R : Slc → Int → World → Prop} (r : RowC 1 s (xs.map bV) wb) (st : St w0 (wb ++ fr) w) (hn : n < 2 ^ 64) (hW : W ≤ 8) (hl : xs.length + 20 ≤ 140737488351232)
    (k : ∀ s' wb' w', RowC 1 s' ((xs ++ fixB W n).map bV) wb' → St w0 (wb' ++ fr) w' → R s' 0 w') : F_towpathref02_Fixed_k0 s (n : Int) (W : Int) R false w := by
  unfold F_towpathref02_Fixed_k0
  refine ⟨fun h => (by cases h), fun _ => ⟨fun s n1 t w' => ∃ (m j : Nat) (pre : List UInt8) (wb : List Chunk), n1 = (m : Int) ∧ t = ((W - j : Nat) : Int) ∧ j ≤ W ∧ m < 2 ^ 64 ∧ pre.length + j = W ∧ pre ++ fixB j m = fixB W n ∧ RowC 1 s ((xs ++ pre).map bV) wb ∧ St w0 (wb ++ fr) w', fun _ _ t _ => W - t.toNat,
    ⟨n, W, [], wb, rfl, by simp, Nat.le_refl _, hn, by simp, rfl, by simpa using r, st⟩, ?_⟩⟩
  rintro s1 n1 t w1 ⟨m, j, pre, wb, rfl, rfl, hj, hm, hpj, hpre, r, st⟩
  unfold F_towpathref02_Fixed_L1
  refine ⟨fun h => ?_, fun h => ?_⟩
  · have h := of_decide_eq_true h
    have hj0 : j ≠ 0 := fun e => by subst e; omega
    obtain ⟨j, rfl⟩ := Nat.exists_eq_succ_of_ne_zero hj0
    have ht : Int.tmod (m : Int) 256 = ((m % 256 : Nat) : Int) := tmod_nat m 256
    have hd : Int.tdiv (m : Int) 256 = ((m / 256 : Nat) : Int) := tdiv_nat m 256
    refine fun b2 w3 hb hw => ref_push (x := UInt8.ofNat (m % 256)) r st (by simp; omega) ?_ hb hw fun s' wb' w' r' st' => ?_
    · rw [bV_ofNat (by omega), ht, wrap_u8]
      congr 1; omega
    · have wt : IntKind.i64.wrap (((W - (j + 1) : Nat) : Int) + 1) = ((W - j : Nat) : Int) := by rw [i64_in _ (by omega) (by omega)]; omega
      rw [hd, u64_in _ (by omega) (by omega), wt]
      refine ⟨⟨m / 256, j, pre ++ [UInt8.ofNat (m % 256)], wb', rfl, rfl, by omega, by omega, by simp; omega, ?_, by simpa using r', st'⟩, by show _ - _ < _ - _; omega⟩
      rw [← hpre]
      conv => rhs; rw [fixB]
      simp
  · have h := of_decide_eq_false h
    obtain rfl : j = 0 := by omega
    rw [fixB, List.append_nil] at hpre
    rw [hpre] at r
    exact k _ _ _ r st

theorem sp_refW_Fixed {n : Nat} {width : Int} {R : Slc → Int → World → Prop} (r : RowC 1 s (xs.map bV) wb) (st : St w0 (wb ++ fr) w) (hn : n < 2 ^ 64) (hl : xs.length + 20 ≤ 140737488351232)
    (k1 : (width < 1 ∨ width > 8) → R s 1 w) (k3 : 1 ≤ width → width ≤ 8 → 256 ^ width.toNat ≤ n → R s 3 w)
    (k0 : 1 ≤ width → width ≤ 8 → n < 256 ^ width.toNat → ∀ s' wb' w', RowC 1 s' ((xs ++ fixB width.toNat n).map bV) wb' → St w0 (wb' ++ fr) w' → R s' 0 w') : C_towpathref02_Fixed s (n : Int) width w R := by
  apply S_towpathref02_Fixed
  unfold F_towpathref02_Fixed
  refine ⟨fun h => k1 (by simpa using h), fun h => ?_⟩
  simp only [Bool.or_eq_false_iff, decide_eq_false_iff_not] at h
  obtain ⟨W, rfl⟩ := toN (show 0 ≤ width by omega)
  rw [Int.toNat_natCast] at k3 k0
  have hp : (2 : Nat) ^ (8 * W) = 256 ^ W := by rw [Nat.pow_mul]
  refine ⟨fun h8 => ?_, fun h8 => ?_⟩
  · have h8 := of_decide_eq_true h8
    have w8 : IntKind.i64.wrap (8 * (W : Int)) = ((8 * W : Nat) : Int) := by rw [i64_in _ (by omega) (by omega)]; omega
    rw [w8]
    refine sp_power (by omega) ?_
    rw [hp]
    by_cases hge : 256 ^ W ≤ n
    · rw [decide_eq_true (show (n : Int) ≥ ((256 ^ W : Nat) : Int) by omega)]
      unfold F_towpathref02_Fixed_k0
      exact ⟨fun _ => k3 (by omega) (by omega) hge, fun h => (by cases h)⟩
    · rw [decide_eq_false (show ¬ (n : Int) ≥ ((256 ^ W : Nat) : Int) by omega)]
      exact refFixed_loop r st hn (by omega) hl (k0 (by omega) (by omega) (by omega))
  · have h8 := of_decide_eq_false h8
    obtain rfl : W = 8 := by omega
    refine refFixed_loop r st hn (by omega) hl (k0 (by omega) (by omega) ?_)
    have : (256 : Nat) ^ 8 = 2 ^ 64 := by decide
    omega
end
end Go.Proofs.YtpdegdnigcnjiaaGreatDoor

namespace Go.Proofs.YtpdegdnigcnjiaaGreatDoor
open Go
set_option linter.unusedVariables false
set_option linter.unusedSimpArgs false

/-! ### CRC-32C -/
def step (c : BitVec 32) : BitVec 32 := (c >>> 1) ^^^ (if c.getLsbD 0 then 0x82f63b78#32 else 0#32)
def stepN : Nat → BitVec 32 → BitVec 32
  | 0, c => c
  | n + 1, c => stepN n (step c)
def crcF : BitVec 32 → List UInt8 → BitVec 32
  | c, [] => c
  | c, x :: r => crcF (stepN 8 (c ^^^ BitVec.ofNat 32 x.toNat)) r
/-- A number of 32 bits, as Go's. -/
abbrev U (c : BitVec 32) : Int := (c.toNat : Int)

theorem step_xor (a b : BitVec 32) : step (a ^^^ b) = step a ^^^ step b := by
  unfold step
  rw [BitVec.getLsbD_xor]
  have h1 : (a ^^^ b) >>> 1 = (a >>> 1) ^^^ (b >>> 1) := by
    apply BitVec.eq_of_getLsbD_eq; intro i hi; simp
  rw [h1]
  cases a.getLsbD 0 <;> cases b.getLsbD 0 <;> (apply BitVec.eq_of_getLsbD_eq; intro i hi; simp [BitVec.getLsbD_xor])
  all_goals (generalize (a.getLsbD (1 + i)) = u; generalize (b.getLsbD (1 + i)) = v; generalize (BitVec.getLsbD (2197175160#32) i) = z; cases u <;> cases v <;> cases z <;> rfl)
theorem stepN_xor : ∀ (n : Nat) (a b : BitVec 32), stepN n (a ^^^ b) = stepN n a ^^^ stepN n b
  | 0, _, _ => rfl
  | n + 1, a, b => by rw [stepN, step_xor, stepN_xor n]; rfl
theorem stepN_high : ∀ (n : Nat) (c : BitVec 32), (∀ i, i < n → c.getLsbD i = false) → stepN n c = c >>> n
  | 0, c, _ => by simp [stepN]
  | n + 1, c, h => by
    have h0 := h 0 (by omega)
    have hs : step c = c >>> 1 := by
      unfold step; rw [h0]
      apply BitVec.eq_of_getLsbD_eq; intro i hi; simp
    rw [stepN, hs, stepN_high n]
    · apply BitVec.eq_of_getLsbD_eq; intro i hi
      simp only [BitVec.getLsbD_ushiftRight]
      rw [show 1 + (n + i) = n + 1 + i from by omega]
    · intro i hi
      simp only [BitVec.getLsbD_ushiftRight]
      exact h _ (by omega)
theorem crc_table (d : BitVec 32) (x : Nat) (hx : x < 256) : stepN 8 (BitVec.ofNat 32 ((d.toNat % 256) ^^^ x)) ^^^ (d >>> 8) = stepN 8 (d ^^^ BitVec.ofNat 32 x) := by
  have e1 : d ^^^ BitVec.ofNat 32 x = BitVec.ofNat 32 ((d.toNat % 256) ^^^ x) ^^^ ((d >>> 8) <<< 8) := by
    apply BitVec.eq_of_getLsbD_eq; intro i hi
    simp only [BitVec.getLsbD_xor, BitVec.getLsbD_ofNat, BitVec.getLsbD_shiftLeft, BitVec.getLsbD_ushiftRight, Nat.testBit_xor]
    rw [show (256 : Nat) = 2 ^ 8 from rfl, Nat.testBit_mod_two_pow]
    simp only [hi, decide_true, Bool.true_and]
    by_cases h8 : i < 8
    · simp [h8, BitVec.testBit_toNat]
    · have hxi : x.testBit i = false := Nat.testBit_lt_two_pow (Nat.lt_of_lt_of_le hx (by
        rw [show (256 : Nat) = 2 ^ 8 from rfl]; exact Nat.pow_le_pow_right (by omega) (by omega)))
      simp [h8, hxi, show 8 + (i - 8) = i from by omega]
  rw [e1, stepN_xor]
  congr 1
  rw [stepN_high]
  · apply BitVec.eq_of_getLsbD_eq; intro i hi
    simp only [BitVec.getLsbD_ushiftRight, BitVec.getLsbD_shiftLeft]
    by_cases h : 8 + i < 32
    · simp [h]
    · have : d.getLsbD (8 + i) = false := BitVec.getLsbD_of_ge _ _ (by omega)
      simp [h, this]
  · intro i hi
    simp [BitVec.getLsbD_shiftLeft, hi]

theorem U_lt (c : BitVec 32) : c.toNat < 2 ^ 32 := c.isLt
theorem U_xor (a b : BitVec 32) : bxor .u32 (U a) (U b) = U (a ^^^ b) := by
  unfold U; rw [bxor_bare rfl (U_lt a) (U_lt b), BitVec.toNat_xor]
theorem U_and (a b : BitVec 32) : band .u32 (U a) (U b) = U (a &&& b) := by
  unfold U; rw [band_bare rfl (U_lt a) (U_lt b), BitVec.toNat_and]
theorem U_shr (c : BitVec 32) (k : Nat) : Int.fdiv (U c) (2 ^ k) = U (c >>> k) := by
  have := fdiv_nat c.toNat (2 ^ k)
  rw [show ((2 : Int) ^ k) = ((2 ^ k : Nat) : Int) from by simp]; unfold U; rw [this, BitVec.toNat_ushiftRight, Nat.shiftRight_eq_div_pow]
theorem U_not (c : BitVec 32) : IntKind.u32.wrap (4294967295 - U c) = U (~~~c) := by
  have h1 := U_lt c
  rw [u32_in _ (by unfold U; omega) (by unfold U; omega)]
  unfold U
  rw [BitVec.toNat_not]
  omega
theorem U_not' (c : BitVec 32) : bxor .u32 (IntKind.max .u32) (U c) = U (~~~c) := by
  rw [show IntKind.max .u32 = U (0xffffffff#32) from by decide, U_xor]
  congr 2
theorem lsb_mod (c : BitVec 32) : c.getLsbD 0 = decide (c.toNat % 2 = 1) := by
  rw [BitVec.getLsbD, Nat.testBit_zero]
theorem step_tab (c : BitVec 32) : bxor .u32 (Int.fdiv (U c) (2 ^ 1)) (band .u32 2197175160 (IntKind.u32.wrap (0 - (band .u32 (U c) 1)))) = U (step c) := by
  have e1 : band .u32 (U c) 1 = ((c.toNat % 2 : Nat) : Int) := by
    rw [show (1 : Int) = U (1#32) from rfl, U_and]; unfold U; rw [BitVec.toNat_and]
    show ((c.toNat &&& 1 : Nat) : Int) = _
    rw [Nat.and_one_is_mod]
  rw [U_shr, e1]
  unfold step
  rw [lsb_mod]
  rcases Nat.mod_two_eq_zero_or_one c.toNat with h | h
  · rw [h]
    rw [show (IntKind.u32.wrap (0 - ((0 : Nat) : Int))) = U (0#32) from by decide, show (2197175160 : Int) = U (0x82f63b78#32) from by decide, U_and, U_xor]
    simp
  · rw [h]
    rw [show (IntKind.u32.wrap (0 - ((1 : Nat) : Int))) = U (0xffffffff#32) from by decide, show (2197175160 : Int) = U (0x82f63b78#32) from by decide, U_and, U_xor]
    simp
theorem step_odd {c : BitVec 32} (h : (Int.tmod (U c) 2 == 1) = true) : bxor .u32 (IntKind.u32.wrap (Int.tdiv (U c) 2)) 2197175160 = U (step c) := by
  have h1 := U_lt c
  have h := of_decide_eq_true h
  rw [show (2 : Int) = ((2 : Nat) : Int) from rfl, tmod_nat] at h
  have hl : c.getLsbD 0 = true := by rw [lsb_mod]; exact decide_eq_true (by omega)
  have e : IntKind.u32.wrap (Int.tdiv (U c) 2) = U (c >>> 1) := by
    rw [show (2 : Int) = ((2 : Nat) : Int) from rfl, tdiv_nat, u32_in _ (by omega) (by omega)]; unfold U; rw [BitVec.toNat_ushiftRight, Nat.shiftRight_eq_div_pow]
  rw [e, show (2197175160 : Int) = U (0x82f63b78#32) from by decide, U_xor]
  unfold step
  rw [hl]; rfl
theorem step_even {c : BitVec 32} (h : (Int.tmod (U c) 2 == 1) = false) : IntKind.u32.wrap (Int.tdiv (U c) 2) = U (step c) := by
  have h1 := U_lt c
  have h := of_decide_eq_false h
  rw [show (2 : Int) = ((2 : Nat) : Int) from rfl, tmod_nat] at h
  have hl : c.getLsbD 0 = false := by rw [lsb_mod]; exact decide_eq_false (by omega)
  have e : IntKind.u32.wrap (Int.tdiv (U c) 2) = U (c >>> 1) := by
    rw [show (2 : Int) = ((2 : Nat) : Int) from rfl, tdiv_nat, u32_in _ (by omega) (by omega)]; unfold U; rw [BitVec.toNat_ushiftRight, Nat.shiftRight_eq_div_pow]
  rw [e]
  unfold step
  rw [hl]; simp

theorem stepN_succ {n : Nat} {k : Int} (h0 : 0 ≤ k) (h1 : k < 8) (d : BitVec 32) : stepN (8 - k.toNat) d = stepN (8 - (k + 1).toNat) (step d) := by
  rw [show 8 - k.toNat = (8 - (k + 1).toNat) + 1 from by omega]; rfl

def T8 (i : Nat) : Int := U (stepN 8 (BitVec.ofNat 32 i))
def tabF (n : Nat) : List Int := (List.range n).map T8 ++ List.replicate (256 - n) 0
theorem crcTab_len {n : Nat} (h : n ≤ 256) : (tabF n).length = 256 := by simp [tabF]; omega
theorem crcTab_set {n : Nat} (h : n < 256) : ((tabF n).map (Value.int .u32)).set n (Value.int .u32 (T8 n)) = (tabF (n + 1)).map (Value.int .u32) := by
  rw [← List.map_set]
  congr 1
  unfold tabF
  rw [List.set_append_right _ _ (by simp)]
  simp only [List.length_map, List.length_range, Nat.sub_self]
  rw [List.range_succ, List.map_append, List.append_assoc]
  congr 1
  rw [show 256 - n = (256 - (n + 1)) + 1 from by omega, List.replicate_succ]
  rfl

theorem sp_sum_table {w : World} {R : List Int → World → Prop} (h : ∀ w', Ext w w' → R (tabF 256) w') : C_sum_table w R := by
  apply S_sum_table
  unfold F_sum_table
  intro b w1 hb hw b1 w2 hb1 hw2
  have e1 : Ext w w1 := Ext.new hw
  have e2 : Ext w w2 := e1.trans (Ext.new hw2)
  have k0 : Blk w2 b ((List.replicate 256 0).map (Value.int .u32)) := (Blk.new hb hw).ext (Ext.new hw2)
  have k1 : Blk w2 b1 ((tabF 0).map (Value.int .u32)) := Blk.new hb1 hw2
  have hbb : w.heap.size ≤ b1 := by have := e1.size; omega
  have hne : b ≠ b1 := by have := (Blk.new hb hw).lt; omega
  refine ⟨fun i w' => 0 ≤ i ∧ i ≤ 256 ∧ RowKit.Below w.heap.size w w' ∧ Blk w' b ((List.replicate 256 0).map (Value.int .u32)) ∧ Blk w' b1 ((tabF i.toNat).map (Value.int .u32)), fun i w' => 256 - i.toNat, ⟨by omega, by omega, e2, k0, k1⟩, ?_⟩
  rintro i w3 ⟨h0, h1, e3, k0, k1⟩
  unfold F_sum_table_L0
  refine ⟨fun hi => ?_, fun hi => ?_⟩
  · have hi := of_decide_eq_true hi
    refine ⟨fun c k w' => w' = w3 ∧ 0 ≤ k ∧ k ≤ 8 ∧ ∃ e, c = U e ∧ stepN (8 - k.toNat) e = stepN 8 (BitVec.ofNat 32 i.toNat), fun c k w' => 8 - k.toNat, ⟨rfl, by omega, by omega, BitVec.ofNat 32 i.toNat, ?_, rfl⟩, ?_⟩
    · rw [u32_in _ (by omega) (by omega)]
      unfold U; rw [BitVec.toNat_ofNat, Nat.mod_eq_of_lt (by omega)]; omega
    · rintro _ k _ ⟨rfl, j0, j1, e, rfl, he⟩
      unfold F_sum_table_L1
      refine ⟨fun hk => ?_, fun hk => ?_⟩
      · have hk := of_decide_eq_true hk
        have hw : IntKind.i64.wrap (k + 1) = k + 1 := i64_in _ (by omega) (by omega)
        rw [stepN_succ (n := 0) j0 hk] at he
        exact ⟨⟨rfl, by omega, by omega, step e, step_tab e, by rw [hw]; exact he⟩, by simp only [hw]; omega⟩
      · have hk := of_decide_eq_false hk
        rw [show 8 - k.toNat = 0 from by omega] at he
        have he : e = _ := he
        have hw : IntKind.i64.wrap (i + 1) = i + 1 := i64_in _ (by omega) (by omega)
        refine ⟨h0, hi, k1.writable (by rw [List.length_map, crcTab_len (by omega)]; omega), fun w5 hw5 => ?_⟩
        subst hw5
        have hp := k1.puts [Value.int .u32 (U e)] (o := 0 + i.toNat)
        rw [putL_one, Nat.zero_add, he] at hp
        have hs := crcTab_set (n := i.toNat) (by omega)
        rw [T8] at hs
        rw [hs] at hp
        refine ⟨⟨by omega, by omega, Below_puts _ e3 hbb, k0.puts_ne hne, ?_⟩, by simp only [hw]; omega⟩
        rw [hw, toNat_next h0, Nat.zero_add, he]
        exact hp
  · have hi := of_decide_eq_false hi
    have hn : i.toNat = 256 := by omega
    rw [hn] at k1
    refine ⟨tabF 256, crcTab_len (by omega), k1.all, k0.writable (by rw [List.length_map, List.length_replicate]; omega), fun w6 hw6 => ?_⟩
    subst hw6
    have hp := k0.puts ((tabF 256).map (Value.int .u32)) (o := 0)
    have hq := putL_append [] ((List.replicate 256 0).map (Value.int .u32)) [] ((tabF 256).map (Value.int .u32)) (by rw [List.length_map, List.length_map, List.length_replicate, crcTab_len (by omega)])
    simp only [List.nil_append, List.append_nil, List.length_nil] at hq
    rw [hq] at hp
    exact ⟨tabF 256, crcTab_len (by omega), hp.all, h _ (Below_puts _ e3 (by omega))⟩

theorem crcTab_get {i : Nat} (h : i < 256) : ((tabF 256).map (Value.int .u32))[i]? = some (Value.int .u32 (T8 i)) := by
  unfold tabF
  rw [List.getElem?_map, List.getElem?_append_left (by rw [List.length_map, List.length_range]; exact h), List.getElem?_map, List.getElem?_range h]; rfl

theorem sp_sum_More {c : BitVec 32} {s : Slc} {w : World} {R : Int → World → Prop} {l : List UInt8} (hs : SrcAt w s 1 (l.map bV)) (hl : s.len ≤ 4611686018427387904)
    (h : ∀ w', Ext w w' → R (U (~~~ crcF (~~~ c) l)) w') : C_sum_More (U c) s w R := by
  apply S_sum_More
  unfold F_sum_More
  refine sp_sum_table fun w1 e1 _ b w2 hb hw2 => ?_
  have e2 : Ext w w2 := e1.trans (Ext.new hw2)
  have k0 : Blk w2 b ((List.replicate 256 0).map (Value.int .u32)) := Blk.new hb hw2
  refine ⟨k0.writable (by rw [List.length_map, List.length_replicate]; omega), fun w3 hw3 => ?_⟩
  have hbb : w.heap.size ≤ b := by have := e1.size; omega
  have k1 := k0.puts ((tabF 256).map (Value.int .u32)) (o := 0)
  have hq := putL_append [] ((List.replicate 256 0).map (Value.int .u32)) [] ((tabF 256).map (Value.int .u32)) (by rw [List.length_map, List.length_map, List.length_replicate, crcTab_len (by omega)])
  simp only [List.nil_append, List.append_nil, List.length_nil] at hq
  rw [hq] at k1
  have e3 : Ext w w3 := hw3 ▸ Below_puts _ e2 hbb
  rw [← hw3] at k1
  have hs3 := e3.src hs
  have hlen := hs.len_eq
  refine ⟨fun n i w' => w' = w3 ∧ 0 ≤ i ∧ i ≤ s.len ∧ ∃ d, n = U d ∧ crcF d (l.drop i.toNat) = crcF (~~~ c) l, fun n i w' => s.len - i.toNat, ⟨rfl, by omega, by omega, ~~~c, U_not' c, by simp⟩, ?_⟩
  rintro _ i _ ⟨rfl, h0, h1, d, rfl, hb⟩
  unfold F_sum_More_L0
  refine ⟨fun hi => ?_, fun hi => ?_⟩
  · have hi := of_decide_eq_true hi
    obtain ⟨ha, x, hx, hc⟩ := hs3.get h0 hi
    rw [drop_get hx, crcF] at hb
    have hxl := x.toNat_lt
    have hdl := U_lt d
    have ew : IntKind.u8.wrap (U d) = ((d.toNat % 256 : Nat) : Int) := by rw [wrap_u8]; unfold U; exact (Int.natCast_emod d.toNat 256).symm
    have hx8 : d.toNat % 256 ^^^ x.toNat < 2 ^ 8 := Nat.xor_lt_two_pow (by omega) (by omega)
    have ex : bxor .u8 (IntKind.u8.wrap (U d)) (x.toNat : Int) = ((d.toNat % 256 ^^^ x.toNat : Nat) : Int) := by
      rw [ew, bxor_bare (k := .u8) rfl (by show _ < 256; omega) (by show _ < 256; omega)]
    have hw := wrap_next h0 hi hl
    refine ⟨ha, h0, hi, (x.toNat : Int), hc, ?_, ?_, T8 (d.toNat % 256 ^^^ x.toNat), ?_, ?_⟩
    · rw [ex]; omega
    · rw [ex]; omega
    · rw [ex, Int.toNat_natCast, Nat.zero_add]
      exact k1.cell (crcTab_get hx8)
    · refine ⟨⟨rfl, by omega, by omega, stepN 8 (d ^^^ BitVec.ofNat 32 x.toNat), ?_, by rw [hw, toNat_next h0]; exact hb⟩, by simp only [hw]; omega⟩
      rw [T8, U_shr, U_xor, crc_table _ _ hxl]
  · have hi := of_decide_eq_false hi
    rw [drop_end (by omega), crcF] at hb
    have h := h _ e3
    rw [← hb] at h
    rw [U_not']; exact h

theorem sp_sum_CRC {s : Slc} {w : World} {R : Int → World → Prop} {l : List UInt8} (hs : SrcAt w s 1 (l.map bV)) (hl : s.len ≤ 4611686018427387904)
    (h : ∀ w', Ext w w' → R (U (~~~ crcF (~~~ 0#32) l)) w') : C_sum_CRC s w R := by
  apply S_sum_CRC
  unfold F_sum_CRC
  exact sp_sum_More (c := 0#32) hs hl h
end Go.Proofs.YtpdegdnigcnjiaaGreatDoor

namespace Go.Proofs.YtpdegdnigcnjiaaGreatDoor
open Go
set_option linter.unusedVariables false
set_option linter.unusedSimpArgs false

theorem sp_towpathref03_More {c : BitVec 32} {s : Slc} {w : World} {R : Int → World → Prop} {l : List UInt8} (hs : SrcAt w s 1 (l.map bV)) (hl : s.len ≤ 4611686018427387904)
    (h : R (U (~~~ crcF (~~~ c) l)) w) : C_towpathref03_More (U c) s w R := by
  apply S_towpathref03_More
  unfold F_towpathref03_More
  have hlen := hs.len_eq
  refine ⟨fun n i w' => w' = w ∧ 0 ≤ i ∧ i ≤ s.len ∧ ∃ d, n = U d ∧ crcF d (l.drop i.toNat) = crcF (~~~ c) l, fun n i w' => s.len - i.toNat, ⟨rfl, by omega, by omega, ~~~c, U_not c, by simp⟩, ?_⟩
  rintro _ i _ ⟨rfl, h0, h1, d, rfl, hb⟩
  unfold F_towpathref03_More_L0
  refine ⟨fun hi => ?_, fun hi => ?_⟩
  · have hi := of_decide_eq_true hi
    obtain ⟨ha, x, hx, hc⟩ := hs.get h0 hi
    rw [drop_get hx, crcF] at hb
    have hxl := x.toNat_lt
    refine ⟨ha, h0, hi, (x.toNat : Int), hc, fun c1 k w' => w' = _ ∧ 0 ≤ k ∧ k ≤ 8 ∧ ∃ e, c1 = U e ∧ stepN (8 - k.toNat) e = stepN 8 (d ^^^ BitVec.ofNat 32 x.toNat), fun c1 k w' => 8 - k.toNat, ⟨rfl, by omega, by omega, d ^^^ BitVec.ofNat 32 x.toNat, ?_, rfl⟩, ?_⟩
    · rw [u32_in _ (by omega) (by omega)]
      rw [show ((x.toNat : Nat) : Int) = U (BitVec.ofNat 32 x.toNat) from by
        unfold U; rw [BitVec.toNat_ofNat, Nat.mod_eq_of_lt (by omega)], U_xor]
    · rintro _ k _ ⟨rfl, k0, k1, e, rfl, he⟩
      unfold F_towpathref03_More_L1
      have hwi := wrap_next h0 hi hl
      refine ⟨fun hk => ?_, fun hk => ?_⟩
      · have hk := of_decide_eq_true hk
        have hw : IntKind.i64.wrap (k + 1) = k + 1 := i64_in _ (by omega) (by omega)
        rw [stepN_succ (n := 0) k0 hk] at he
        refine ⟨fun ho => ?_, fun ho => ?_⟩
        · unfold F_towpathref03_More_k2
          exact ⟨⟨rfl, by omega, by omega, step e, step_odd ho, by rw [hw]; exact he⟩, by simp only [hw]; omega⟩
        · unfold F_towpathref03_More_k2
          exact ⟨⟨rfl, by omega, by omega, step e, step_even ho, by rw [hw]; exact he⟩, by simp only [hw]; omega⟩
      · have hk := of_decide_eq_false hk
        rw [show 8 - k.toNat = 0 from by omega] at he
        have he : e = _ := he
        refine ⟨⟨rfl, by omega, by omega, e, rfl, ?_⟩, by simp only [hwi]; omega⟩
        rw [hwi, toNat_next h0, he]; exact hb
  · have hi := of_decide_eq_false hi
    rw [drop_end (by omega), crcF] at hb
    rw [← hb] at h
    rw [U_not]; exact h

theorem sp_towpathref03_CRC {s : Slc} {w : World} {R : Int → World → Prop} {l : List UInt8} (hs : SrcAt w s 1 (l.map bV)) (hl : s.len ≤ 4611686018427387904)
    (h : R (U (~~~ crcF (~~~ 0#32) l)) w) : C_towpathref03_CRC s w R := by
  apply S_towpathref03_CRC
  unfold F_towpathref03_CRC
  exact sp_towpathref03_More (c := 0#32) hs hl h
end Go.Proofs.YtpdegdnigcnjiaaGreatDoor

namespace Go.Proofs.YtpdegdnigcnjiaaGreatDoor
open Go
set_option linter.unusedVariables false
set_option linter.unusedSimpArgs false

section
variable {w0 : Base} {w : World} {fr : List Chunk}
theorem sp_ref05_Write {x : Wr} {R : Bool → World → Prop} (k : ∀ w', Ext w w' → R (decide (goodW x)) w') : C_towpathref05_Write x w R := by
  apply S_towpathref05_Write
  unfold F_towpathref05_Write
  intro b w1 hb hw
  have st : St ⟨w, []⟩ [(b, wV x)] w1 := (St.start w).alloc hb hw
  have k := k w1 st.ext
  have no : ¬ goodW x → R false w1 := fun h => by rw [decide_eq_false h] at k; exact k
  refine ⟨x.Key, st.cell 0 rfl rfl, S_towpathref05_Key (show F_towpathref05_Key _ _ _ from ⟨fun h1 => ⟨x.Val, st.cell 0 rfl rfl, ?_⟩, fun h1 => no fun hg => ?_⟩)⟩
  · simp only [Bool.and_eq_true, decide_eq_true_eq] at h1
    apply S_towpathref05_Val
    refine ⟨fun h2 => ⟨x.Drop, st.cell 0 rfl rfl, fun h3 => ?_, fun h3 => ⟨x.Val, st.cell 0 rfl rfl, ?_⟩⟩, fun h2 => no fun hg => ?_⟩
    · have h2 := of_decide_eq_true h2
      have h3 : x.Drop = false := by simpa using h3
      rw [decide_eq_true (show goodW x from ⟨by omega, by omega, by omega, fun h => by rw [h3] at h; cases h⟩)] at k; exact k
    · have h2 := of_decide_eq_true h2
      have h3 : x.Drop = true := by simpa using h3
      by_cases hv : x.Val.size = 0
      · rw [decide_eq_true (show goodW x from ⟨by omega, by omega, by omega, fun _ => hv⟩)] at k
        rw [hv]; exact k
      · rw [show (((x.Val.size : Nat) : Int) == 0) = false from by simpa using hv]
        exact no fun hg => hv (hg.2.2.2 h3)
    · have h2 := of_decide_eq_false h2
      have := hg.2.2.1; omega
  · have h1 : ¬ (((x.Key.size : Nat) : Int) ≥ 1 ∧ ((x.Key.size : Nat) : Int) ≤ 64) := by simpa using h1
    exact h1 ⟨by have := hg.1; omega, by have := hg.2.1; omega⟩

theorem sp_ref05_Check {t : T_api_Txn} {ws : List Wr} {R : Int → World → Prop} (hs : SrcAt w t.Writes 3 (ws.flatMap wV)) (hl : t.Writes.len ≤ 140737488351232)
    (k : ∀ w', Ext w w' → R (if okT t.Number ws then 0 else 1) w') : C_towpathref05_Check t w R := by
  apply S_towpathref05_Check
  unfold F_towpathref05_Check
  intro b w1 hb hw
  have st : St ⟨w, []⟩ [(b, txW t.Number t.Writes)] w1 := (St.start w).alloc hb hw
  have hsl := wr_len hs
  have no : ¬ okT t.Number ws → ∀ w', Ext w w' → R 1 w' := fun h w' e => by have := k w' e; rw [if_neg h] at this; exact this
  refine ⟨t.Number, st.cell 0 rfl rfl, ?_⟩
  apply S_towpathref05_Number
  unfold F_towpathref05_Check_k0
  refine ⟨fun h => ⟨fun _ => no (fun hg => ?_) w1 st.ext, fun h => (by cases h)⟩, fun h => ⟨t.Writes, st.cell 0 rfl rfl, fun h2 => no (fun hg => ?_) w1 st.ext, fun h2 => ?_⟩⟩
  · simp only [Bool.not_eq_true', Bool.and_eq_false_iff, decide_eq_false_iff_not] at h
    have := hg.1
    have := hg.2.1
    omega
  · have h2 := of_decide_eq_true h2
    have := hg.2.2.1; omega
  · simp only [Bool.not_eq_false', Bool.and_eq_true, decide_eq_true_eq] at h
    have h2 := of_decide_eq_false h2
    refine ⟨fun i w' => ∃ p : Nat, i = (p : Int) ∧ p ≤ t.Writes.len ∧ (∀ x ∈ ws.take p, goodW x) ∧ St ⟨w, []⟩ [(b, txW t.Number t.Writes)] w', fun i _ => t.Writes.len - i.toNat, ⟨0, rfl, by omega, by simp, st⟩, ?_⟩
    clear st
    rintro i w2 ⟨p, rfl, hp, hg, st⟩
    unfold F_towpathref05_Check_L1
    refine ⟨t.Writes, st.cell 0 rfl rfl, fun hi => ⟨t.Writes, st.cell 0 rfl rfl, ?_⟩, fun hi => ?_⟩
    · have hi := of_decide_eq_true hi
      obtain ⟨a, x, hx, hc⟩ := wr_atN (st.ext.src hs) (i := p) (by omega)
      have wp : IntKind.i64.wrap ((p : Int) + 1) = ((p + 1 : Nat) : Int) := by rw [i64_in _ (by omega) (by omega)]; omega
      refine ⟨a, by omega, hi, x, by rw [Int.toNat_natCast]; exact hc, sp_ref05_Write fun w3 e3 => ⟨fun hb => ?_, fun hb => ?_⟩⟩
      · have hb : ¬ goodW x := by simpa using hb
        exact no (fun hg => hb (hg.2.2.2 x (List.mem_of_getElem? hx))) w3 (st.keep e3).ext
      · have hb : goodW x := by simpa using hb
        rw [wp]
        refine ⟨⟨p + 1, rfl, by omega, fun y hy => ?_, st.keep e3⟩, by show _ - _ < _ - _; omega⟩
        rw [List.take_add_one, hx] at hy
        rcases List.mem_append.1 hy with hy | hy
        · exact hg y hy
        · have : y = x := by simpa using hy
          subst this; exact hb
    · have hi := of_decide_eq_false hi
      rw [List.take_of_length_le (by omega)] at hg
      have := k w2 st.ext
      rw [if_pos ⟨by omega, by omega, by omega, hg⟩] at this
      exact this
end
end Go.Proofs.YtpdegdnigcnjiaaGreatDoor

namespace Go.Proofs.YtpdegdnigcnjiaaGreatDoor
open Go
set_option linter.unusedVariables false
set_option linter.unusedSimpArgs false

section
variable {w0 : Base} {w : World} {fr : List Chunk}
theorem sp_ref05_Encode {t : T_api_Txn} {ws : List Wr} {R : Slc → Int → World → Prop} (st : St w0 fr w) (hs : ∀ l w', St w0 (l ++ fr) w' → SrcAt w' t.Writes 3 (ws.flatMap wV)) (hl : t.Writes.len ≤ 140737488351232)
    (k1 : ¬ okT t.Number ws → ∀ w', St w0 fr w' → R ⟨none, 0, 0⟩ 1 w')
    (k0 : okT t.Number ws → ∀ s rb w', RowC 1 s ((encT t.Number ws).map bV) rb → St w0 (rb ++ fr) w' → R s 0 w') : C_towpathref05_Encode t w R := by
  apply S_towpathref05_Encode
  unfold F_towpathref05_Encode
  intro b w1 hb hw
  have st1 : St w0 ((b, txW t.Number t.Writes) :: fr) w1 := st.alloc hb hw
  have hsl := wr_len (hs [] w st)
  refine ⟨t, ⟨st1.cell 0 rfl rfl, st1.cell 0 rfl rfl, trivial⟩, sp_ref05_Check (hs [_] w1 st1) hl fun w2 e2 => ?_⟩
  have st2 := st1.keep e2
  by_cases hok : okT t.Number ws
  rotate_left
  · rw [if_neg hok]
    exact ⟨fun _ => k1 hok w2 st2.drop1, fun h => by simp at h⟩
  rw [if_pos hok]
  refine ⟨fun h => by simp at h, fun _ => ⟨t.Number, st2.cell 0 rfl rfl, ?_⟩⟩
  obtain ⟨g1, g2, g3, g4⟩ := hok
  obtain ⟨n, hn⟩ := toN (show 0 ≤ t.Number by omega)
  have wu : IntKind.u64.wrap t.Number = ((n : Nat) : Int) := by rw [hn]; exact u64_in _ (by omega) (by omega)
  rw [wu]
  have v1 := varB_len 10 n
  have v2 := varB_len 10 ws.length
  refine sp_refW_Var (xs := []) (wb := []) RowC.nil st2 (by omega) (by show 0 + 20 ≤ _; omega) fun s3 wb3 w3 r3 st3 => ⟨t.Writes, st3.drop.cell 0 rfl rfl, ?_⟩
  have wl : IntKind.u64.wrap ((t.Writes.len : Nat) : Int) = ((ws.length : Nat) : Int) := by rw [hsl]; exact u64_in _ (by omega) (by omega)
  rw [wl]
  refine sp_refW_Var r3 st3 (by omega) (by rw [List.nil_append]; unfold varF; omega) fun s4 wb4 w4 r4 st4 => ?_
  have key : ∀ p, ((ws.take p).flatMap encW).length ≤ 1109 * p := fun p => by
    have := encWs_len (ws := ws.take p) fun x hx => g4 x (List.mem_of_mem_take hx)
    rw [List.length_take] at this
    have : 1109 * min p ws.length ≤ 1109 * p := Nat.mul_le_mul_left _ (Nat.min_le_left ..)
    omega
  refine ⟨fun s i w' => ∃ (p : Nat) (wb : List Chunk), i = (p : Int) ∧ p ≤ t.Writes.len ∧ RowC 1 s ((varF n ++ (varF ws.length ++ (ws.take p).flatMap encW)).map bV) wb ∧ St w0 (wb ++ ((b, txW t.Number t.Writes) :: fr)) w', fun _ i _ => t.Writes.len - i.toNat, ⟨0, wb4, rfl, by omega, by simpa using r4, st4⟩, ?_⟩
  clear r3 st3 r4 st4
  rintro s5 i w5 ⟨p, wb5, rfl, hp, r5, st5⟩
  unfold F_towpathref05_Encode_L0
  refine ⟨t.Writes, st5.drop.cell 0 rfl rfl, fun hi => ⟨t.Writes, st5.drop.cell 0 rfl rfl, ?_⟩, fun hi => ?_⟩
  rotate_left
  · have hi := of_decide_eq_false hi
    rw [List.take_of_length_le (by omega)] at r5
    refine k0 ⟨g1, g2, g3, g4⟩ s5 wb5 w5 ?_ (st5.weak [(b, txW t.Number t.Writes)] (perm_of_sum fun f_ => by simp only [List.map_append, List.map_cons, List.map_nil, List.sum_append, List.sum_cons, List.sum_nil, List.append_nil]; omega))
    unfold encT
    rw [show t.Number.toNat = n by omega]
    exact r5
  have hi := of_decide_eq_true hi
  obtain ⟨a, x, hx, hc⟩ := wr_atN (hs (wb5 ++ [(b, txW t.Number t.Writes)]) w5 (by simpa using st5)) (i := p) (by omega)
  have hg := g4 x (List.mem_of_getElem? hx)
  have hkp := key p
  have wp : IntKind.i64.wrap ((p : Int) + 1) = ((p + 1 : Nat) : Int) := by rw [i64_in _ (by omega) (by omega)]; omega
  have hlen5 : (varF n ++ (varF ws.length ++ (ws.take p).flatMap encW)).length ≤ 40000 := by
    simp only [List.length_append]; unfold varF; omega
  have htk : varF n ++ (varF ws.length ++ (ws.take (p + 1)).flatMap encW) = (varF n ++ (varF ws.length ++ (ws.take p).flatMap encW)) ++ encW x := by
    rw [List.take_add_one, hx, List.flatMap_append]
    simp
  refine ⟨a, by omega, hi, x, by rw [Int.toNat_natCast]; exact hc, fun b3 w7 hb3 hw7 => ?_⟩
  have st7 : St w0 ((b3, wV ⟨ByteArray.empty, ByteArray.empty, false⟩) :: (wb5 ++ ((b, txW t.Number t.Writes) :: fr))) w7 := st5.alloc hb3 hw7
  refine ⟨st7.writable 0 rfl (by decide), fun w8 hw8 => ?_⟩
  have st8 : St w0 ((b3, wV x) :: (wb5 ++ ((b, txW t.Number t.Writes) :: fr))) w8 := st7.put0 hw8
  refine ⟨x.Key, st8.cell 0 rfl rfl, ?_⟩
  have st8 : St w0 (wb5 ++ ((b3, wV x) :: (b, txW t.Number t.Writes) :: fr)) w8 := st8.perm (perm_of_sum fun f_ => by simp only [List.map_append, List.map_cons, List.map_nil, List.sum_append, List.sum_cons, List.sum_nil, List.append_nil]; omega)
  have h64 := hg.2.1
  have h1024 := hg.2.2.1
  refine sp_refW_Text r5 st8 (by omega) fun s9 wb9 w9 r9 st9 => ⟨x.Drop, st9.drop.cell 0 rfl rfl, fun hd => ?_, fun hd => ?_⟩
  · have vk := varB_len 10 x.Key.size
    have hks : x.Key.data.toList.length = x.Key.size := by simp
    have hl9 : ((varF n ++ (varF ws.length ++ (ws.take p).flatMap encW)) ++ (varF x.Key.size ++ x.Key.data.toList)).length + 1 ≤ 140737488351232 := by
      simp only [List.length_append] at hlen5 ⊢; unfold varF at *; omega
    intro b4 w10 hb4 hw10
    refine ref_push (x := 1) r9 st9 hl9 rfl hb4 hw10 fun s' wb' w' r' st' => ?_
    unfold F_towpathref05_Encode_k1
    rw [wp]
    refine ⟨⟨p + 1, wb', rfl, by omega, ?_, st'.weak [(b3, wV x)] (perm_of_sum fun f_ => by simp only [List.map_append, List.map_cons, List.map_nil, List.sum_append, List.sum_cons, List.sum_nil, List.append_nil]; omega)⟩, by show _ - _ < _ - _; omega⟩
    have eW : encW x = (varF x.Key.size ++ x.Key.data.toList) ++ [1] := by unfold encW; rw [if_pos hd, if_pos hd]; rfl
    rw [htk, eW, ← List.append_assoc (varF n ++ _)]
    exact r'
  · have vk := varB_len 10 x.Key.size
    have hks : x.Key.data.toList.length = x.Key.size := by simp
    have hl9 : ((varF n ++ (varF ws.length ++ (ws.take p).flatMap encW)) ++ (varF x.Key.size ++ x.Key.data.toList)).length ≤ 50000 := by
      simp only [List.length_append] at hlen5 ⊢; unfold varF at *; omega
    intro b4 w10 hb4 hw10
    refine ref_push (x := 0) r9 st9 (by omega) rfl hb4 hw10 fun s' wb' w' r' st' => ⟨x.Val, st'.drop.cell 0 rfl rfl, ?_⟩
    refine sp_refW_Text r' st' (by rw [List.length_append, List.length_singleton]; omega) fun s2 wb2 w2 r2 st2 => ?_
    unfold F_towpathref05_Encode_k1
    rw [wp]
    refine ⟨⟨p + 1, wb2, rfl, by omega, ?_, st2.weak [(b3, wV x)] (perm_of_sum fun f_ => by simp only [List.map_append, List.map_cons, List.map_nil, List.sum_append, List.sum_cons, List.sum_nil, List.append_nil]; omega)⟩, by show _ - _ < _ - _; omega⟩
    have eW : encW x = ((varF x.Key.size ++ x.Key.data.toList) ++ [0]) ++ (varF x.Val.size ++ x.Val.data.toList) := by unfold encW; rw [if_neg (by rw [hd]; decide), if_neg (by rw [hd]; decide)]; rw [List.append_assoc (varF x.Key.size ++ x.Key.data.toList)]; rfl
    rw [htk, eW, ← List.append_assoc (varF n ++ _), ← List.append_assoc (varF n ++ _)]
    exact r2
end
end Go.Proofs.YtpdegdnigcnjiaaGreatDoor

namespace Go.Proofs.YtpdegdnigcnjiaaGreatDoor
open Go
set_option linter.unusedVariables false
set_option linter.unusedSimpArgs false

theorem one_w : ∀ ws : List Wr, oneCells (ws.flatMap wV) = true
  | [] => rfl
  | x :: r => by
    have := one_w r
    unfold oneCells at this ⊢
    rw [List.flatMap_cons, List.all_append, this]; rfl
theorem one_i : ∀ xs : List Int, oneCells (xs.map iV) = true
  | [] => rfl
  | x :: r => by
    have := one_i r
    unfold oneCells at this ⊢
    rw [List.map_cons, List.all_cons, this]; rfl
theorem src_none {w : World} {s : Slc} {sz : Nat} {src : List Value} (hs : SrcAt w s sz src) (hp : s.ptr = none) : src = [] := by
  obtain ⟨_, h2 | ⟨h2, _⟩⟩ := hs
  · exact h2
  · rw [hp] at h2; cases h2
theorem nil_w {ws : List Wr} (h : ws.flatMap wV = []) : ws = [] := by
  cases ws with
  | nil => rfl
  | cons x r => rw [List.flatMap_cons] at h; cases h
theorem chkL_at : ∀ {ts : List Tx} {i p : Nat} {t : Tx}, ts[p]? = some t → chkL i (ts.drop p) = if okT t.1 t.2 then (if t.1 = (i : Int) then chkL (i + 1) (ts.drop (p + 1)) else 6) else 1 := by
  intro ts i p t h
  obtain ⟨hl, rfl⟩ := List.getElem?_eq_some_iff.1 h
  rw [List.drop_eq_getElem_cons hl]
  rfl
theorem chkL_len {ts : List Tx} (h : chkL 1 ts = 0) : ts.length ≤ 65536 := by
  by_cases h0 : ts.length = 0
  · omega
  · have hg : ts[ts.length - 1]? = some (ts[ts.length - 1]'(by omega)) := List.getElem?_eq_getElem (by omega)
    obtain ⟨a, b⟩ := chkL_zero h hg
    have := a.2.1
    omega

section
variable {w0 : Base} {w : World} {fr : List Chunk}
theorem sp_turns_1 {t : T_api_Txn} {ws : List Wr} {b n : Nat} {R : Int → World → Prop} (st : St w0 ((b, [iV (n : Int)]) :: fr) w) (hs : SrcAt w t.Writes 3 (ws.flatMap wV)) (hl : t.Writes.len ≤ 140737488351232) (hn : n ≤ 140737488351232)
    (k1 : ¬ okT t.Number ws → ∀ w', St w0 ((b, [iV (n : Int)]) :: fr) w' → R 1 w') (k2 : okT t.Number ws → t.Number ≠ (n : Int) → ∀ w', St w0 ((b, [iV (n : Int)]) :: fr) w' → R 6 w') (k3 : okT t.Number ws → t.Number = (n : Int) → ∀ w', St w0 ((b, [iV ((n + 1 : Nat) : Int)]) :: fr) w' → R 0 w') : C_logfile_turns_1 t (some ⟨b, 0, none⟩) w R := by
  apply S_logfile_turns_1
  unfold F_logfile_turns_1
  intro b1 w1 hb1 hw1
  have e1 : Ext w w1 := Ext.new hw1
  have st1 : St w0 ((b1, txW t.Number t.Writes) :: (b, [iV (n : Int)]) :: fr) w1 := st.alloc hb1 hw1
  refine ⟨t, ⟨st1.cell 0 rfl rfl, st1.cell 0 rfl rfl, trivial⟩, sp_Check (e1.src hs) hl fun w2 e2 => ⟨fun h => ?_, fun h => ?_⟩⟩
  · by_cases hok : okT t.Number ws
    · rw [if_pos hok] at h; cases h
    · rw [if_neg hok]; exact k1 hok w2 (st1.keep e2).drop1
  · by_cases hok : okT t.Number ws
    · have st2 := st1.keep e2
      refine ⟨t.Number, st2.cell 0 rfl rfl, rfl, (n : Int), st2.cell 1 rfl rfl, fun h2 => ?_, fun h2 => ⟨rfl, (n : Int), st2.cell 1 rfl rfl, st2.writable 1 rfl (by show 0 + 1 ≤ 1; omega), fun w3 hw3 => ?_⟩⟩
      · have h2 : t.Number ≠ (n : Int) := by simpa using h2
        exact k2 hok h2 w2 st2.drop1
      · have h2 : t.Number = (n : Int) := by simpa using h2
        have st3 := st2.put1 hw3
        have wn : IntKind.i64.wrap ((n : Int) + 1) = ((n + 1 : Nat) : Int) := by rw [i64_in _ (by omega) (by omega)]; omega
        rw [wn] at st3
        exact k3 hok h2 w3 st3.drop1
    · rw [if_neg hok] at h; cases h

theorem sp_lf_Check {sl : Slc} {ts : List Tx} {sls : List Slc} {R : Int → World → Prop} (ha : LAt w sl ts sls) (hl : sl.len ≤ 4398046511104)
    (k : ∀ w', Ext w w' → R (chkL 1 ts) w') : C_logfile_Check sl w R := by
  apply S_logfile_Check
  apply S_logfile_turns
  intro b w1 hb hw
  have st : St ⟨w, []⟩ [(b, [iV 0])] w1 := (St.start w).alloc hb hw
  refine ⟨st.writable 0 rfl (by decide), fun w2 hw2 => ?_⟩
  have st : St ⟨w, []⟩ [(b, [iV 1])] w2 := st.put0 hw2
  have hsl := ha.slen
  refine ⟨fun i w' => ∃ p : Nat, i = (p : Int) ∧ p ≤ sl.len ∧ chkL 1 ts = chkL (p + 1) (ts.drop p) ∧ St ⟨w, []⟩ [(b, [iV ((p + 1 : Nat) : Int)])] w', fun i _ => sl.len - i.toNat, ⟨0, rfl, by omega, by simp, st⟩, ?_⟩
  clear st hw hw2
  rintro i w3 ⟨p, rfl, hp, hc, st⟩
  unfold F_logfile_Check_L0
  refine ⟨fun hi => ?_, fun hi => ?_⟩
  · have hi := of_decide_eq_true hi
    have hpl : p < sl.len := by omega
    obtain ⟨a, t, s, ht, hs, hct, hsr, hcp1, hcp2⟩ := (LAt.ext ha st.ext).get hpl
    refine ⟨a, by omega, hi, ⟨t.1, s⟩, by rw [Int.toNat_natCast]; exact hct, fun b1 w4 hb1 hw4 => ?_⟩
    have st4 : St ⟨w, []⟩ ((b1, txW 0 ⟨none, 0, 0⟩) :: [(b, [iV ((p + 1 : Nat) : Int)])]) w4 := st.alloc hb1 hw4
    refine ⟨st4.writable 0 rfl (by decide), fun w5 hw5 => ?_⟩
    have st5 : St ⟨w, []⟩ ((b1, txW t.1 s) :: [(b, [iV ((p + 1 : Nat) : Int)])]) w5 := st4.put0 hw5
    refine ⟨⟨t.1, s⟩, ⟨st5.cell 0 rfl rfl, st5.cell 0 rfl rfl, trivial⟩, CallsV.mk (all := #[Value.agg #[Value.int .i64 t.1, Value.slice s.ptr s.len s.cap], Value.pointer (some ⟨b, 0, none⟩)]) (by kernel_rfl) rfl ?_⟩
    have wp : IntKind.i64.wrap ((p : Int) + 1) = ((p + 1 : Nat) : Int) := by rw [i64_in _ (by omega) (by omega)]; omega
    have hcd := chkL_at (i := p + 1) ht
    have hsr5 : SrcAt w5 s 3 (t.2.flatMap wV) := st5.ext.src (ha.wr p t s ht hs)
    refine sp_turns_1 (t := ⟨t.1, s⟩) (ws := t.2) st5.drop1 hsr5 (by show s.len ≤ _; omega) (by omega) (fun h1 w' st' => ?_) (fun h1 h2 w' st' => ?_) fun h1 h2 w' st' => ?_
    · refine ⟨fun _ => ?_, fun h => by simp at h⟩
      have := k w' st'.ext
      rw [hc, hcd, if_neg h1] at this; exact this
    · refine ⟨fun _ => ?_, fun h => by simp at h⟩
      have := k w' st'.ext
      rw [hc, hcd, if_pos h1, if_neg h2] at this; exact this
    · refine ⟨fun h => by simp at h, fun _ => ?_⟩
      rw [wp]
      refine ⟨⟨p + 1, rfl, by omega, ?_, st'⟩, by show _ - _ < _ - _; omega⟩
      rw [hc, hcd, if_pos h1, if_pos h2]
  · have hi := of_decide_eq_false hi
    have := k w3 st.ext
    rw [hc, List.drop_of_length_le (by omega)] at this
    exact this
end
end Go.Proofs.YtpdegdnigcnjiaaGreatDoor

namespace Go.Proofs.YtpdegdnigcnjiaaGreatDoor
open Go
set_option linter.unusedVariables false
set_option linter.unusedSimpArgs false

def crcN (l : List UInt8) : Nat := (~~~ crcF (~~~ 0#32) l).toNat
theorem crcN_lt (l : List UInt8) : crcN l < 256 ^ 4 := by have := (~~~ crcF (~~~ 0#32) l).isLt; exact this
def encR (t : Tx) : List UInt8 := varF (encT t.1 t.2).length ++ (encT t.1 t.2 ++ fixB 4 (crcN (encT t.1 t.2)))
def encL (ts : List Tx) : List UInt8 := ts.flatMap encR
theorem encR_len {t : Tx} (h : okT t.1 t.2) : (encR t).length ≤ 36020 := by
  have := encT_len h
  have a := varB_len 10 (encT t.1 t.2).length
  unfold encR varF
  rw [List.length_append, List.length_append, fixB_len]; omega
theorem encL_len : ∀ {ts : List Tx}, (∀ t ∈ ts, okT t.1 t.2) → (encL ts).length ≤ 36020 * ts.length
  | [], _ => by simp [encL]
  | t :: ts, h => by
    have h1 := encR_len (h t (List.mem_cons_self ..))
    have h2 := encL_len fun y hy => h y (List.mem_cons_of_mem _ hy)
    unfold encL at h2 ⊢
    rw [List.flatMap_cons, List.length_append, List.length_cons]; omega

end Go.Proofs.YtpdegdnigcnjiaaGreatDoor

namespace Go.Proofs.YtpdegdnigcnjiaaGreatDoor
open Go
set_option linter.unusedVariables false
set_option linter.unusedSimpArgs false

section
variable {w0 : Base} {w : World} {fr : List Chunk}
theorem chkL_all {ts : List Tx} {i : Nat} (h : chkL i ts = 0) : ∀ t ∈ ts, okT t.1 t.2 := fun t ht => by
  obtain ⟨k, hk⟩ := List.mem_iff_getElem?.1 ht
  exact (chkL_zero h hk).1
theorem sp_lf_Encode {sl : Slc} {ts : List Tx} {sls : List Slc} {R : Slc → Int → World → Prop} (st : St w0 fr w) (hs : ∀ l w', St w0 (l ++ fr) w' → LAt w' sl ts sls) (hl : sl.len ≤ 4398046511104)
    (k1 : chkL 1 ts ≠ 0 → ∀ w', St w0 fr w' → R ⟨none, 0, 0⟩ (chkL 1 ts) w')
    (k0 : chkL 1 ts = 0 → ∀ s rb w', RowC 1 s ((encL ts).map bV) rb → St w0 (rb ++ fr) w' → s.len = (encL ts).length → R s 0 w') : C_logfile_Encode sl w R := by
  apply S_logfile_Encode
  unfold F_logfile_Encode
  have hla := hs [] w st
  have hsl := hla.slen
  refine sp_lf_Check hla hl fun w1 e1 => ⟨fun h => ?_, fun h => ?_⟩
  · exact k1 (by simpa using h) w1 (st.keep e1)
  have hc : chkL 1 ts = 0 := by simpa using h
  have hall := chkL_all hc
  have htl := chkL_len hc
  refine sp_NewWriter (st.keep e1) fun wr bsW w2 oW st2 => ?_
  refine ⟨fun i w' => ∃ (p : Nat) (bsW : List Chunk), i = (p : Int) ∧ p ≤ sl.len ∧ WrO wr (encL (ts.take p)) bsW ∧ St w0 (bsW ++ fr) w', fun i _ => sl.len - i.toNat, ⟨0, bsW, rfl, by omega, oW, st2⟩, ?_⟩
  clear st2 oW
  rintro i w3 ⟨p, bsW, rfl, hp, oW, st3⟩
  have hcur : (encL (ts.take p)).length ≤ 36020 * 65536 := by
    have h1 := encL_len (ts := ts.take p) fun t ht => hall t (List.mem_of_mem_take ht)
    rw [List.length_take] at h1
    omega
  unfold F_logfile_Encode_L0
  refine ⟨fun hi => ?_, fun hi => ?_⟩
  · have hi := of_decide_eq_true hi
    obtain ⟨a, t, s, ht, hss, hct, hsr, hcp1, hcp2⟩ := (hs bsW w3 st3).get (p := p) (by omega)
    have hok := hall t (List.mem_of_getElem? ht)
    have hel := encT_len hok
    refine ⟨a, by omega, hi, ⟨t.1, s⟩, by rw [Int.toNat_natCast]; exact hct, fun b1 w4 hb1 hw4 => ?_⟩
    have st4 : St w0 ((b1, txW 0 ⟨none, 0, 0⟩) :: (bsW ++ fr)) w4 := st3.alloc hb1 hw4
    refine ⟨st4.writable 0 rfl (by decide), fun w5 hw5 => ?_⟩
    have st5 : St w0 ((b1, txW t.1 s) :: (bsW ++ fr)) w5 := st4.put0 hw5
    have hsw : ∀ l w', St w0 (l ++ ((b1, txW t.1 s) :: (bsW ++ fr))) w' → SrcAt w' s 3 (t.2.flatMap wV) := fun l w' st' => by
      have := hs (l ++ ((b1, txW t.1 s) :: bsW)) w' (by simpa using st')
      exact this.wr p t s ht hss
    have hwl : s.len = t.2.length := wr_len hsr
    refine ⟨⟨t.1, s⟩, ⟨st5.cell 0 rfl rfl, st5.cell 0 rfl rfl, trivial⟩, sp_Encode (t := ⟨t.1, s⟩) (ws := t.2) st5 hsw (by show s.len ≤ _; omega) (fun h => absurd hok h) fun _ s2 rb w6 ro st6 hsl2 => ?_⟩
    have hsl2 : s2.len = (encT t.1 t.2).length := hsl2
    have st6 : St w0 (bsW ++ (rb ++ fr)) w6 := st6.weak [(b1, txW t.1 s)] (perm_of_sum fun f_ => by simp only [List.map_append, List.map_cons, List.map_nil, List.sum_append, List.sum_cons, List.sum_nil, List.append_nil]; omega)
    refine ⟨mkS (encT t.1 t.2), ?_, ?_⟩
    · rw [mkS_cells]
      exact ro.src (l := bsW ++ fr) (st6.perm (perm_of_sum fun f_ => by simp only [List.map_append, List.map_cons, List.map_nil, List.sum_append, List.sum_cons, List.sum_nil, List.append_nil]; omega))
    refine sp_Writer_Text st6 oW (by rw [mkS_size]; omega) fun bsW w7 oW st7 => ?_
    rw [mkS_size, mkS_toList] at oW
    have st7b : St w0 (rb ++ (bsW ++ fr)) w7 := st7.perm (perm_of_sum fun f_ => by simp only [List.map_append, List.map_cons, List.map_nil, List.sum_append, List.sum_cons, List.sum_nil, List.append_nil]; omega)
    refine sp_sum_CRC (ro.src st7b) (by omega) fun w8 e8 => ?_
    have st8 : St w0 (bsW ++ fr) w8 := (st7.keep e8).weak rb (perm_of_sum fun f_ => by simp only [List.map_append, List.map_cons, List.map_nil, List.sum_append, List.sum_cons, List.sum_nil, List.append_nil]; omega)
    have hcl := crcN_lt (encT t.1 t.2)
    have wu : IntKind.u64.wrap (U (~~~ crcF (~~~ 0#32) (encT t.1 t.2))) = ((crcN (encT t.1 t.2) : Nat) : Int) := u64_in _ (by show (0 : Int) ≤ ((crcN _ : Nat) : Int); omega) (by show ((crcN _ : Nat) : Int) ≤ _; omega)
    rw [wu]
    have v1 := varB_len 10 (encT t.1 t.2).length
    refine sp_Writer_Fixed (n := crcN (encT t.1 t.2)) st8 oW (by omega) (by rw [List.length_append, List.length_append]; unfold varF; omega) (fun h => by omega) (fun _ _ h => absurd h (by show ¬ (256 ^ 4 ≤ _); omega)) fun _ _ _ bsW w9 oW st9 => ?_
    have wp : IntKind.i64.wrap ((p : Int) + 1) = ((p + 1 : Nat) : Int) := by rw [i64_in _ (by omega) (by omega)]; omega
    rw [wp]
    refine ⟨⟨p + 1, bsW, rfl, by omega, ?_, st9⟩, by show _ - _ < _ - _; omega⟩
    have e : encL (ts.take (p + 1)) = (encL (ts.take p) ++ (varF (encT t.1 t.2).length ++ encT t.1 t.2)) ++ fixB (4 : Int).toNat (crcN (encT t.1 t.2)) := by
      rw [List.take_add_one, ht]
      unfold encL
      rw [List.flatMap_append]
      show _ ++ (encR t ++ []) = _
      unfold encR
      simp only [List.append_assoc, List.append_nil]
      rfl
    rw [e]; exact oW
  · have hi := of_decide_eq_false hi
    rw [List.take_of_length_le (by omega)] at oW hcur
    refine sp_Writer_Done st3 oW (by omega) fun s rb w4 ro st4 hl4 => k0 hc s rb w4 ro (st4.weak bsW (perm_of_sum fun f_ => by simp only [List.map_append, List.map_cons, List.map_nil, List.sum_append, List.sum_cons, List.sum_nil, List.append_nil]; omega)) hl4
end
end Go.Proofs.YtpdegdnigcnjiaaGreatDoor

namespace Go.Proofs.YtpdegdnigcnjiaaGreatDoor
open Go
set_option linter.unusedVariables false
set_option linter.unusedSimpArgs false

section
variable {w0 : Base} {w : World} {fr : List Chunk}
theorem sp_ref06_Check {sl : Slc} {ts : List Tx} {sls : List Slc} {R : Int → World → Prop} (ha : LAt w sl ts sls) (hl : sl.len ≤ 4398046511104)
    (k : ∀ w', Ext w w' → R (chkL 1 ts) w') : C_towpathref06_Check sl w R := by
  apply S_towpathref06_Check
  have hsl := ha.slen
  refine ⟨fun i w' => ∃ p : Nat, i = (p : Int) ∧ p ≤ sl.len ∧ chkL 1 ts = chkL (p + 1) (ts.drop p) ∧ Ext w w', fun i _ => sl.len - i.toNat, ⟨0, rfl, by omega, by simp, Ext.refl _⟩, ?_⟩
  rintro i w3 ⟨p, rfl, hp, hc, e⟩
  unfold F_towpathref06_Check_L0
  refine ⟨fun hi => ?_, fun hi => ?_⟩
  · have hi := of_decide_eq_true hi
    have hpl : p < sl.len := by omega
    obtain ⟨a, t, s, ht, hs, hct, hsr, hcp1, hcp2⟩ := (LAt.ext ha e).get hpl
    refine ⟨a, by omega, hi, ⟨t.1, s⟩, by rw [Int.toNat_natCast]; exact hct, ?_⟩
    have wp : IntKind.i64.wrap ((p : Int) + 1) = ((p + 1 : Nat) : Int) := by rw [i64_in _ (by omega) (by omega)]; omega
    have hcd := chkL_at (i := p + 1) ht
    refine sp_ref05_Check (t := ⟨t.1, s⟩) (ws := t.2) hsr (by show s.len ≤ _; omega) fun w4 e4 => ?_
    by_cases hok : okT t.1 t.2
    · have hok' : okT (⟨t.1, s⟩ : T_api_Txn).Number t.2 := hok
      rw [if_pos hok']
      refine ⟨fun h => by simp at h, fun _ => ?_⟩
      have hct4 := e4.cells hct
      refine ⟨a, by omega, hi, t.1, by rw [Int.toNat_natCast]; exact hct4.1, ?_⟩
      rw [wp]
      refine ⟨fun h => ?_, fun h => ?_⟩
      · have h : t.1 ≠ ((p + 1 : Nat) : Int) := by simpa using h
        have := k w4 (e.trans e4)
        rw [hc, hcd, if_pos hok, if_neg h] at this; exact this
      · have h : t.1 = ((p + 1 : Nat) : Int) := by simpa using h
        refine ⟨⟨p + 1, rfl, by omega, ?_, e.trans e4⟩, by show _ - _ < _ - _; omega⟩
        rw [hc, hcd, if_pos hok, if_pos h]
    · have hok' : ¬ okT (⟨t.1, s⟩ : T_api_Txn).Number t.2 := hok
      rw [if_neg hok']
      refine ⟨fun _ => ?_, fun h => by simp at h⟩
      have := k w4 (e.trans e4)
      rw [hc, hcd, if_neg hok] at this; exact this
  · have hi := of_decide_eq_false hi
    have := k w3 e
    rw [hc, List.drop_of_length_le (by omega)] at this
    exact this

theorem sp_ref06_Encode {sl : Slc} {ts : List Tx} {sls : List Slc} {R : Slc → Int → World → Prop} (st : St w0 fr w) (hs : ∀ l w', St w0 (l ++ fr) w' → LAt w' sl ts sls) (hl : sl.len ≤ 1099511627776)
    (k1 : chkL 1 ts ≠ 0 → ∀ w', St w0 fr w' → R ⟨none, 0, 0⟩ (chkL 1 ts) w')
    (k0 : chkL 1 ts = 0 → ∀ s rb w', RowC 1 s ((encL ts).map bV) rb → St w0 (rb ++ fr) w' → R s 0 w') : C_towpathref06_Encode sl w R := by
  apply S_towpathref06_Encode
  unfold F_towpathref06_Encode
  have hla := hs [] w st
  have hsl := hla.slen
  refine sp_ref06_Check hla (by omega) fun w1 e1 => ⟨fun h => ?_, fun h => ?_⟩
  · exact k1 (by simpa using h) w1 (st.keep e1)
  have hc : chkL 1 ts = 0 := by simpa using h
  have hall := chkL_all hc
  have htl := chkL_len hc
  refine ⟨fun bs i w' => ∃ (p : Nat) (wb : List Chunk), i = (p : Int) ∧ p ≤ sl.len ∧ RowC 1 bs ((encL (ts.take p)).map bV) wb ∧ St w0 (wb ++ fr) w', fun _ i _ => sl.len - i.toNat, ⟨0, [], rfl, by omega, by simpa [encL] using RowC.nil, st.keep e1⟩, ?_⟩
  clear st e1 h
  rintro bs i w3 ⟨p, wb, rfl, hp, r, st3⟩
  have hcur : (encL (ts.take p)).length ≤ 36020 * 65536 := by
    have h1 := encL_len (ts := ts.take p) fun t ht => hall t (List.mem_of_mem_take ht)
    rw [List.length_take] at h1
    omega
  unfold F_towpathref06_Encode_L0
  refine ⟨fun hi => ?_, fun hi => ?_⟩
  · have hi := of_decide_eq_true hi
    obtain ⟨a, t, s, ht, hss, hct, hsr, hcp1, hcp2⟩ := (hs wb w3 st3).get (p := p) (by omega)
    have hok := hall t (List.mem_of_getElem? ht)
    have hel := encT_len hok
    refine ⟨a, by omega, hi, ⟨t.1, s⟩, by rw [Int.toNat_natCast]; exact hct, ?_⟩
    have hwl : s.len = t.2.length := wr_len hsr
    refine sp_ref05_Encode (t := ⟨t.1, s⟩) (ws := t.2) st3 (fun l w' st' => (hs (l ++ wb) w' (by simpa using st')).wr p t s ht hss) (by show s.len ≤ _; omega) (fun h => absurd hok h) fun _ s2 rb w6 ro st6 => ?_
    have ro : RowC 1 s2 ((encT t.1 t.2).map bV) rb := ro
    have hsl2 : s2.len = (encT t.1 t.2).length := by have := ro.len; rw [List.length_map] at this; omega
    refine ⟨mkS (encT t.1 t.2), ?_, ?_⟩
    · rw [mkS_cells]
      exact ro.src st6
    have st6 : St w0 (wb ++ (rb ++ fr)) w6 := st6.perm (perm_of_sum fun f_ => by simp only [List.map_append, List.map_cons, List.map_nil, List.sum_append, List.sum_cons, List.sum_nil, List.append_nil]; omega)
    refine sp_refW_Text r st6 (by rw [mkS_size]; omega) fun s3 wb3 w7 r3 st7 => ?_
    rw [mkS_size, mkS_toList] at r3
    have st7b : St w0 (rb ++ (wb3 ++ fr)) w7 := st7.perm (perm_of_sum fun f_ => by simp only [List.map_append, List.map_cons, List.map_nil, List.sum_append, List.sum_cons, List.sum_nil, List.append_nil]; omega)
    refine sp_towpathref03_CRC (ro.src st7b) (by omega) ?_
    have hcl := crcN_lt (encT t.1 t.2)
    have wu : IntKind.u64.wrap (U (~~~ crcF (~~~ 0#32) (encT t.1 t.2))) = ((crcN (encT t.1 t.2) : Nat) : Int) := u64_in _ (by show (0 : Int) ≤ ((crcN _ : Nat) : Int); omega) (by show ((crcN _ : Nat) : Int) ≤ _; omega)
    rw [wu]
    have v1 := varB_len 10 (encT t.1 t.2).length
    refine sp_refW_Fixed (n := crcN (encT t.1 t.2)) r3 st7 (by omega) (by rw [List.length_append, List.length_append]; unfold varF; omega) (fun h => by omega) (fun _ _ h => absurd h (by show ¬ (256 ^ 4 ≤ _); omega)) fun _ _ _ s4 wb4 w9 r4 st9 => ?_
    have wp : IntKind.i64.wrap ((p : Int) + 1) = ((p + 1 : Nat) : Int) := by rw [i64_in _ (by omega) (by omega)]; omega
    rw [wp]
    refine ⟨⟨p + 1, wb4, rfl, by omega, ?_, st9.weak rb (perm_of_sum fun f_ => by simp only [List.map_append, List.map_cons, List.map_nil, List.sum_append, List.sum_cons, List.sum_nil, List.append_nil]; omega)⟩, by show _ - _ < _ - _; omega⟩
    have e : encL (ts.take (p + 1)) = (encL (ts.take p) ++ (varF (encT t.1 t.2).length ++ encT t.1 t.2)) ++ fixB (4 : Int).toNat (crcN (encT t.1 t.2)) := by
      rw [List.take_add_one, ht]
      unfold encL
      rw [List.flatMap_append]
      show _ ++ (encR t ++ []) = _
      unfold encR
      simp only [List.append_assoc, List.append_nil]
      rfl
    rw [e]; exact r4
  · have hi := of_decide_eq_false hi
    rw [List.take_of_length_le (by omega)] at r
    exact k0 hc bs wb w3 r st3
end
end Go.Proofs.YtpdegdnigcnjiaaGreatDoor

namespace Go.Proofs.YtpdegdnigcnjiaaGreatDoor
open Go
set_option linter.unusedVariables false
set_option linter.unusedSimpArgs false

structure Item where
  l : Slc
  long : Slc
  n : Int
  cs : List Chunk
def itemCells (it : Item) : List Value := [slV it.l, slV it.long, iV it.n]
def itsC (its : List Item) : List Chunk := its.flatMap Item.cs
theorem itemCells_len (it : Item) : (itemCells it).length = 3 := rfl
/-- An item's own memory to the front. -/
theorem St.item {w0 : Base} {w : World} {X d c r l : List Chunk} : St w0 (X ++ ((d ++ (c ++ r)) ++ l)) w ↔ St w0 (c ++ (X ++ ((d ++ r) ++ l))) w := by
  have p : (X ++ ((d ++ (c ++ r)) ++ l)).Perm (c ++ (X ++ ((d ++ r) ++ l))) := by
    have h1 : (d ++ (c ++ r)) ++ l = d ++ (c ++ (r ++ l)) := by simp
    have h2 : (d ++ r) ++ l = d ++ (r ++ l) := by simp
    rw [h1, h2]
    refine (List.Perm.append_left X (List.perm_append_comm_assoc d c (r ++ l))).trans ?_
    exact List.perm_append_comm_assoc X c (d ++ (r ++ l))
  exact ⟨fun h => h.perm p, fun h => h.perm p.symm⟩
theorem itsC_mid (d : List Item) (it : Item) (r : List Item) : itsC (d ++ it :: r) = itsC d ++ (it.cs ++ itsC r) := by unfold itsC; rw [List.flatMap_append, List.flatMap_cons]
theorem itsC_cut (d : List Item) (r : List Item) : itsC (d ++ r) = itsC d ++ itsC r := by unfold itsC; rw [List.flatMap_append]
theorem split_at {α : Type} {l : List α} {i : Nat} (h : i < l.length) : ∃ d x r, l = d ++ x :: r ∧ d.length = i := ⟨l.take i, l[i], l.drop (i + 1), by rw [← List.drop_eq_getElem_cons h, List.take_append_drop], by rw [List.length_take]; omega⟩

/-- A cell of one's own slice of things of some cells is written. -/
theorem RowC.setN {sz : Nat} {s : Slc} {xs : List Value} {bs l : List Chunk} {w0 : Base} {w : World} {i : Nat} {v : Value} (h : RowC sz s xs bs) (st : St w0 (bs ++ l) w) (hi : i < s.len * sz) :
    IsAt s.ptr ∧ Writable w (pblk s.ptr) (poff s.ptr + i) 1 ∧ ∀ w', w' = World.puts (pblk s.ptr) (poff s.ptr + i) [v] w → ∃ bs', RowC sz s (xs.set i v) bs' ∧ St w0 (bs' ++ l) w' := by
  rcases h with ⟨hp, hl, hcz, rfl, rfl⟩ | ⟨b, pre, rest, suf, hp, rfl, hx, hr, hle⟩
  · rw [hl, Nat.zero_mul] at hi; omega
  · rw [hp]
    refine ⟨rfl, st.writable 0 rfl (by show pre.length + i + 1 ≤ _; simp; omega), fun w' hw => ?_⟩
    have hn := st.put0 hw
    refine ⟨[(b, pre ++ (xs.set i v ++ (rest ++ suf)))], .inr ⟨b, pre, rest, suf, hp, rfl, by rw [List.length_set]; exact hx, by rw [List.length_set]; exact hr, hle⟩, ?_⟩
    have e : putL (poff (some ⟨b, pre.length, none⟩ : Option Addr) + i) [v] (pre ++ (xs ++ (rest ++ suf))) = pre ++ (xs.set i v ++ (rest ++ suf)) := by
      rw [putL_one]
      show (pre ++ (xs ++ (rest ++ suf))).set (pre.length + i) v = _
      rw [List.set_append_right _ _ (by omega), show pre.length + i - pre.length = i from by omega, List.set_append_left _ _ (by omega)]
    rw [e] at hn
    exact hn
/-- Appending: the old row stays where it was, or is the beginning of the new one. -/
theorem RowC.appendK {by_ k : Nat} {e : TypeId} {sz : Nat} {s : Slc} {xs : List Value} {bs l : List Chunk} {w0 : Base} {w : World} {zs src : List Value} {K : Slc → World → Prop} (h : RowC sz s xs bs) (st : St w0 (bs ++ l) w)
    (hk : src.length = k * sz) (hk0 : 0 < k) (h1 : oneCells src = true) (hz : zs.length = sz) (hcap : (s.len + k) * by_ ≤ 140737488355328)
    (hK : ∀ s' bs' l' w', RowC sz s' (xs ++ src) bs' → St w0 (bs' ++ (l' ++ l)) w' → s'.len = s.len + k → ((s'.ptr = s.ptr ∧ l' = []) ∨ l' = bs) → K s' w') : AppendW sz by_ e zs s src k w K := by
  refine ⟨fun hc => ?_, fun hc => ⟨growslice_fits hc hcap, xs, h.src st, fun cap b w' hcl _ hb hw => ?_⟩⟩
  · rcases h with ⟨hp, hl, hcz, rfl, rfl⟩ | ⟨b, pre, rest, suf, hp, rfl, hx, hr, hle⟩
    · omega
    · have hroom : src.length ≤ rest.length := by
        have : (s.len + k) * sz ≤ s.cap * sz := Nat.mul_le_mul_right _ hc
        rw [Nat.add_mul] at this
        omega
      have hlen : poff s.ptr + s.len * sz = (pre ++ xs).length := by rw [hp]; show pre.length + s.len * sz = _; simp; omega
      have hpb : pblk s.ptr = b := by rw [hp]; rfl
      refine .inr ⟨by rw [hp]; rfl, ?_, h1, fun w' hw => ?_⟩
      · rw [hlen, hpb]
        exact st.writable 0 rfl (by simp; omega)
      · rw [hlen, hpb] at hw
        have hn := st.put0 hw
        have e1 : pre ++ (xs ++ (rest ++ suf)) = (pre ++ xs) ++ rest.take src.length ++ (rest.drop src.length ++ suf) := by
          conv => lhs; rw [← List.take_append_drop src.length rest]
          simp only [List.append_assoc]
        rw [e1, putL_append _ _ _ _ (by simp; omega)] at hn
        refine hK _ [(b, pre ++ ((xs ++ src) ++ (rest.drop src.length ++ suf)))] [] _ (.inr ⟨b, pre, rest.drop src.length, suf, hp, rfl, ?_, ?_, hc⟩) ?_ rfl (.inl ⟨rfl, rfl⟩)
        · simp [hx, hk, Nat.add_mul]
        · simp; omega
        · have e2 : pre ++ ((xs ++ src) ++ (rest.drop src.length ++ suf)) = (pre ++ xs) ++ src ++ (rest.drop src.length ++ suf) := by simp only [List.append_assoc]
          rw [e2]; exact hn
  · have hE : Ext w w.drew := Qt.ext ⟨1, rfl⟩
    have hbs : b = w.drew.heap.size := hb
    have st' := (st.keep hE).alloc hbs hw
    refine hK _ [(b, xs ++ src ++ (repCells (cap - (s.len + k)) zs).toList)] bs _ (.inr ⟨b, [], (repCells (cap - (s.len + k)) zs).toList, [], rfl, by simp, ?_, ?_, hcl⟩) st' rfl (.inr rfl)
    · simp only [List.length_append, hk, h.len, Nat.add_mul]
    · simp only [List.length_append, hk, h.len, repCells]
      simp only [List.length_flatten, List.map_replicate, hz, List.sum_replicate_nat]
      rw [← Nat.add_mul, ← Nat.add_mul]
      congr 1
      show s.len + k + (cap - (s.len + k)) = cap
      omega
theorem tab_set {d r : List Item} {it : Item} {i : Nat} {long : Slc} {cs : List Chunk} (hd : d.length = i) :
    ((d ++ it :: r).flatMap itemCells).set (i * 3 + 1) (slV long) = (d ++ ⟨it.l, long, it.n, cs⟩ :: r).flatMap itemCells := by
  have hl : (d.flatMap itemCells).length = i * 3 := by rw [flatMap_len itemCells_len, hd]
  rw [List.flatMap_append, List.flatMap_cons, List.flatMap_append, List.flatMap_cons, List.set_append_right _ _ (by omega), hl, show i * 3 + 1 - i * 3 = 1 from by omega]
  rfl
theorem tab_at {d r : List Item} {it : Item} {i : Nat} {w0 : Base} {w : World} {t : Slc} {tb l : List Chunk} (ro : RowC 3 t ((d ++ it :: r).flatMap itemCells) tb) (st : St w0 (tb ++ l) w) (hd : d.length = i) :
    IsAt t.ptr ∧ CellsAt w (pblk t.ptr) (poff t.ptr + i * 3) (itemCells it) := by
  have hl := ro.len
  rw [flatMap_len itemCells_len, List.length_append, List.length_cons] at hl
  obtain ⟨a, x, hx, hc⟩ := SrcAt.getN (ro.src st) itemCells_len (by omega) (i := (i : Int)) (by omega) (by omega)
  rw [Int.toNat_natCast] at hx hc
  rw [← hd, List.getElem?_append_right (Nat.le_refl _), Nat.sub_self, List.getElem?_cons_zero] at hx
  cases hx
  exact ⟨a, hc⟩


/-- Cells of one's own row are written. -/
theorem RowC.putN {sz : Nat} {s : Slc} {xs vs : List Value} {bs l : List Chunk} {w0 : Base} {w : World} {i : Nat} (h : RowC sz s xs bs) (st : St w0 (bs ++ l) w) (hv : 0 < vs.length) (hi : i + vs.length ≤ s.len * sz) :
    IsAt s.ptr ∧ Writable w (pblk s.ptr) (poff s.ptr + i) vs.length ∧ ∀ w', w' = World.puts (pblk s.ptr) (poff s.ptr + i) vs w → ∃ bs', RowC sz s (xs.take i ++ vs ++ xs.drop (i + vs.length)) bs' ∧ St w0 (bs' ++ l) w' := by
  rcases h with ⟨hp, hl, hcz, rfl, rfl⟩ | ⟨b, pre, rest, suf, hp, rfl, hx, hr, hle⟩
  · rw [hl, Nat.zero_mul] at hi; omega
  · rw [hp]
    refine ⟨rfl, st.writable 0 rfl (by show pre.length + i + vs.length ≤ _; simp; omega), fun w' hw => ?_⟩
    have hn := st.put0 hw
    have e0 : xs = xs.take i ++ ((xs.drop i).take vs.length ++ xs.drop (i + vs.length)) := by
      conv => lhs; rw [← List.take_append_drop i xs, ← List.take_append_drop vs.length (xs.drop i), List.drop_drop]
    have e1 : pre ++ (xs ++ (rest ++ suf)) = (pre ++ xs.take i) ++ (xs.drop i).take vs.length ++ (xs.drop (i + vs.length) ++ (rest ++ suf)) := by
      conv => lhs; rw [e0]
      simp only [List.append_assoc]
    have e2 : poff (some ⟨b, pre.length, none⟩ : Option Addr) + i = (pre ++ xs.take i).length := by
      show pre.length + i = _
      rw [List.length_append, List.length_take]; omega
    rw [e1, e2, putL_append _ _ _ _ (by rw [List.length_take, List.length_drop]; omega)] at hn
    refine ⟨[(b, pre ++ ((xs.take i ++ vs ++ xs.drop (i + vs.length)) ++ (rest ++ suf)))], .inr ⟨b, pre, rest, suf, hp, rfl, ?_, ?_, hle⟩, ?_⟩
    · simp only [List.length_append, List.length_take, List.length_drop]; omega
    · simp only [List.length_append, List.length_take, List.length_drop]; omega
    · have e3 : pre ++ ((xs.take i ++ vs ++ xs.drop (i + vs.length)) ++ (rest ++ suf)) = (pre ++ xs.take i) ++ vs ++ (xs.drop (i + vs.length) ++ (rest ++ suf)) := by simp only [List.append_assoc]
      rw [e3]; exact hn
theorem St.swapB {w0 : Base} {w : World} {c : Chunk} {a b l : List Chunk} (h : St w0 (c :: (a ++ (b ++ l))) w) : St w0 (c :: (b ++ (a ++ l))) w := h.perm (List.Perm.cons _ (List.perm_append_comm_assoc a b l))
theorem RowC.trimB {sz : Nat} {s : Slc} {ps ds : List Value} {bs : List Chunk} (h : RowC sz s (ps ++ ds) bs) (hp : ps.length = s.len * sz) : RowC sz s ps bs := by
  have hl := h.len
  rw [List.length_append] at hl
  have : ds = [] := List.eq_nil_of_length_eq_zero (by omega)
  rw [this, List.append_nil] at h
  exact h
theorem rep_len {α : Type} {f : α → List Value} {sz : Nat} (hf : ∀ x, (f x).length = sz) (k : Nat) (x : α) : ((List.replicate k x).flatMap f).length = k * sz := by rw [flatMap_len hf, List.length_replicate]
theorem rep_succ {α : Type} {f : α → List Value} (k : Nat) (x : α) : (List.replicate k x).flatMap f ++ f x = (List.replicate (k + 1) x).flatMap f := by rw [List.replicate_succ', List.flatMap_append, List.flatMap_cons, List.flatMap_nil, List.append_nil]
theorem rep_src {α : Type} {f : α → List Value} {sz p k : Nat} {x : α} {s t : Slc} {w : World} (hf : ∀ x, (f x).length = sz) (h : SrcAt w s sz ((List.replicate p x).flatMap f)) (hp : s.ptr = t.ptr) (hk : t.len = k) (hkp : k ≤ p) (hl : s.len = p) : SrcAt w t sz ((List.replicate k x).flatMap f) := by
  obtain ⟨_, hs2⟩ := h.pre (k := k) (by omega)
  have e : ((List.replicate p x).flatMap f).take (k * sz) = (List.replicate k x).flatMap f := by
    rw [show p = k + (p - k) from by omega, ← List.replicate_append_replicate, List.flatMap_append, List.take_left' (rep_len hf k x)]
  rw [e] at hs2
  refine ⟨by rw [rep_len hf, hk], ?_⟩
  rcases hs2 with h0 | h0
  · exact .inl h0
  · refine .inr ?_
    have h0' : IsAt s.ptr ∧ CellsAt w (pblk s.ptr) (poff s.ptr) ((List.replicate k x).flatMap f) := h0
    rw [hp] at h0'; exact h0'
/-- A kind's lists: its table, and each list in the state Ph. -/
def KindO (t : Slc) (its : List Item) (Ph : Item → Prop) (cs : List Chunk) : Prop := ∃ tb, RowC 3 t (its.flatMap itemCells) tb ∧ cs = tb ++ itsC its ∧ ∀ it ∈ its, Ph it
/-- The state of a walk over the lists: those ahead of place i are done. -/
def KindI (t : Slc) (m i : Nat) (Ph Ph' : Item → Prop) (cs : List Chunk) : Prop :=
  ∃ d r tb, d.length = i ∧ d.length + r.length = m ∧ RowC 3 t ((d ++ r).flatMap itemCells) tb ∧ cs = tb ++ itsC (d ++ r) ∧ (∀ it ∈ d, Ph' it) ∧ ∀ it ∈ r, Ph it
section
variable {w0 : Base} {w : World} {l cs : List Chunk} {C : List Value} {b : Nat} {t : Slc} {its : List Item} {Ph Ph' : Item → Prop}
theorem kind_new : KindO ⟨none, 0, 0⟩ [] Ph [] := ⟨[], RowC.nil, rfl, fun it h => (by cases h)⟩
theorem KindI.start (o : KindO t its Ph cs) : KindI t its.length 0 Ph Ph' cs := by
  obtain ⟨tb, ro, rfl, h⟩ := o
  exact ⟨[], its, tb, rfl, by simp, ro, rfl, fun it hit => (by cases hit), h⟩
theorem KindI.done {m : Nat} (o : KindI t m m Ph Ph' cs) : ∃ its, its.length = m ∧ KindO t its Ph' cs := by
  obtain ⟨d, r, tb, h1, h2, ro, rfl, h3, h4⟩ := o
  have : r = [] := List.eq_nil_of_length_eq_zero (by omega)
  subst this
  rw [List.append_nil] at *
  exact ⟨d, h1, tb, ro, rfl, h3⟩
theorem KindI.len {m i : Nat} (o : KindI t m i Ph Ph' cs) : t.len = m := by
  obtain ⟨d, r, tb, _, h, ro, _, _⟩ := o
  have := ro.len
  rw [flatMap_len itemCells_len, List.length_append] at this
  omega
theorem KindO.len (o : KindO t its Ph cs) : t.len = its.length := (KindI.start (Ph' := Ph) o).len
/-- The list at place i: its row in the table, and the memory apart. -/
theorem KindI.at_ {m i : Nat} (o : KindI t m i Ph Ph' cs) (st : St w0 ((b, C) :: (cs ++ l)) w) (hi : i < m) : ∃ d it r tb, d.length = i ∧ d.length + (r.length + 1) = m ∧ RowC 3 t ((d ++ it :: r).flatMap itemCells) tb ∧ (∀ x ∈ d, Ph' x) ∧ Ph it ∧ (∀ x ∈ r, Ph x) ∧
    IsAt t.ptr ∧ CellsAt w (pblk t.ptr) (poff t.ptr + i * 3) (itemCells it) ∧ St w0 (it.cs ++ (((b, C) :: tb) ++ ((itsC d ++ itsC r) ++ l))) w := by
  obtain ⟨d, r, tb, h1, h2, ro, rfl, h3, h4⟩ := o
  cases r with
  | nil => simp at h2; omega
  | cons it r =>
    rw [List.length_cons] at h2
    have st : St w0 (((b, C) :: tb) ++ ((itsC d ++ (it.cs ++ itsC r)) ++ l)) w := by rw [itsC_mid] at st; simpa using st
    have stt : St w0 (tb ++ ((b, C) :: ((itsC d ++ (it.cs ++ itsC r)) ++ l))) w := St.mid st
    obtain ⟨a, c⟩ := tab_at ro stt h1
    exact ⟨d, it, r, tb, h1, h2, ro, h3, h4 it (List.mem_cons_self ..), fun x hx => h4 x (List.mem_cons_of_mem _ hx), a, c, St.item.1 st⟩
/-- .. and put together again, the list done. -/
theorem KindI.next {m i : Nat} {d r : List Item} {it : Item} {tb : List Chunk} (h1 : d.length = i) (h2 : d.length + (r.length + 1) = m) (ro : RowC 3 t ((d ++ it :: r).flatMap itemCells) tb) (h3 : ∀ x ∈ d, Ph' x) (h : Ph' it) (h4 : ∀ x ∈ r, Ph x)
    (st : St w0 (it.cs ++ (((b, C) :: tb) ++ ((itsC d ++ itsC r) ++ l))) w) : ∃ cs, KindI t m (i + 1) Ph Ph' cs ∧ St w0 ((b, C) :: (cs ++ l)) w := by
  have e : (d ++ [it]) ++ r = d ++ it :: r := by simp
  refine ⟨_, ⟨d ++ [it], r, tb, by simp [h1], by simp; omega, by rw [e]; exact ro, rfl, fun x hx => ?_, h4⟩, ?_⟩
  · rcases List.mem_append.1 hx with hx | hx
    · exact h3 x hx
    · rw [List.mem_singleton] at hx; rw [hx]; exact h
  · rw [e, itsC_mid]
    have := St.item.2 st
    simpa using this
end
end Go.Proofs.YtpdegdnigcnjiaaGreatDoor

namespace Go.Proofs.YtpdegdnigcnjiaaGreatDoor
open Go Go.Shelf
set_option linter.unusedVariables false
set_option linter.unusedSimpArgs false

theorem ba_refl (a : ByteArray) : (a == a) = true := by
  cases a
  rename_i x
  show (x == x) = true
  simp
def OkN (n : Int) : Prop := 0 ≤ n ∧ n ≤ 9000000
def Tab (w : World) : Prop := Lib.TabIs Tryz.prog w "internal/strconv.uint64pow10" .u64 Lib.pow10Tab
theorem Tab.ext {w w' : World} (h : Tab w) (e : Ext w w') : Tab w' := by
  unfold Tab Lib.TabIs World.var? at *
  cases hg : Tryz.prog.globalNamed "internal/strconv.uint64pow10" with
  | none => rw [hg] at h; cases h
  | some g =>
    rw [hg] at h
    simp only [Option.bind_some] at h ⊢
    have hlt : g < w.heap.size := by
      rcases Nat.lt_or_ge g w.heap.size with h1 | h1
      · exact h1
      · rw [Array.getElem?_eq_none h1] at h; cases h
    rw [e.block g hlt]; exact h
theorem tab_of_laid {W : World} {n1 n2 : String} {d1 d2 : DataW Unit} {rest : List (String × DataW Unit)} {g : Nat} {t e : TypeId} {n : Nat}
    (hg : Tryz.prog.globalNamed "internal/strconv.uint64pow10" = some g) (hty : (Tryz.prog.globals[g]?).map (·.type) = some t) (ht : Tryz.prog.underlying t = some (.array n e)) (he : Tryz.prog.underlying e = some (.int .u64)) (hce : Tryz.prog.cellsOf e = 1) (hct : Tryz.prog.cellsOf t = n)
    (h : laidMet Tryz.prog ((n1, d1) :: (n2, d2) :: ("internal/strconv.uint64pow10", Lib.tabData .u64 Lib.pow10Tab) :: rest) W) : Tab W := by
  obtain ⟨ps, ⟨_, _, _, _, _, _, _, _, _, _, ⟨_, _, _, _, _, _, _, _, _, _, ⟨g', t', cs, fuel, p, q, hg', ht', hvar, hd, _, _⟩, _⟩, _⟩, _⟩ := h
  obtain rfl := Option.some.inj (hg.symm.trans hg')
  obtain rfl := Option.some.inj (hty.symm.trans ht')
  unfold Tab Lib.TabIs
  rw [hvar, ← Lib.cells_of_tab ht he hce hct hd]

def Tryz.laysItoa_ren : Go.Shelf.Ren := ⟨fun | 171 => 207 | 243 => 212 | 246 => 213 | 283 => 214 | 284 => 215 | 285 => 216 | 286 => 217 | 129 => 219 | 317 => 218 | 318 => 220 | 319 => 221 | 320 => 222 | 337 => 223 | 338 => 224 | n => n, fun | 3 => 3 | 9 => 9 | 2 => 2 | 4 => 4 | 171 => 250 | 0 => 0 | 53 => 117 | 37 => 79 | 5 => 5 | 173 => 253 | 212 => 256 | 51 => 118 | 20 => 20 | 213 => 257 | 46 => 214 | 232 => 260 | 233 => 261 | n => n, fun | 17 => 0 | 18 => 1 | 19 => 2 | n => n⟩
theorem Tryz.laysItoa : Go.Proofs.LaysM.n171 Tryz.prog Tryz.laysItoa_ren := {
  mixed := by kernel_rfl
  f129 := Tryz.func219.trans (congrArg some (by kernel_rfl))
  f171 := Tryz.func207.trans (congrArg some (by kernel_rfl))
  f243 := Tryz.func212.trans (congrArg some (by kernel_rfl))
  f246 := Tryz.func213.trans (congrArg some (by kernel_rfl))
  f283 := Tryz.func214.trans (congrArg some (by kernel_rfl))
  f284 := Tryz.func215.trans (congrArg some (by kernel_rfl))
  f285 := Tryz.func216.trans (congrArg some (by kernel_rfl))
  f286 := Tryz.func217.trans (congrArg some (by kernel_rfl))
  f317 := Tryz.func218.trans (congrArg some (by kernel_rfl))
  f318 := Tryz.func220.trans (congrArg some (by kernel_rfl))
  f319 := Tryz.func221.trans (congrArg some (by kernel_rfl))
  f320 := Tryz.func222.trans (congrArg some (by kernel_rfl))
  f337 := Tryz.func223.trans (congrArg some (by kernel_rfl))
  f338 := Tryz.func224.trans (congrArg some (by kernel_rfl))
  t0 := Tryz.underlying0
  a0 := Tryz.isAgg0
  z0 := Tryz.sizeOf0
  v0 := Tryz.zeroValue0
  t2 := Tryz.underlying2
  a2 := Tryz.isAgg2
  z2 := Tryz.sizeOf2
  v2 := Tryz.zeroValue2
  t3 := Tryz.underlying3
  a3 := Tryz.isAgg3
  z3 := Tryz.sizeOf3
  v3 := Tryz.zeroValue3
  t4 := Tryz.underlying4
  a4 := Tryz.isAgg4
  z4 := Tryz.sizeOf4
  v4 := Tryz.zeroValue4
  t5 := Tryz.underlying5
  a5 := Tryz.isAgg5
  z5 := Tryz.sizeOf5
  v5 := Tryz.zeroValue5
  t9 := Tryz.underlying9
  a9 := Tryz.isAgg9
  z9 := Tryz.sizeOf9
  v9 := Tryz.zeroValue9
  t20 := Tryz.underlying20
  a20 := Tryz.isAgg20
  z20 := Tryz.sizeOf20
  v20 := Tryz.zeroValue20
  t37 := Tryz.underlying79
  a37 := Tryz.isAgg79
  z37 := Tryz.sizeOf79
  v37 := Tryz.zeroValue79
  t46 := Tryz.underlying214
  a46 := Tryz.isAgg214
  z46 := Tryz.sizeOf214
  v46 := Tryz.zeroValue214
  t51 := Tryz.underlying118
  a51 := Tryz.isAgg118
  z51 := Tryz.sizeOf118
  v51 := Tryz.zeroValue118
  t53 := Tryz.underlying117
  a53 := Tryz.isAgg117
  z53 := Tryz.sizeOf117
  v53 := Tryz.zeroValue117
  t171 := Tryz.underlying250
  a171 := Tryz.isAgg250
  z171 := Tryz.sizeOf250
  v171 := Tryz.zeroValue250
  t173 := Tryz.underlying253
  a173 := Tryz.isAgg253
  z173 := Tryz.sizeOf253
  v173 := Tryz.zeroValue253
  t212 := Tryz.underlying256
  a212 := Tryz.isAgg256
  z212 := Tryz.sizeOf256
  v212 := Tryz.zeroValue256
  t213 := Tryz.underlying257
  a213 := Tryz.isAgg257
  z213 := Tryz.sizeOf257
  t232 := Tryz.underlying260
  a232 := Tryz.isAgg260
  z232 := Tryz.sizeOf260
  v232 := Tryz.zeroValue260
  t233 := Tryz.underlying261
  a233 := Tryz.isAgg261
  z233 := Tryz.sizeOf261
  v233 := Tryz.zeroValue261
  g17 := by kernel_rfl
  g18 := by kernel_rfl
  g19 := by kernel_rfl
  i0 := by kernel_rfl
  i2 := by kernel_rfl
  i3 := by kernel_rfl
  i4 := by kernel_rfl
  i5 := by kernel_rfl
  i9 := by kernel_rfl
  i20 := by kernel_rfl
  i37 := by kernel_rfl
  i46 := by kernel_rfl
  i51 := by kernel_rfl
  i53 := by kernel_rfl
  i171 := by kernel_rfl
  i173 := by kernel_rfl
  i212 := by kernel_rfl
  i232 := by kernel_rfl
  i233 := by kernel_rfl
  m17 := by kernel_rfl
  m18 := by kernel_rfl
  m19 := by kernel_rfl }
def wordV (n : Int) : ByteArray := (ByteArray.mk #[35]) ++ ⟨(Lib.itoa n).toArray⟩
theorem sp_Itoa {n : Int} {w : World} {R : ByteArray → World → Prop} (hn : OkN n) (ht : Tab w) (k : ∀ w', Ext w w' → R ⟨(Lib.itoa n).toArray⟩ w') : C_strconv_Itoa n w R := by
  refine Calls.mono (Any.strconv_Itoa Tryz.laysItoa n (by have := hn.1; omega) (by have := hn.2; omega) w ht) ?_
  rintro e w' ⟨rfl, q, os, rfl⟩
  refine ⟨_, rfl, k _ ⟨rfl, rfl, rfl, ?_, fun j hj => ?_⟩⟩
  · show w.heap.size ≤ (w.heap ++ os).size
    rw [Array.size_append]; omega
  · show (w.heap ++ os)[j]? = w.heap[j]?
    exact Array.getElem?_append_left hj
theorem sp_word {n : Int} {w : World} {R : ByteArray → World → Prop} (hn : OkN n) (ht : Tab w) (k : ∀ w', Ext w w' → R (wordV n) w') : C_towpathlaw01_word n w R := by
  apply S_towpathlaw01_word
  unfold F_towpathlaw01_word
  refine sp_Itoa hn ht fun w' e => ⟨?_, k w' e⟩
  have h1 : (⟨(Lib.itoa n).toArray⟩ : ByteArray).size = (Lib.itoa n).length := by show (Lib.itoa n).toArray.size = _; simp
  have h2 := Lib.itoa_length_le n (by have := hn.1; omega) (by have := hn.2; omega)
  have h3 : (ByteArray.mk #[35]).size = 1 := rfl
  rw [h1, h3]
  omega
end Go.Proofs.YtpdegdnigcnjiaaGreatDoor

namespace Go.Proofs.YtpdegdnigcnjiaaGreatDoor
open Go
set_option linter.unusedVariables false
set_option linter.unusedSimpArgs false
abbrev cel_Byte (x : Int) : List Value := [Value.int .u8 x]
abbrev markV_Byte (n : Int) : Int := IntKind.u8.wrap (IntKind.i64.wrap (1 + (Int.tmod n 255)))
theorem cel_Byte_len (x : Int) : (cel_Byte x).length = 1 := rfl

/-! ### Byte -/
def Kept_Byte (it : Item) : Prop := OkN it.n ∧ it.l.len ≤ 1099511627776 ∧ ∃ xs, RowC 1 it.l xs it.cs
def Filled_Byte (it : Item) : Prop := OkN it.n ∧ it.l.len ≤ 1099511627776 ∧ RowC 1 it.l ((List.replicate it.l.len (markV_Byte it.n)).flatMap cel_Byte) it.cs
def Grown_Byte (k : Nat) (it : Item) (long : Slc) : Prop :=
  OkN it.n ∧ it.l.len ≤ 1099511627776 ∧ long.len = it.l.len + k ∧ ∃ c1 c2, it.cs = c1 ++ c2 ∧ RowC 1 long ((List.replicate (it.l.len + k) (markV_Byte it.n)).flatMap cel_Byte) c1 ∧
    (long.ptr = it.l.ptr ∨ ∀ w0 l w, St w0 (c2 ++ l) w → SrcAt w it.l 1 ((List.replicate it.l.len (markV_Byte it.n)).flatMap cel_Byte))
def Long_Byte (it : Item) : Prop := Grown_Byte 70 it it.long
section
variable {w0 : Base} {w : World} {l cs : List Chunk} {C : List Value} {b : Nat} {n : Int} {t : Slc} {its : List Item}

theorem sp_mark_Byte {R : Int → World → Prop} (hn : OkN n) (ht : Tab w) (k : ∀ w', Ext w w' → R (markV_Byte n) w') : C_towpathlaw01_markByte n w R := by
  apply S_towpathlaw01_markByte
  unfold F_towpathlaw01_markByte
  exact k w (Ext.refl _)
theorem sp_is_Byte (hn : OkN n) (ht : Tab w) : C_towpathlaw01_isByte (markV_Byte n) n w (fun (v44' : Bool) w'' => v44' = true ∧ Ext w w'') := by
  apply S_towpathlaw01_isByte
  unfold F_towpathlaw01_isByte
  exact ⟨beq_self_eq_true _, Ext.refl _⟩

theorem sp_keep_Byte {s : Slc} {xs : List Value} {sc : List Chunk} {R : World → Prop} (o : KindO t its Kept_Byte cs) (r : RowC 1 s xs sc) (st : St w0 ((b, C) :: (cs ++ (sc ++ l))) w) (hC0 : C[0]? = some (iV n)) (hCt : C[1]? = some (slV t))
    (hn : 0 ≤ n ∧ n ≤ 2000000) (hl : its.length ≤ 2000000) (hs : s.len ≤ 1099511627776) (k : ∀ t' its' cs' w', KindO t' its' Kept_Byte cs' → its'.length = its.length + 1 → St w0 ((b, (C.set 0 (iV (n + 1))).set 1 (slV t')) :: (cs' ++ l)) w' → R w') : C_towpathlaw01_Book_keepByte (some ⟨b, 0, none⟩) s w R := by
  apply S_towpathlaw01_Book_keepByte
  unfold F_towpathlaw01_Book_keepByte
  have htl := o.len
  obtain ⟨tb, ro, rfl, hph⟩ := o
  have wn : IntKind.i64.wrap (n + 1) = n + 1 := i64_in _ (by omega) (by omega)
  have hCl : 1 < C.length := (List.getElem?_eq_some_iff.1 hCt).1
  refine ⟨rfl, n, st.cell 0 rfl hC0, st.writable 0 rfl (by show 0 + 1 ≤ _; omega), fun w1 hw1 w2 e2 => ?_⟩
  rw [wn] at hw1
  have st := (st.put0 hw1).drew e2
  have e0 : putL (poff (some ⟨b, 0, none⟩ : Option Addr)) [iV (n + 1)] C = C.set 0 (iV (n + 1)) := putL_one ..
  rw [e0] at st
  have hCt' : (C.set 0 (iV (n + 1)))[1]? = some (slV t) := by rw [List.getElem?_set_ne (by decide)]; exact hCt
  have hC0' : (C.set 0 (iV (n + 1)))[0]? = some (iV (n + 1)) := List.getElem?_set_self (by omega)
  have hCt'' : (C.set 0 (iV (n + 1)))[0 + 1]? = some (slV t) := by rw [Nat.zero_add]; exact hCt'
  refine ⟨rfl, t, st.cell 0 rfl hCt'', rfl, n + 1, st.cell 0 rfl hC0', fun b1 w3 hb1 hw3 => ?_⟩
  have st := st.alloc hb1 hw3
  refine ⟨st.cell 1 rfl hCt'', _, srcAt_newN hb1 hw3 rfl, ?_⟩
  have st : St w0 (tb ++ ((b, C.set 0 (iV (n + 1))) :: (itsC its ++ (sc ++ l)))) w3 := by
    have h : St w0 ((b, C.set 0 (iV (n + 1))) :: (tb ++ (itsC its ++ (sc ++ l)))) w3 := by have := st.drop1; simpa using this
    exact h.mid
  refine ro.append st rfl rfl rfl (by rw [htl]; omega) fun t' tb' w4 ro' st hlen => ?_
  have st := st.unmid
  refine ⟨rfl, st.writable 0 rfl (by rw [List.length_set]; show 0 + 1 + 1 ≤ _; omega), fun w5 hw5 => ?_⟩
  have st := st.put0 hw5
  have e1 : putL (poff (some ⟨b, 0, none⟩ : Option Addr) + 1) [slV t'] (C.set 0 (iV (n + 1))) = (C.set 0 (iV (n + 1))).set 1 (slV t') := by rw [putL_one]; rw [show poff (some ⟨b, 0, none⟩ : Option Addr) + 1 = 1 from Nat.zero_add _]
  rw [e1] at st
  refine k t' (its ++ [⟨s, ⟨none, 0, 0⟩, n + 1, sc⟩]) (tb' ++ itsC (its ++ [⟨s, ⟨none, 0, 0⟩, n + 1, sc⟩])) w5 ⟨tb', ?_, rfl, fun it hit => ?_⟩ (by simp) ?_
  · rw [List.flatMap_append]; exact ro'
  · rcases List.mem_append.1 hit with hit | hit
    · exact hph it hit
    · rw [List.mem_singleton] at hit
      rw [hit]
      exact ⟨⟨by show 0 ≤ n + 1; omega, by show n + 1 ≤ 9000000; omega⟩, hs, xs, r⟩
  · rw [itsC_mid its _ []]
    unfold itsC at st ⊢
    simpa using st

theorem sp_fill_Byte {R : World → Prop} (ht : Tab w0.w) (o : KindO t its Kept_Byte cs) (st : St w0 ((b, C) :: (cs ++ l)) w) (hCt : C[0 + 1]? = some (slV t)) (hm : its.length ≤ 2000000)
    (k : ∀ its' cs' w', KindO t its' Filled_Byte cs' → its'.length = its.length → St w0 ((b, C) :: (cs' ++ l)) w' → R w') : C_towpathlaw01_Book_fillByte (some ⟨b, 0, none⟩) w R := by
  apply S_towpathlaw01_Book_fillByte
  unfold F_towpathlaw01_Book_fillByte
  generalize hml : its.length = m at *
  refine ⟨fun i w' => ∃ (j : Nat) (cs : List Chunk), i = (j : Int) ∧ j ≤ m ∧ KindI t m j Kept_Byte Filled_Byte cs ∧ St w0 ((b, C) :: (cs ++ l)) w', fun i _ => m - i.toNat, ⟨0, cs, rfl, by omega, by rw [← hml]; exact KindI.start o, st⟩, ?_⟩
  clear o st
  rintro i w1 ⟨j, cs, rfl, hj, o, st⟩
  unfold F_towpathlaw01_Book_fillByte_L0
  have htl := o.len
  refine ⟨rfl, t, st.cell 0 rfl hCt, fun h => ?_, fun h => ?_⟩
  · have h := of_decide_eq_true h
    obtain ⟨d, it, r, tb, h1, h2, ro, h3, ⟨hN, hlen, xs, hx⟩, h4, ha, hc, sti⟩ := o.at_ st (by omega)
    refine ⟨rfl, t, st.cell 0 rfl hCt, ha, by omega, h, ⟨it.l, it.long, it.n⟩, ?_, fun b1 w2 hb1 hw2 => ?_⟩
    · rw [Int.toNat_natCast]; exact hc
    have st := sti.alloc hb1 hw2
    clear sti
    refine ⟨st.writable 0 rfl (by simp), fun w3 hw3 => ?_⟩
    have st := st.put0 hw3
    have st : St w0 ((b1, itemCells it) :: (it.cs ++ (((b, C) :: tb) ++ ((itsC d ++ itsC r) ++ l)))) w3 := st
    refine ⟨fun k w' => ∃ (q : Nat) (ys : List Value) (cs : List Chunk), k = (q : Int) ∧ q ≤ it.l.len ∧ RowC 1 it.l ((List.replicate q (markV_Byte it.n)).flatMap cel_Byte ++ ys) cs ∧ St w0 ((b1, itemCells it) :: (cs ++ (((b, C) :: tb) ++ ((itsC d ++ itsC r) ++ l)))) w', fun k _ => it.l.len - k.toNat, ⟨0, xs, it.cs, rfl, by omega, by simpa using hx, st⟩, ?_⟩
    clear st
    rintro k4 w4 ⟨q, ys, cs, rfl, hq, hr, st⟩
    unfold F_towpathlaw01_Book_fillByte_L1
    refine ⟨it.l, st.cell 0 rfl rfl, fun hk => ?_, fun hk => ?_⟩
    · have hk := of_decide_eq_true hk
      intro w5 e5
      have st := st.drew e5
      refine ⟨it.l, st.cell 0 rfl rfl, it.n, st.cell 0 rfl rfl, sp_mark_Byte hN (ht.ext st.ext) fun w6 e6 => ?_⟩
      have st := st.keep e6
      refine ⟨st.cell 0 rfl rfl, ?_⟩
      have hqs : (q + 1) * 1 ≤ it.l.len * 1 := Nat.mul_le_mul_right _ (by omega)
      obtain ⟨a, wr, hset⟩ := hr.putN (l := (b1, itemCells it) :: (((b, C) :: tb) ++ ((itsC d ++ itsC r) ++ l))) (vs := cel_Byte (markV_Byte it.n)) (i := q * 1) st.mid (by rw [cel_Byte_len]; decide) (by rw [cel_Byte_len]; omega)
      rw [cel_Byte_len] at wr hset
      simp only [Nat.mul_one] at wr hset
      refine ⟨a, by omega, hk, ?_, fun w7 hw7 => ?_⟩
      · rw [Int.toNat_natCast]; exact wr
      rw [Int.toNat_natCast] at hw7
      obtain ⟨cs', hr', st⟩ := hset w7 hw7
      have wq : IntKind.i64.wrap ((q : Int) + 1) = ((q + 1 : Nat) : Int) := by rw [i64_in _ (by omega) (by omega)]; omega
      rw [wq]
      have hrl : ((List.replicate q (markV_Byte it.n)).flatMap cel_Byte).length = q * 1 := rep_len cel_Byte_len q _
      refine ⟨⟨q + 1, ys.drop 1, cs', rfl, by omega, ?_, st.unmid⟩, by show _ - _ < _ - _; omega⟩
      have hrl1 : ((List.replicate q (markV_Byte it.n)).flatMap cel_Byte).length = q := by rw [hrl, Nat.mul_one]
      rw [List.take_left' hrl1, rep_succ, List.drop_append, hrl1, List.drop_eq_nil_of_le (by omega), List.nil_append, show q + 1 - q = 1 from by omega] at hr'
      exact hr'
    · have hk := of_decide_eq_false hk
      have hqe : q = it.l.len := by omega
      subst hqe
      have hr := hr.trimB (rep_len cel_Byte_len _ _)
      have wj : IntKind.i64.wrap ((j : Int) + 1) = ((j + 1 : Nat) : Int) := by rw [i64_in _ (by omega) (by omega)]; omega
      rw [wj]
      obtain ⟨cs', o', st'⟩ := KindI.next (it := ⟨it.l, it.long, it.n, cs⟩) (Ph := Kept_Byte) (Ph' := Filled_Byte) h1 h2 (by simpa [itemCells] using ro) h3 ⟨hN, hlen, hr⟩ h4 st.drop1
      exact ⟨⟨j + 1, cs', rfl, by omega, o', st'⟩, by show _ - _ < _ - _; omega⟩
  · have h := of_decide_eq_false h
    have : j = m := by omega
    subst this
    obtain ⟨its', hl', o'⟩ := o.done
    exact k its' cs _ o' hl' st

theorem sp_grow_Byte {R : World → Prop} (ht : Tab w0.w) (o : KindO t its Filled_Byte cs) (st : St w0 ((b, C) :: (cs ++ l)) w) (hCt : C[0 + 1]? = some (slV t)) (hm : its.length ≤ 2000000)
    (k : ∀ its' cs' w', KindO t its' Long_Byte cs' → its'.length = its.length → St w0 ((b, C) :: (cs' ++ l)) w' → R w') : C_towpathlaw01_Book_growByte (some ⟨b, 0, none⟩) w R := by
  apply S_towpathlaw01_Book_growByte
  unfold F_towpathlaw01_Book_growByte
  generalize hml : its.length = m at *
  refine ⟨fun i w' => ∃ (j : Nat) (cs : List Chunk), i = (j : Int) ∧ j ≤ m ∧ KindI t m j Filled_Byte Long_Byte cs ∧ St w0 ((b, C) :: (cs ++ l)) w', fun i _ => m - i.toNat, ⟨0, cs, rfl, by omega, by rw [← hml]; exact KindI.start o, st⟩, ?_⟩
  clear o st
  rintro i w1 ⟨j, cs, rfl, hj, o, st⟩
  unfold F_towpathlaw01_Book_growByte_L0
  have htl := o.len
  refine ⟨rfl, t, st.cell 0 rfl hCt, fun h => ?_, fun h => ?_⟩
  · have h := of_decide_eq_true h
    obtain ⟨d, it, r, tb, h1, h2, ro, h3, ⟨hN, hlen, hx⟩, h4, ha, hc, sti⟩ := o.at_ st (by omega)
    refine ⟨rfl, t, st.cell 0 rfl hCt, ha, by omega, h, ⟨it.l, it.long, it.n⟩, ?_, fun b1 w2 hb1 hw2 => ?_⟩
    · rw [Int.toNat_natCast]; exact hc
    have st := sti.alloc hb1 hw2
    clear sti
    refine ⟨st.writable 0 rfl (by simp), fun w3 hw3 => ?_⟩
    have st := st.put0 hw3
    have st : St w0 ((b1, itemCells it) :: (it.cs ++ (((b, C) :: tb) ++ ((itsC d ++ itsC r) ++ l)))) w3 := st
    refine ⟨it.l, st.cell 0 rfl rfl, fun long k w' => ∃ (q : Nat) (cs : List Chunk), k = (q : Int) ∧ q ≤ 70 ∧ Grown_Byte q ⟨it.l, long, it.n, cs⟩ long ∧ St w0 ((b1, itemCells it) :: (cs ++ (((b, C) :: tb) ++ ((itsC d ++ itsC r) ++ l)))) w', fun _ k _ => 70 - k.toNat, ⟨0, it.cs, rfl, by omega, ⟨hN, hlen, rfl, it.cs, [], by simp, hx, .inl rfl⟩, st⟩, ?_⟩
    clear st
    rintro long k4 w4 ⟨q, cs, rfl, hq, hg, st⟩
    unfold F_towpathlaw01_Book_growByte_L1
    refine ⟨fun hk => ?_, fun hk => ?_⟩
    · have hk := of_decide_eq_true hk
      refine ⟨it.n, st.cell 0 rfl rfl, sp_mark_Byte hN (ht.ext st.ext) fun w5 e5 b2 w6 hb2 hw6 => ?_⟩
      have st := ((st.keep e5).alloc hb2 hw6).drop1
      refine ⟨_, srcAt_newN hb2 hw6 rfl, ?_⟩
      have wq : IntKind.i64.wrap ((q : Int) + 1) = ((q + 1 : Nat) : Int) := by rw [i64_in _ (by omega) (by omega)]; omega
      rw [wq]
      obtain ⟨_, _, hll, c1, c2, hcs, hg, hor⟩ := hg
      have hll : long.len = it.l.len + q := hll
      have hcs : cs = c1 ++ c2 := hcs
      subst hcs
      have st : St w0 (c1 ++ (c2 ++ ((b1, itemCells it) :: (((b, C) :: tb) ++ ((itsC d ++ itsC r) ++ l))))) w6 := by have := st.mid; rwa [List.append_assoc] at this
      refine hg.appendK (by_ := 1) st rfl (by omega) rfl rfl (by rw [hll]; omega) fun s' bs' l' w7 hr7 st hl7 hcase => ?_
      have hr7 : RowC 1 s' ((List.replicate (it.l.len + q) (markV_Byte it.n)).flatMap cel_Byte ++ cel_Byte (markV_Byte it.n)) bs' := hr7
      rw [rep_succ] at hr7
      have st : St w0 ((b1, itemCells it) :: ((bs' ++ (l' ++ c2)) ++ (((b, C) :: tb) ++ ((itsC d ++ itsC r) ++ l)))) w7 := by
        refine St.unmid ?_
        simpa only [List.append_assoc] using st
      refine ⟨⟨q + 1, bs' ++ (l' ++ c2), rfl, by omega, ⟨hN, hlen, by show s'.len = it.l.len + (q + 1); omega, bs', l' ++ c2, rfl, hr7, ?_⟩, st⟩, by show _ - _ < _ - _; omega⟩
      rcases hcase with ⟨hp7, rfl⟩ | hb7
      · rcases hor with hp | hsrc
        · exact .inl (hp7.trans hp)
        · exact .inr hsrc
      · have hb7' : l' = c1 := hb7
        subst hb7'
        refine .inr fun w0 l w st => ?_
        rw [List.append_assoc] at st
        rcases hor with hp | hsrc
        · exact rep_src cel_Byte_len (hg.src st) hp rfl (by show it.l.len ≤ it.l.len + q; omega) hll
        · exact hsrc w0 l w st.drop
    · have hk := of_decide_eq_false hk
      obtain rfl : q = 70 := by omega
      have hcell : w4.cell? ⟨b, 0 + 1, none⟩ = some (slV t) := st.drop1.drop.cell 0 rfl hCt
      have st : St w0 (tb ++ ((b, C) :: (cs ++ ((itsC d ++ itsC r) ++ l)))) w4 := by
        have h := st.drop1.swap
        exact St.mid h
      have hlt : j * 3 + 1 < t.len * 3 := by omega
      obtain ⟨a, wr, hset⟩ := ro.setN (v := slV long) (i := j * 3 + 1) st hlt
      refine ⟨rfl, t, hcell, a, by omega, h, ?_, fun w8 hw8 => ?_⟩
      · rw [Int.toNat_natCast, Nat.add_assoc]; exact wr
      rw [Int.toNat_natCast, Nat.add_assoc] at hw8
      obtain ⟨tb', ro', st⟩ := hset w8 hw8
      rw [tab_set (cs := cs) h1] at ro'
      have wj : IntKind.i64.wrap ((j : Int) + 1) = ((j + 1 : Nat) : Int) := by rw [i64_in _ (by omega) (by omega)]; omega
      rw [wj]
      have st : St w0 (cs ++ (((b, C) :: tb') ++ ((itsC d ++ itsC r) ++ l))) w8 := by
        have h : St w0 (((b, C) :: tb') ++ (cs ++ ((itsC d ++ itsC r) ++ l))) w8 := St.unmid st
        exact h.swap
      obtain ⟨cs', o', st'⟩ := KindI.next (it := ⟨it.l, long, it.n, cs⟩) (Ph := Filled_Byte) (Ph' := Long_Byte) h1 h2 ro' h3 hg h4 st
      exact ⟨⟨j + 1, cs', rfl, by omega, o', st'⟩, by show _ - _ < _ - _; omega⟩
  · have h := of_decide_eq_false h
    have : j = m := by omega
    subst this
    obtain ⟨its', hl', o'⟩ := o.done
    exact k its' cs _ o' hl' st

theorem sp_look_Byte {R : Bool → World → Prop} (ht : Tab w0.w) (o : KindO t its Long_Byte cs) (st : St w0 ((b, C) :: (cs ++ l)) w) (hCt : C[0 + 1]? = some (slV t)) (hm : its.length ≤ 2000000)
    (k : ∀ w', St w0 ((b, C) :: (cs ++ l)) w' → R true w') : C_towpathlaw01_Book_lookByte (some ⟨b, 0, none⟩) w R := by
  apply S_towpathlaw01_Book_lookByte
  unfold F_towpathlaw01_Book_lookByte
  generalize hml : its.length = m at *
  have hI : ∀ j, j ≤ m → KindI t m j Long_Byte Long_Byte cs := fun j hj => by
    obtain ⟨tb, ro, rfl, hph⟩ := o
    refine ⟨its.take j, its.drop j, tb, by rw [List.length_take]; omega, by rw [List.length_take, List.length_drop]; omega, by rw [List.take_append_drop]; exact ro, by rw [List.take_append_drop], fun it hit => hph it (List.mem_of_mem_take hit), fun it hit => hph it (List.mem_of_mem_drop hit)⟩
  refine ⟨fun i w' => ∃ (j : Nat), i = (j : Int) ∧ j ≤ m ∧ St w0 ((b, C) :: (cs ++ l)) w', fun i _ => m - i.toNat, ⟨0, rfl, by omega, st⟩, ?_⟩
  clear st
  rintro i w1 ⟨j, rfl, hj, st⟩
  unfold F_towpathlaw01_Book_lookByte_L0
  have o := hI j hj
  have htl := o.len
  refine ⟨rfl, t, st.cell 0 rfl hCt, fun h => ?_, fun h => ?_⟩
  · have h := of_decide_eq_true h
    obtain ⟨d, it, r, tb, h1, h2, ro, h3, ⟨hN, hlen, hll, c1, c2, hcs, hg, hor⟩, h4, ha, hc, sti⟩ := o.at_ st (by omega)
    refine ⟨rfl, t, st.cell 0 rfl hCt, ha, by omega, h, ⟨it.l, it.long, it.n⟩, ?_, fun b1 w2 hb1 hw2 => ?_⟩
    · rw [Int.toNat_natCast]; exact hc
    have sto := st.alloc hb1 hw2
    have st := sti.alloc hb1 hw2
    clear sti
    refine ⟨st.writable 0 rfl (by simp), fun w3 hw3 => ?_⟩
    have sto : St w0 ((b1, itemCells it) :: ((b, C) :: (cs ++ l))) w3 := sto.put0 hw3
    have st : St w0 ((b1, itemCells it) :: (it.cs ++ (((b, C) :: tb) ++ ((itsC d ++ itsC r) ++ l)))) w3 := st.put0 hw3
    refine ⟨it.long, st.cell 0 rfl rfl, it.l, st.cell 0 rfl rfl, fun hne => ?_, fun _ => ?_⟩
    · exfalso
      rw [hll, i64_in _ (by omega) (by omega)] at hne
      simp at hne
    refine ⟨fun k w' => ∃ (q : Nat), k = (q : Int) ∧ q ≤ it.long.len ∧ St w0 ((b1, itemCells it) :: ((b, C) :: (cs ++ l))) w' ∧ St w0 ((b1, itemCells it) :: (it.cs ++ (((b, C) :: tb) ++ ((itsC d ++ itsC r) ++ l)))) w', fun k _ => it.long.len - k.toNat, ⟨0, rfl, by omega, sto, st⟩, ?_⟩
    clear st sto
    rintro k4 w4 ⟨q, rfl, hq, sto, st⟩
    have hsrc : SrcAt w4 it.long 1 ((List.replicate (it.l.len + 70) (markV_Byte it.n)).flatMap cel_Byte) ∧ SrcAt w4 it.l 1 ((List.replicate it.l.len (markV_Byte it.n)).flatMap cel_Byte) := by
      have s1 := st.drop1
      rw [hcs, List.append_assoc] at s1
      refine ⟨hg.src s1, ?_⟩
      rcases hor with hp | hsrc
      · exact rep_src cel_Byte_len (hg.src s1) hp rfl (by omega) hll
      · exact hsrc _ _ _ s1.drop
    have rep : ∀ (s : Slc) (p i : Nat), SrcAt w4 s 1 ((List.replicate p (markV_Byte it.n)).flatMap cel_Byte) → i < s.len → IsAt s.ptr ∧ CellsAt w4 (pblk s.ptr) (poff s.ptr + i * 1) (cel_Byte (markV_Byte it.n)) := fun s p i hs hi => by
      obtain ⟨a, x, hx, hc⟩ := SrcAt.getN hs cel_Byte_len (by decide) (i := (i : Int)) (by omega) (by omega)
      rw [Int.toNat_natCast] at hx hc
      rw [(List.mem_replicate.1 (List.mem_of_getElem? hx)).2] at hc
      exact ⟨a, hc⟩
    unfold F_towpathlaw01_Book_lookByte_L1
    refine ⟨it.long, st.cell 0 rfl rfl, fun hk => ?_, fun hk => ?_⟩
    · have hk := of_decide_eq_true hk
      obtain ⟨a, hc1⟩ := rep it.long _ q hsrc.1 (by omega)
      refine ⟨it.long, st.cell 0 rfl rfl, a, by omega, hk, markV_Byte it.n, by have h0 := cellsAt_iff.1 hc1 0 _ rfl; simpa using h0, it.n, st.cell 0 rfl rfl, true, fun w' e => sp_is_Byte hN (ht.ext (st.ext.trans e)), fun hh => (by cases hh), fun _ => ?_⟩
      have wq : IntKind.i64.wrap ((q : Int) + 1) = ((q + 1 : Nat) : Int) := by rw [i64_in _ (by omega) (by omega)]; omega
      have fin : ∀ w', Ext w4 w' → (∃ (q' : Nat), ((q + 1 : Nat) : Int) = (q' : Int) ∧ q' ≤ it.long.len ∧ St w0 ((b1, itemCells it) :: ((b, C) :: (cs ++ l))) w' ∧ St w0 ((b1, itemCells it) :: (it.cs ++ (((b, C) :: tb) ++ ((itsC d ++ itsC r) ++ l)))) w') := fun w' e => ⟨q + 1, rfl, by omega, sto.keep e, st.keep e⟩
      refine ⟨it.l, st.cell 0 rfl rfl, fun hk2 => ?_, fun hk2 w10 e10 => ?_⟩
      · have hk2 := of_decide_eq_true hk2
        obtain ⟨a2, hc2⟩ := rep it.l _ q hsrc.2 (by omega)
        refine ⟨it.l, st.cell 0 rfl rfl, a2, by omega, hk2, markV_Byte it.n, by have h0 := cellsAt_iff.1 hc2 0 _ rfl; simpa using h0, it.n, st.cell 0 rfl rfl, true, fun w' e => sp_is_Byte hN (ht.ext (st.ext.trans e)), fun w9 e9 => ?_⟩
        unfold F_towpathlaw01_Book_lookByte_k2
        refine ⟨fun hh => (by cases hh), fun _ => ?_⟩
        rw [wq]
        exact ⟨fin _ e9, by show _ - _ < _ - _; omega⟩
      · unfold F_towpathlaw01_Book_lookByte_k2
        refine ⟨fun hh => (by cases hh), fun _ => ?_⟩
        rw [wq]
        exact ⟨fin _ e10, by show _ - _ < _ - _; omega⟩
    · have wj : IntKind.i64.wrap ((j : Int) + 1) = ((j + 1 : Nat) : Int) := by rw [i64_in _ (by omega) (by omega)]; omega
      rw [wj]
      exact ⟨⟨j + 1, rfl, by omega, sto.drop1⟩, by show _ - _ < _ - _; omega⟩
  · exact k _ st
end
theorem sp_KINDs_Byte {w0 : Base} {w : World} {l sc cs : List Chunk} {C : List Value} {b : Nat} {n : Int} {t s : Slc} {its : List Item} {xs : List Value} {R : World → Prop} (o : KindO t its Kept_Byte cs) (r : RowC 1 s xs sc) (st : St w0 ((b, C) :: (cs ++ (sc ++ l))) w) (hC0 : C[0]? = some (iV n)) (hCt : C[1]? = some (slV t)) (hn : 0 ≤ n ∧ n ≤ 2000000) (hl : its.length ≤ 2000000) (hs : s.len ≤ 1099511627776)
    (k : ∀ t' its' cs' w', KindO t' its' Kept_Byte cs' → its'.length = its.length + 1 → St w0 ((b, (C.set 0 (iV (n + 1))).set 1 (slV t')) :: (cs' ++ l)) w' → R w') : C_towpathlaw01_Book_Bytes (some ⟨b, 0, none⟩) s w R := by
  apply S_towpathlaw01_Book_Bytes
  unfold F_towpathlaw01_Book_Bytes
  exact sp_keep_Byte o r st hC0 hCt hn hl hs k
end Go.Proofs.YtpdegdnigcnjiaaGreatDoor

namespace Go.Proofs.YtpdegdnigcnjiaaGreatDoor
open Go
set_option linter.unusedVariables false
set_option linter.unusedSimpArgs false
abbrev cel_Write (v : T_api_Write) : List Value := [Value.string v.Key, Value.string v.Val, Value.bool v.Drop]
abbrev markV_Write (n : Int) : T_api_Write := ⟨wordV n, ByteArray.empty, false⟩
theorem cel_Write_len (x : T_api_Write) : (cel_Write x).length = 3 := rfl

/-! ### Write -/
def Kept_Write (it : Item) : Prop := OkN it.n ∧ it.l.len ≤ 1099511627776 ∧ ∃ xs, RowC 3 it.l xs it.cs
def Filled_Write (it : Item) : Prop := OkN it.n ∧ it.l.len ≤ 1099511627776 ∧ RowC 3 it.l ((List.replicate it.l.len (markV_Write it.n)).flatMap cel_Write) it.cs
def Grown_Write (k : Nat) (it : Item) (long : Slc) : Prop :=
  OkN it.n ∧ it.l.len ≤ 1099511627776 ∧ long.len = it.l.len + k ∧ ∃ c1 c2, it.cs = c1 ++ c2 ∧ RowC 3 long ((List.replicate (it.l.len + k) (markV_Write it.n)).flatMap cel_Write) c1 ∧
    (long.ptr = it.l.ptr ∨ ∀ w0 l w, St w0 (c2 ++ l) w → SrcAt w it.l 3 ((List.replicate it.l.len (markV_Write it.n)).flatMap cel_Write))
def Long_Write (it : Item) : Prop := Grown_Write 70 it it.long
section
variable {w0 : Base} {w : World} {l cs : List Chunk} {C : List Value} {b : Nat} {n : Int} {t : Slc} {its : List Item}

theorem sp_mark_Write {R : T_api_Write → World → Prop} (hn : OkN n) (ht : Tab w) (k : ∀ w', Ext w w' → R (markV_Write n) w') : C_towpathlaw01_markWrite n w R := by
  apply S_towpathlaw01_markWrite
  unfold F_towpathlaw01_markWrite
  intro b w1 hb hw
  have st := (St.start w).alloc hb hw
  refine sp_word hn (ht.ext st.ext) fun w2 e2 => ?_
  have st := st.keep e2
  refine ⟨st.writable 0 rfl (by simp), fun w2 hw2 => ?_⟩
  have st : St ⟨w, []⟩ [(b, cel_Write (markV_Write n))] w2 := st.put0 hw2
  exact ⟨markV_Write n, (st.get 0 rfl).all, k w2 st.ext⟩
theorem sp_is_Write (hn : OkN n) (ht : Tab w) : C_towpathlaw01_isWrite (markV_Write n) n w (fun (v44' : Bool) w'' => v44' = true ∧ Ext w w'') := by
  apply S_towpathlaw01_isWrite
  unfold F_towpathlaw01_isWrite
  intro b w1 hb hw w2 hd
  have st := ((St.start w).alloc hb hw).drew hd
  refine ⟨markV_Write n, (st.get 0 rfl).all, sp_word hn (ht.ext st.ext) fun w3 e3 => ?_⟩
  have st := st.keep e3
  refine ⟨(st.get 0 rfl).all, ?_, st.ext⟩
  rw [show (markV_Write n).Key = wordV n from rfl, ba_refl]; rfl

theorem sp_isK_Write {R : Bool → World → Prop} (hn : OkN n) (ht : Tab w) (k : ∀ w', Ext w w' → R true w') : C_towpathlaw01_isWrite (markV_Write n) n w R :=
  Calls.mono (sp_is_Write hn ht) (by rintro e w' ⟨r, rfl, rfl, h⟩; exact ⟨true, rfl, k w' h⟩)
theorem sp_keep_Write {s : Slc} {xs : List Value} {sc : List Chunk} {R : World → Prop} (o : KindO t its Kept_Write cs) (r : RowC 3 s xs sc) (st : St w0 ((b, C) :: (cs ++ (sc ++ l))) w) (hC0 : C[0]? = some (iV n)) (hCt : C[4]? = some (slV t))
    (hn : 0 ≤ n ∧ n ≤ 2000000) (hl : its.length ≤ 2000000) (hs : s.len ≤ 1099511627776) (k : ∀ t' its' cs' w', KindO t' its' Kept_Write cs' → its'.length = its.length + 1 → St w0 ((b, (C.set 0 (iV (n + 1))).set 4 (slV t')) :: (cs' ++ l)) w' → R w') : C_towpathlaw01_Book_keepWrite (some ⟨b, 0, none⟩) s w R := by
  apply S_towpathlaw01_Book_keepWrite
  unfold F_towpathlaw01_Book_keepWrite
  have htl := o.len
  obtain ⟨tb, ro, rfl, hph⟩ := o
  have wn : IntKind.i64.wrap (n + 1) = n + 1 := i64_in _ (by omega) (by omega)
  have hCl : 4 < C.length := (List.getElem?_eq_some_iff.1 hCt).1
  refine ⟨rfl, n, st.cell 0 rfl hC0, st.writable 0 rfl (by show 0 + 1 ≤ _; omega), fun w1 hw1 w2 e2 => ?_⟩
  rw [wn] at hw1
  have st := (st.put0 hw1).drew e2
  have e0 : putL (poff (some ⟨b, 0, none⟩ : Option Addr)) [iV (n + 1)] C = C.set 0 (iV (n + 1)) := putL_one ..
  rw [e0] at st
  have hCt' : (C.set 0 (iV (n + 1)))[4]? = some (slV t) := by rw [List.getElem?_set_ne (by decide)]; exact hCt
  have hC0' : (C.set 0 (iV (n + 1)))[0]? = some (iV (n + 1)) := List.getElem?_set_self (by omega)
  have hCt'' : (C.set 0 (iV (n + 1)))[0 + 4]? = some (slV t) := by rw [Nat.zero_add]; exact hCt'
  refine ⟨rfl, t, st.cell 0 rfl hCt'', rfl, n + 1, st.cell 0 rfl hC0', fun b1 w3 hb1 hw3 => ?_⟩
  have st := st.alloc hb1 hw3
  refine ⟨st.cell 1 rfl hCt'', _, srcAt_newN hb1 hw3 rfl, ?_⟩
  have st : St w0 (tb ++ ((b, C.set 0 (iV (n + 1))) :: (itsC its ++ (sc ++ l)))) w3 := by
    have h : St w0 ((b, C.set 0 (iV (n + 1))) :: (tb ++ (itsC its ++ (sc ++ l)))) w3 := by have := st.drop1; simpa using this
    exact h.mid
  refine ro.append st rfl rfl rfl (by rw [htl]; omega) fun t' tb' w4 ro' st hlen => ?_
  have st := st.unmid
  refine ⟨rfl, st.writable 0 rfl (by rw [List.length_set]; show 0 + 4 + 1 ≤ _; omega), fun w5 hw5 => ?_⟩
  have st := st.put0 hw5
  have e1 : putL (poff (some ⟨b, 0, none⟩ : Option Addr) + 4) [slV t'] (C.set 0 (iV (n + 1))) = (C.set 0 (iV (n + 1))).set 4 (slV t') := by rw [putL_one]; rw [show poff (some ⟨b, 0, none⟩ : Option Addr) + 4 = 4 from Nat.zero_add _]
  rw [e1] at st
  refine k t' (its ++ [⟨s, ⟨none, 0, 0⟩, n + 1, sc⟩]) (tb' ++ itsC (its ++ [⟨s, ⟨none, 0, 0⟩, n + 1, sc⟩])) w5 ⟨tb', ?_, rfl, fun it hit => ?_⟩ (by simp) ?_
  · rw [List.flatMap_append]; exact ro'
  · rcases List.mem_append.1 hit with hit | hit
    · exact hph it hit
    · rw [List.mem_singleton] at hit
      rw [hit]
      exact ⟨⟨by show 0 ≤ n + 1; omega, by show n + 1 ≤ 9000000; omega⟩, hs, xs, r⟩
  · rw [itsC_mid its _ []]
    unfold itsC at st ⊢
    simpa using st

theorem sp_fill_Write {R : World → Prop} (ht : Tab w0.w) (o : KindO t its Kept_Write cs) (st : St w0 ((b, C) :: (cs ++ l)) w) (hCt : C[0 + 4]? = some (slV t)) (hm : its.length ≤ 2000000)
    (k : ∀ its' cs' w', KindO t its' Filled_Write cs' → its'.length = its.length → St w0 ((b, C) :: (cs' ++ l)) w' → R w') : C_towpathlaw01_Book_fillWrite (some ⟨b, 0, none⟩) w R := by
  apply S_towpathlaw01_Book_fillWrite
  unfold F_towpathlaw01_Book_fillWrite
  generalize hml : its.length = m at *
  refine ⟨fun i w' => ∃ (j : Nat) (cs : List Chunk), i = (j : Int) ∧ j ≤ m ∧ KindI t m j Kept_Write Filled_Write cs ∧ St w0 ((b, C) :: (cs ++ l)) w', fun i _ => m - i.toNat, ⟨0, cs, rfl, by omega, by rw [← hml]; exact KindI.start o, st⟩, ?_⟩
  clear o st
  rintro i w1 ⟨j, cs, rfl, hj, o, st⟩
  unfold F_towpathlaw01_Book_fillWrite_L0
  have htl := o.len
  refine ⟨rfl, t, st.cell 0 rfl hCt, fun h => ?_, fun h => ?_⟩
  · have h := of_decide_eq_true h
    obtain ⟨d, it, r, tb, h1, h2, ro, h3, ⟨hN, hlen, xs, hx⟩, h4, ha, hc, sti⟩ := o.at_ st (by omega)
    refine ⟨rfl, t, st.cell 0 rfl hCt, ha, by omega, h, ⟨it.l, it.long, it.n⟩, ?_, fun b1 w2 hb1 hw2 => ?_⟩
    · rw [Int.toNat_natCast]; exact hc
    have st := sti.alloc hb1 hw2
    clear sti
    refine ⟨st.writable 0 rfl (by simp), fun w3 hw3 => ?_⟩
    have st := st.put0 hw3
    have st : St w0 ((b1, itemCells it) :: (it.cs ++ (((b, C) :: tb) ++ ((itsC d ++ itsC r) ++ l)))) w3 := st
    refine ⟨fun k w' => ∃ (q : Nat) (ys : List Value) (cs : List Chunk), k = (q : Int) ∧ q ≤ it.l.len ∧ RowC 3 it.l ((List.replicate q (markV_Write it.n)).flatMap cel_Write ++ ys) cs ∧ St w0 ((b1, itemCells it) :: (cs ++ (((b, C) :: tb) ++ ((itsC d ++ itsC r) ++ l)))) w', fun k _ => it.l.len - k.toNat, ⟨0, xs, it.cs, rfl, by omega, by simpa using hx, st⟩, ?_⟩
    clear st
    rintro k4 w4 ⟨q, ys, cs, rfl, hq, hr, st⟩
    unfold F_towpathlaw01_Book_fillWrite_L1
    refine ⟨it.l, st.cell 0 rfl rfl, fun hk => ?_, fun hk => ?_⟩
    · have hk := of_decide_eq_true hk
      intro w5 e5
      have st := st.drew e5
      refine ⟨it.l, st.cell 0 rfl rfl, it.n, st.cell 0 rfl rfl, sp_mark_Write hN (ht.ext st.ext) fun w6 e6 => ?_⟩
      have st := st.keep e6
      refine ⟨st.cell 0 rfl rfl, ?_⟩
      have hqs : (q + 1) * 3 ≤ it.l.len * 3 := Nat.mul_le_mul_right _ (by omega)
      obtain ⟨a, wr, hset⟩ := hr.putN (l := (b1, itemCells it) :: (((b, C) :: tb) ++ ((itsC d ++ itsC r) ++ l))) (vs := cel_Write (markV_Write it.n)) (i := q * 3) st.mid (by rw [cel_Write_len]; decide) (by rw [cel_Write_len]; omega)
      rw [cel_Write_len] at wr hset
      skip
      refine ⟨a, by omega, hk, ?_, fun w7 hw7 => ?_⟩
      · rw [Int.toNat_natCast]; exact wr
      rw [Int.toNat_natCast] at hw7
      obtain ⟨cs', hr', st⟩ := hset w7 hw7
      have wq : IntKind.i64.wrap ((q : Int) + 1) = ((q + 1 : Nat) : Int) := by rw [i64_in _ (by omega) (by omega)]; omega
      rw [wq]
      have hrl : ((List.replicate q (markV_Write it.n)).flatMap cel_Write).length = q * 3 := rep_len cel_Write_len q _
      refine ⟨⟨q + 1, ys.drop 3, cs', rfl, by omega, ?_, st.unmid⟩, by show _ - _ < _ - _; omega⟩
      skip
      rw [List.take_left' hrl, rep_succ, List.drop_append, hrl, List.drop_eq_nil_of_le (by omega), List.nil_append, show q * 3 + 3 - q * 3 = 3 from by omega] at hr'
      exact hr'
    · have hk := of_decide_eq_false hk
      have hqe : q = it.l.len := by omega
      subst hqe
      have hr := hr.trimB (rep_len cel_Write_len _ _)
      have wj : IntKind.i64.wrap ((j : Int) + 1) = ((j + 1 : Nat) : Int) := by rw [i64_in _ (by omega) (by omega)]; omega
      rw [wj]
      obtain ⟨cs', o', st'⟩ := KindI.next (it := ⟨it.l, it.long, it.n, cs⟩) (Ph := Kept_Write) (Ph' := Filled_Write) h1 h2 (by simpa [itemCells] using ro) h3 ⟨hN, hlen, hr⟩ h4 st.drop1
      exact ⟨⟨j + 1, cs', rfl, by omega, o', st'⟩, by show _ - _ < _ - _; omega⟩
  · have h := of_decide_eq_false h
    have : j = m := by omega
    subst this
    obtain ⟨its', hl', o'⟩ := o.done
    exact k its' cs _ o' hl' st

theorem sp_grow_Write {R : World → Prop} (ht : Tab w0.w) (o : KindO t its Filled_Write cs) (st : St w0 ((b, C) :: (cs ++ l)) w) (hCt : C[0 + 4]? = some (slV t)) (hm : its.length ≤ 2000000)
    (k : ∀ its' cs' w', KindO t its' Long_Write cs' → its'.length = its.length → St w0 ((b, C) :: (cs' ++ l)) w' → R w') : C_towpathlaw01_Book_growWrite (some ⟨b, 0, none⟩) w R := by
  apply S_towpathlaw01_Book_growWrite
  unfold F_towpathlaw01_Book_growWrite
  generalize hml : its.length = m at *
  refine ⟨fun i w' => ∃ (j : Nat) (cs : List Chunk), i = (j : Int) ∧ j ≤ m ∧ KindI t m j Filled_Write Long_Write cs ∧ St w0 ((b, C) :: (cs ++ l)) w', fun i _ => m - i.toNat, ⟨0, cs, rfl, by omega, by rw [← hml]; exact KindI.start o, st⟩, ?_⟩
  clear o st
  rintro i w1 ⟨j, cs, rfl, hj, o, st⟩
  unfold F_towpathlaw01_Book_growWrite_L0
  have htl := o.len
  refine ⟨rfl, t, st.cell 0 rfl hCt, fun h => ?_, fun h => ?_⟩
  · have h := of_decide_eq_true h
    obtain ⟨d, it, r, tb, h1, h2, ro, h3, ⟨hN, hlen, hx⟩, h4, ha, hc, sti⟩ := o.at_ st (by omega)
    refine ⟨rfl, t, st.cell 0 rfl hCt, ha, by omega, h, ⟨it.l, it.long, it.n⟩, ?_, fun b1 w2 hb1 hw2 => ?_⟩
    · rw [Int.toNat_natCast]; exact hc
    have st := sti.alloc hb1 hw2
    clear sti
    refine ⟨st.writable 0 rfl (by simp), fun w3 hw3 => ?_⟩
    have st := st.put0 hw3
    have st : St w0 ((b1, itemCells it) :: (it.cs ++ (((b, C) :: tb) ++ ((itsC d ++ itsC r) ++ l)))) w3 := st
    refine ⟨it.l, st.cell 0 rfl rfl, fun long k w' => ∃ (q : Nat) (cs : List Chunk), k = (q : Int) ∧ q ≤ 70 ∧ Grown_Write q ⟨it.l, long, it.n, cs⟩ long ∧ St w0 ((b1, itemCells it) :: (cs ++ (((b, C) :: tb) ++ ((itsC d ++ itsC r) ++ l)))) w', fun _ k _ => 70 - k.toNat, ⟨0, it.cs, rfl, by omega, ⟨hN, hlen, rfl, it.cs, [], by simp, hx, .inl rfl⟩, st⟩, ?_⟩
    clear st
    rintro long k4 w4 ⟨q, cs, rfl, hq, hg, st⟩
    unfold F_towpathlaw01_Book_growWrite_L1
    refine ⟨fun hk => ?_, fun hk => ?_⟩
    · have hk := of_decide_eq_true hk
      refine ⟨it.n, st.cell 0 rfl rfl, sp_mark_Write hN (ht.ext st.ext) fun w5 e5 b2 w6 hb2 hw6 => ?_⟩
      have st := ((st.keep e5).alloc hb2 hw6).drop1
      refine ⟨_, srcAt_newN hb2 hw6 rfl, ?_⟩
      have wq : IntKind.i64.wrap ((q : Int) + 1) = ((q + 1 : Nat) : Int) := by rw [i64_in _ (by omega) (by omega)]; omega
      rw [wq]
      obtain ⟨_, _, hll, c1, c2, hcs, hg, hor⟩ := hg
      have hll : long.len = it.l.len + q := hll
      have hcs : cs = c1 ++ c2 := hcs
      subst hcs
      have st : St w0 (c1 ++ (c2 ++ ((b1, itemCells it) :: (((b, C) :: tb) ++ ((itsC d ++ itsC r) ++ l))))) w6 := by have := st.mid; rwa [List.append_assoc] at this
      refine hg.appendK (by_ := 40) st rfl (by omega) rfl rfl (by rw [hll]; omega) fun s' bs' l' w7 hr7 st hl7 hcase => ?_
      have hr7 : RowC 3 s' ((List.replicate (it.l.len + q) (markV_Write it.n)).flatMap cel_Write ++ cel_Write (markV_Write it.n)) bs' := hr7
      rw [rep_succ] at hr7
      have st : St w0 ((b1, itemCells it) :: ((bs' ++ (l' ++ c2)) ++ (((b, C) :: tb) ++ ((itsC d ++ itsC r) ++ l)))) w7 := by
        refine St.unmid ?_
        simpa only [List.append_assoc] using st
      refine ⟨⟨q + 1, bs' ++ (l' ++ c2), rfl, by omega, ⟨hN, hlen, by show s'.len = it.l.len + (q + 1); omega, bs', l' ++ c2, rfl, hr7, ?_⟩, st⟩, by show _ - _ < _ - _; omega⟩
      rcases hcase with ⟨hp7, rfl⟩ | hb7
      · rcases hor with hp | hsrc
        · exact .inl (hp7.trans hp)
        · exact .inr hsrc
      · have hb7' : l' = c1 := hb7
        subst hb7'
        refine .inr fun w0 l w st => ?_
        rw [List.append_assoc] at st
        rcases hor with hp | hsrc
        · exact rep_src cel_Write_len (hg.src st) hp rfl (by show it.l.len ≤ it.l.len + q; omega) hll
        · exact hsrc w0 l w st.drop
    · have hk := of_decide_eq_false hk
      obtain rfl : q = 70 := by omega
      have hcell : w4.cell? ⟨b, 0 + 4, none⟩ = some (slV t) := st.drop1.drop.cell 0 rfl hCt
      have st : St w0 (tb ++ ((b, C) :: (cs ++ ((itsC d ++ itsC r) ++ l)))) w4 := by
        have h := st.drop1.swap
        exact St.mid h
      have hlt : j * 3 + 1 < t.len * 3 := by omega
      obtain ⟨a, wr, hset⟩ := ro.setN (v := slV long) (i := j * 3 + 1) st hlt
      refine ⟨rfl, t, hcell, a, by omega, h, ?_, fun w8 hw8 => ?_⟩
      · rw [Int.toNat_natCast, Nat.add_assoc]; exact wr
      rw [Int.toNat_natCast, Nat.add_assoc] at hw8
      obtain ⟨tb', ro', st⟩ := hset w8 hw8
      rw [tab_set (cs := cs) h1] at ro'
      have wj : IntKind.i64.wrap ((j : Int) + 1) = ((j + 1 : Nat) : Int) := by rw [i64_in _ (by omega) (by omega)]; omega
      rw [wj]
      have st : St w0 (cs ++ (((b, C) :: tb') ++ ((itsC d ++ itsC r) ++ l))) w8 := by
        have h : St w0 (((b, C) :: tb') ++ (cs ++ ((itsC d ++ itsC r) ++ l))) w8 := St.unmid st
        exact h.swap
      obtain ⟨cs', o', st'⟩ := KindI.next (it := ⟨it.l, long, it.n, cs⟩) (Ph := Filled_Write) (Ph' := Long_Write) h1 h2 ro' h3 hg h4 st
      exact ⟨⟨j + 1, cs', rfl, by omega, o', st'⟩, by show _ - _ < _ - _; omega⟩
  · have h := of_decide_eq_false h
    have : j = m := by omega
    subst this
    obtain ⟨its', hl', o'⟩ := o.done
    exact k its' cs _ o' hl' st

theorem sp_look_Write {R : Bool → World → Prop} (ht : Tab w0.w) (o : KindO t its Long_Write cs) (st : St w0 ((b, C) :: (cs ++ l)) w) (hCt : C[0 + 4]? = some (slV t)) (hm : its.length ≤ 2000000)
    (k : ∀ w', St w0 ((b, C) :: (cs ++ l)) w' → R true w') : C_towpathlaw01_Book_lookWrite (some ⟨b, 0, none⟩) w R := by
  apply S_towpathlaw01_Book_lookWrite
  unfold F_towpathlaw01_Book_lookWrite
  generalize hml : its.length = m at *
  have hI : ∀ j, j ≤ m → KindI t m j Long_Write Long_Write cs := fun j hj => by
    obtain ⟨tb, ro, rfl, hph⟩ := o
    refine ⟨its.take j, its.drop j, tb, by rw [List.length_take]; omega, by rw [List.length_take, List.length_drop]; omega, by rw [List.take_append_drop]; exact ro, by rw [List.take_append_drop], fun it hit => hph it (List.mem_of_mem_take hit), fun it hit => hph it (List.mem_of_mem_drop hit)⟩
  refine ⟨fun i w' => ∃ (j : Nat), i = (j : Int) ∧ j ≤ m ∧ St w0 ((b, C) :: (cs ++ l)) w', fun i _ => m - i.toNat, ⟨0, rfl, by omega, st⟩, ?_⟩
  clear st
  rintro i w1 ⟨j, rfl, hj, st⟩
  unfold F_towpathlaw01_Book_lookWrite_L0
  have o := hI j hj
  have htl := o.len
  refine ⟨rfl, t, st.cell 0 rfl hCt, fun h => ?_, fun h => ?_⟩
  · have h := of_decide_eq_true h
    obtain ⟨d, it, r, tb, h1, h2, ro, h3, ⟨hN, hlen, hll, c1, c2, hcs, hg, hor⟩, h4, ha, hc, sti⟩ := o.at_ st (by omega)
    refine ⟨rfl, t, st.cell 0 rfl hCt, ha, by omega, h, ⟨it.l, it.long, it.n⟩, ?_, fun b1 w2 hb1 hw2 => ?_⟩
    · rw [Int.toNat_natCast]; exact hc
    have sto := st.alloc hb1 hw2
    have st := sti.alloc hb1 hw2
    clear sti
    refine ⟨st.writable 0 rfl (by simp), fun w3 hw3 => ?_⟩
    have sto : St w0 ((b1, itemCells it) :: ((b, C) :: (cs ++ l))) w3 := sto.put0 hw3
    have st : St w0 ((b1, itemCells it) :: (it.cs ++ (((b, C) :: tb) ++ ((itsC d ++ itsC r) ++ l)))) w3 := st.put0 hw3
    refine ⟨it.long, st.cell 0 rfl rfl, it.l, st.cell 0 rfl rfl, fun hne => ?_, fun _ => ?_⟩
    · exfalso
      rw [hll, i64_in _ (by omega) (by omega)] at hne
      simp at hne
    refine ⟨fun k w' => ∃ (q : Nat), k = (q : Int) ∧ q ≤ it.long.len ∧ St w0 ((b1, itemCells it) :: ((b, C) :: (cs ++ l))) w' ∧ St w0 ((b1, itemCells it) :: (it.cs ++ (((b, C) :: tb) ++ ((itsC d ++ itsC r) ++ l)))) w', fun k _ => it.long.len - k.toNat, ⟨0, rfl, by omega, sto, st⟩, ?_⟩
    clear st sto
    rintro k4 w4 ⟨q, rfl, hq, sto, st⟩
    have hsrc : SrcAt w4 it.long 3 ((List.replicate (it.l.len + 70) (markV_Write it.n)).flatMap cel_Write) ∧ SrcAt w4 it.l 3 ((List.replicate it.l.len (markV_Write it.n)).flatMap cel_Write) := by
      have s1 := st.drop1
      rw [hcs, List.append_assoc] at s1
      refine ⟨hg.src s1, ?_⟩
      rcases hor with hp | hsrc
      · exact rep_src cel_Write_len (hg.src s1) hp rfl (by omega) hll
      · exact hsrc _ _ _ s1.drop
    have rep : ∀ (s : Slc) (p i : Nat), SrcAt w4 s 3 ((List.replicate p (markV_Write it.n)).flatMap cel_Write) → i < s.len → IsAt s.ptr ∧ CellsAt w4 (pblk s.ptr) (poff s.ptr + i * 3) (cel_Write (markV_Write it.n)) := fun s p i hs hi => by
      obtain ⟨a, x, hx, hc⟩ := SrcAt.getN hs cel_Write_len (by decide) (i := (i : Int)) (by omega) (by omega)
      rw [Int.toNat_natCast] at hx hc
      rw [(List.mem_replicate.1 (List.mem_of_getElem? hx)).2] at hc
      exact ⟨a, hc⟩
    unfold F_towpathlaw01_Book_lookWrite_L1
    refine ⟨it.long, st.cell 0 rfl rfl, fun hk => ?_, fun hk => ?_⟩
    · have hk := of_decide_eq_true hk
      obtain ⟨a, hc1⟩ := rep it.long _ q hsrc.1 (by omega)
      have wq : IntKind.i64.wrap ((q : Int) + 1) = ((q + 1 : Nat) : Int) := by rw [i64_in _ (by omega) (by omega)]; omega
      have fin : ∀ w', Ext w4 w' → (∃ (q' : Nat), ((q + 1 : Nat) : Int) = (q' : Int) ∧ q' ≤ it.long.len ∧ St w0 ((b1, itemCells it) :: ((b, C) :: (cs ++ l))) w' ∧ St w0 ((b1, itemCells it) :: (it.cs ++ (((b, C) :: tb) ++ ((itsC d ++ itsC r) ++ l)))) w') := fun w' e => ⟨q + 1, rfl, by omega, sto.keep e, st.keep e⟩
      intro w6 hd6
      have e6 : Ext w4 w6 := Qt.ext hd6
      have st6 := st.keep e6
      refine ⟨it.long, st6.cell 0 rfl rfl, a, by omega, hk, markV_Write it.n, by rw [Int.toNat_natCast]; exact e6.cells hc1, it.n, st6.cell 0 rfl rfl, sp_isK_Write hN (ht.ext st6.ext) fun w7 e7 => ⟨fun hh => (by cases hh), fun _ => ?_⟩⟩
      have st7 := st6.keep e7
      refine ⟨it.l, st7.cell 0 rfl rfl, fun hk2 => ?_, fun hk2 => ?_⟩
      · have hk2 := of_decide_eq_true hk2
        obtain ⟨a2, hc2⟩ := rep it.l _ q hsrc.2 (by omega)
        refine ⟨it.l, st7.cell 0 rfl rfl, a2, by omega, hk2, markV_Write it.n, by rw [Int.toNat_natCast]; exact (e6.trans e7).cells hc2, it.n, st7.cell 0 rfl rfl, sp_isK_Write hN (ht.ext st7.ext) fun w9 e9 => ?_⟩
        unfold F_towpathlaw01_Book_lookWrite_k2
        refine ⟨fun hh => (by cases hh), fun _ => ?_⟩
        rw [wq]
        exact ⟨fin _ ((e6.trans e7).trans e9), by show _ - _ < _ - _; omega⟩
      · unfold F_towpathlaw01_Book_lookWrite_k2
        refine ⟨fun hh => (by cases hh), fun _ => ?_⟩
        rw [wq]
        exact ⟨fin _ (e6.trans e7), by show _ - _ < _ - _; omega⟩
    · have wj : IntKind.i64.wrap ((j : Int) + 1) = ((j + 1 : Nat) : Int) := by rw [i64_in _ (by omega) (by omega)]; omega
      rw [wj]
      exact ⟨⟨j + 1, rfl, by omega, sto.drop1⟩, by show _ - _ < _ - _; omega⟩
  · exact k _ st
end
theorem sp_KINDs_Write {w0 : Base} {w : World} {l sc cs : List Chunk} {C : List Value} {b : Nat} {n : Int} {t s : Slc} {its : List Item} {xs : List Value} {R : World → Prop} (o : KindO t its Kept_Write cs) (r : RowC 3 s xs sc) (st : St w0 ((b, C) :: (cs ++ (sc ++ l))) w) (hC0 : C[0]? = some (iV n)) (hCt : C[4]? = some (slV t)) (hn : 0 ≤ n ∧ n ≤ 2000000) (hl : its.length ≤ 2000000) (hs : s.len ≤ 1099511627776)
    (k : ∀ t' its' cs' w', KindO t' its' Kept_Write cs' → its'.length = its.length + 1 → St w0 ((b, (C.set 0 (iV (n + 1))).set 4 (slV t')) :: (cs' ++ l)) w' → R w') : C_towpathlaw01_Book_Writes (some ⟨b, 0, none⟩) s w R := by
  apply S_towpathlaw01_Book_Writes
  unfold F_towpathlaw01_Book_Writes
  exact sp_keep_Write o r st hC0 hCt hn hl hs k
end Go.Proofs.YtpdegdnigcnjiaaGreatDoor

namespace Go.Proofs.YtpdegdnigcnjiaaGreatDoor
open Go
set_option linter.unusedVariables false
set_option linter.unusedSimpArgs false
abbrev cel_Txn (v : T_api_Txn) : List Value := [iV v.Number, slV v.Writes]
abbrev markV_Txn (n : Int) : T_api_Txn := ⟨IntKind.i64.wrap ((-1000) - n), ⟨none, 0, 0⟩⟩
theorem cel_Txn_len (x : T_api_Txn) : (cel_Txn x).length = 2 := rfl

/-! ### Txn -/
def Kept_Txn (it : Item) : Prop := OkN it.n ∧ it.l.len ≤ 1099511627776 ∧ ∃ xs, RowC 2 it.l xs it.cs
def Filled_Txn (it : Item) : Prop := OkN it.n ∧ it.l.len ≤ 1099511627776 ∧ RowC 2 it.l ((List.replicate it.l.len (markV_Txn it.n)).flatMap cel_Txn) it.cs
def Grown_Txn (k : Nat) (it : Item) (long : Slc) : Prop :=
  OkN it.n ∧ it.l.len ≤ 1099511627776 ∧ long.len = it.l.len + k ∧ ∃ c1 c2, it.cs = c1 ++ c2 ∧ RowC 2 long ((List.replicate (it.l.len + k) (markV_Txn it.n)).flatMap cel_Txn) c1 ∧
    (long.ptr = it.l.ptr ∨ ∀ w0 l w, St w0 (c2 ++ l) w → SrcAt w it.l 2 ((List.replicate it.l.len (markV_Txn it.n)).flatMap cel_Txn))
def Long_Txn (it : Item) : Prop := Grown_Txn 70 it it.long
section
variable {w0 : Base} {w : World} {l cs : List Chunk} {C : List Value} {b : Nat} {n : Int} {t : Slc} {its : List Item}

theorem sp_mark_Txn {R : T_api_Txn → World → Prop} (hn : OkN n) (ht : Tab w) (k : ∀ w', Ext w w' → R (markV_Txn n) w') : C_towpathlaw01_markTxn n w R := by
  apply S_towpathlaw01_markTxn
  unfold F_towpathlaw01_markTxn
  intro b w1 hb hw
  have st := (St.start w).alloc hb hw
  refine ⟨st.writable 0 rfl (by simp), fun w2 hw2 => ?_⟩
  have st : St ⟨w, []⟩ [(b, cel_Txn (markV_Txn n))] w2 := st.put0 hw2
  exact ⟨markV_Txn n, (st.get 0 rfl).all, k w2 st.ext⟩
theorem sp_is_Txn (hn : OkN n) (ht : Tab w) : C_towpathlaw01_isTxn (markV_Txn n) n w (fun (v44' : Bool) w'' => v44' = true ∧ Ext w w'') := by
  apply S_towpathlaw01_isTxn
  unfold F_towpathlaw01_isTxn
  intro b w1 hb hw
  have st := (St.start w).alloc hb hw
  have c : CellsAt w1 b 0 (cel_Txn (markV_Txn n)) := (st.get 0 rfl).all
  refine ⟨_, c.1, fun _ => ⟨⟨none, 0, 0⟩, c.2.1, rfl, st.ext⟩, fun h => ?_⟩
  rw [beq_self_eq_true] at h; cases h

theorem sp_keep_Txn {s : Slc} {xs : List Value} {sc : List Chunk} {R : World → Prop} (o : KindO t its Kept_Txn cs) (r : RowC 2 s xs sc) (st : St w0 ((b, C) :: (cs ++ (sc ++ l))) w) (hC0 : C[0]? = some (iV n)) (hCt : C[7]? = some (slV t))
    (hn : 0 ≤ n ∧ n ≤ 2000000) (hl : its.length ≤ 2000000) (hs : s.len ≤ 1099511627776) (k : ∀ t' its' cs' w', KindO t' its' Kept_Txn cs' → its'.length = its.length + 1 → St w0 ((b, (C.set 0 (iV (n + 1))).set 7 (slV t')) :: (cs' ++ l)) w' → R w') : C_towpathlaw01_Book_keepTxn (some ⟨b, 0, none⟩) s w R := by
  apply S_towpathlaw01_Book_keepTxn
  unfold F_towpathlaw01_Book_keepTxn
  have htl := o.len
  obtain ⟨tb, ro, rfl, hph⟩ := o
  have wn : IntKind.i64.wrap (n + 1) = n + 1 := i64_in _ (by omega) (by omega)
  have hCl : 7 < C.length := (List.getElem?_eq_some_iff.1 hCt).1
  refine ⟨rfl, n, st.cell 0 rfl hC0, st.writable 0 rfl (by show 0 + 1 ≤ _; omega), fun w1 hw1 w2 e2 => ?_⟩
  rw [wn] at hw1
  have st := (st.put0 hw1).drew e2
  have e0 : putL (poff (some ⟨b, 0, none⟩ : Option Addr)) [iV (n + 1)] C = C.set 0 (iV (n + 1)) := putL_one ..
  rw [e0] at st
  have hCt' : (C.set 0 (iV (n + 1)))[7]? = some (slV t) := by rw [List.getElem?_set_ne (by decide)]; exact hCt
  have hC0' : (C.set 0 (iV (n + 1)))[0]? = some (iV (n + 1)) := List.getElem?_set_self (by omega)
  have hCt'' : (C.set 0 (iV (n + 1)))[0 + 7]? = some (slV t) := by rw [Nat.zero_add]; exact hCt'
  refine ⟨rfl, t, st.cell 0 rfl hCt'', rfl, n + 1, st.cell 0 rfl hC0', fun b1 w3 hb1 hw3 => ?_⟩
  have st := st.alloc hb1 hw3
  refine ⟨st.cell 1 rfl hCt'', _, srcAt_newN hb1 hw3 rfl, ?_⟩
  have st : St w0 (tb ++ ((b, C.set 0 (iV (n + 1))) :: (itsC its ++ (sc ++ l)))) w3 := by
    have h : St w0 ((b, C.set 0 (iV (n + 1))) :: (tb ++ (itsC its ++ (sc ++ l)))) w3 := by have := st.drop1; simpa using this
    exact h.mid
  refine ro.append st rfl rfl rfl (by rw [htl]; omega) fun t' tb' w4 ro' st hlen => ?_
  have st := st.unmid
  refine ⟨rfl, st.writable 0 rfl (by rw [List.length_set]; show 0 + 7 + 1 ≤ _; omega), fun w5 hw5 => ?_⟩
  have st := st.put0 hw5
  have e1 : putL (poff (some ⟨b, 0, none⟩ : Option Addr) + 7) [slV t'] (C.set 0 (iV (n + 1))) = (C.set 0 (iV (n + 1))).set 7 (slV t') := by rw [putL_one]; rw [show poff (some ⟨b, 0, none⟩ : Option Addr) + 7 = 7 from Nat.zero_add _]
  rw [e1] at st
  refine k t' (its ++ [⟨s, ⟨none, 0, 0⟩, n + 1, sc⟩]) (tb' ++ itsC (its ++ [⟨s, ⟨none, 0, 0⟩, n + 1, sc⟩])) w5 ⟨tb', ?_, rfl, fun it hit => ?_⟩ (by simp) ?_
  · rw [List.flatMap_append]; exact ro'
  · rcases List.mem_append.1 hit with hit | hit
    · exact hph it hit
    · rw [List.mem_singleton] at hit
      rw [hit]
      exact ⟨⟨by show 0 ≤ n + 1; omega, by show n + 1 ≤ 9000000; omega⟩, hs, xs, r⟩
  · rw [itsC_mid its _ []]
    unfold itsC at st ⊢
    simpa using st

theorem sp_fill_Txn {R : World → Prop} (ht : Tab w0.w) (o : KindO t its Kept_Txn cs) (st : St w0 ((b, C) :: (cs ++ l)) w) (hCt : C[0 + 7]? = some (slV t)) (hm : its.length ≤ 2000000)
    (k : ∀ its' cs' w', KindO t its' Filled_Txn cs' → its'.length = its.length → St w0 ((b, C) :: (cs' ++ l)) w' → R w') : C_towpathlaw01_Book_fillTxn (some ⟨b, 0, none⟩) w R := by
  apply S_towpathlaw01_Book_fillTxn
  unfold F_towpathlaw01_Book_fillTxn
  generalize hml : its.length = m at *
  refine ⟨fun i w' => ∃ (j : Nat) (cs : List Chunk), i = (j : Int) ∧ j ≤ m ∧ KindI t m j Kept_Txn Filled_Txn cs ∧ St w0 ((b, C) :: (cs ++ l)) w', fun i _ => m - i.toNat, ⟨0, cs, rfl, by omega, by rw [← hml]; exact KindI.start o, st⟩, ?_⟩
  clear o st
  rintro i w1 ⟨j, cs, rfl, hj, o, st⟩
  unfold F_towpathlaw01_Book_fillTxn_L0
  have htl := o.len
  refine ⟨rfl, t, st.cell 0 rfl hCt, fun h => ?_, fun h => ?_⟩
  · have h := of_decide_eq_true h
    obtain ⟨d, it, r, tb, h1, h2, ro, h3, ⟨hN, hlen, xs, hx⟩, h4, ha, hc, sti⟩ := o.at_ st (by omega)
    refine ⟨rfl, t, st.cell 0 rfl hCt, ha, by omega, h, ⟨it.l, it.long, it.n⟩, ?_, fun b1 w2 hb1 hw2 => ?_⟩
    · rw [Int.toNat_natCast]; exact hc
    have st := sti.alloc hb1 hw2
    clear sti
    refine ⟨st.writable 0 rfl (by simp), fun w3 hw3 => ?_⟩
    have st := st.put0 hw3
    have st : St w0 ((b1, itemCells it) :: (it.cs ++ (((b, C) :: tb) ++ ((itsC d ++ itsC r) ++ l)))) w3 := st
    refine ⟨fun k w' => ∃ (q : Nat) (ys : List Value) (cs : List Chunk), k = (q : Int) ∧ q ≤ it.l.len ∧ RowC 2 it.l ((List.replicate q (markV_Txn it.n)).flatMap cel_Txn ++ ys) cs ∧ St w0 ((b1, itemCells it) :: (cs ++ (((b, C) :: tb) ++ ((itsC d ++ itsC r) ++ l)))) w', fun k _ => it.l.len - k.toNat, ⟨0, xs, it.cs, rfl, by omega, by simpa using hx, st⟩, ?_⟩
    clear st
    rintro k4 w4 ⟨q, ys, cs, rfl, hq, hr, st⟩
    unfold F_towpathlaw01_Book_fillTxn_L1
    refine ⟨it.l, st.cell 0 rfl rfl, fun hk => ?_, fun hk => ?_⟩
    · have hk := of_decide_eq_true hk
      intro w5 e5
      have st := st.drew e5
      refine ⟨it.l, st.cell 0 rfl rfl, it.n, st.cell 0 rfl rfl, sp_mark_Txn hN (ht.ext st.ext) fun w6 e6 => ?_⟩
      have st := st.keep e6
      refine ⟨st.cell 0 rfl rfl, ?_⟩
      have hqs : (q + 1) * 2 ≤ it.l.len * 2 := Nat.mul_le_mul_right _ (by omega)
      obtain ⟨a, wr, hset⟩ := hr.putN (l := (b1, itemCells it) :: (((b, C) :: tb) ++ ((itsC d ++ itsC r) ++ l))) (vs := cel_Txn (markV_Txn it.n)) (i := q * 2) st.mid (by rw [cel_Txn_len]; decide) (by rw [cel_Txn_len]; omega)
      rw [cel_Txn_len] at wr hset
      skip
      refine ⟨a, by omega, hk, ?_, fun w7 hw7 => ?_⟩
      · rw [Int.toNat_natCast]; exact wr
      rw [Int.toNat_natCast] at hw7
      obtain ⟨cs', hr', st⟩ := hset w7 hw7
      have wq : IntKind.i64.wrap ((q : Int) + 1) = ((q + 1 : Nat) : Int) := by rw [i64_in _ (by omega) (by omega)]; omega
      rw [wq]
      have hrl : ((List.replicate q (markV_Txn it.n)).flatMap cel_Txn).length = q * 2 := rep_len cel_Txn_len q _
      refine ⟨⟨q + 1, ys.drop 2, cs', rfl, by omega, ?_, st.unmid⟩, by show _ - _ < _ - _; omega⟩
      skip
      rw [List.take_left' hrl, rep_succ, List.drop_append, hrl, List.drop_eq_nil_of_le (by omega), List.nil_append, show q * 2 + 2 - q * 2 = 2 from by omega] at hr'
      exact hr'
    · have hk := of_decide_eq_false hk
      have hqe : q = it.l.len := by omega
      subst hqe
      have hr := hr.trimB (rep_len cel_Txn_len _ _)
      have wj : IntKind.i64.wrap ((j : Int) + 1) = ((j + 1 : Nat) : Int) := by rw [i64_in _ (by omega) (by omega)]; omega
      rw [wj]
      obtain ⟨cs', o', st'⟩ := KindI.next (it := ⟨it.l, it.long, it.n, cs⟩) (Ph := Kept_Txn) (Ph' := Filled_Txn) h1 h2 (by simpa [itemCells] using ro) h3 ⟨hN, hlen, hr⟩ h4 st.drop1
      exact ⟨⟨j + 1, cs', rfl, by omega, o', st'⟩, by show _ - _ < _ - _; omega⟩
  · have h := of_decide_eq_false h
    have : j = m := by omega
    subst this
    obtain ⟨its', hl', o'⟩ := o.done
    exact k its' cs _ o' hl' st

theorem sp_grow_Txn {R : World → Prop} (ht : Tab w0.w) (o : KindO t its Filled_Txn cs) (st : St w0 ((b, C) :: (cs ++ l)) w) (hCt : C[0 + 7]? = some (slV t)) (hm : its.length ≤ 2000000)
    (k : ∀ its' cs' w', KindO t its' Long_Txn cs' → its'.length = its.length → St w0 ((b, C) :: (cs' ++ l)) w' → R w') : C_towpathlaw01_Book_growTxn (some ⟨b, 0, none⟩) w R := by
  apply S_towpathlaw01_Book_growTxn
  unfold F_towpathlaw01_Book_growTxn
  generalize hml : its.length = m at *
  refine ⟨fun i w' => ∃ (j : Nat) (cs : List Chunk), i = (j : Int) ∧ j ≤ m ∧ KindI t m j Filled_Txn Long_Txn cs ∧ St w0 ((b, C) :: (cs ++ l)) w', fun i _ => m - i.toNat, ⟨0, cs, rfl, by omega, by rw [← hml]; exact KindI.start o, st⟩, ?_⟩
  clear o st
  rintro i w1 ⟨j, cs, rfl, hj, o, st⟩
  unfold F_towpathlaw01_Book_growTxn_L0
  have htl := o.len
  refine ⟨rfl, t, st.cell 0 rfl hCt, fun h => ?_, fun h => ?_⟩
  · have h := of_decide_eq_true h
    obtain ⟨d, it, r, tb, h1, h2, ro, h3, ⟨hN, hlen, hx⟩, h4, ha, hc, sti⟩ := o.at_ st (by omega)
    refine ⟨rfl, t, st.cell 0 rfl hCt, ha, by omega, h, ⟨it.l, it.long, it.n⟩, ?_, fun b1 w2 hb1 hw2 => ?_⟩
    · rw [Int.toNat_natCast]; exact hc
    have st := sti.alloc hb1 hw2
    clear sti
    refine ⟨st.writable 0 rfl (by simp), fun w3 hw3 => ?_⟩
    have st := st.put0 hw3
    have st : St w0 ((b1, itemCells it) :: (it.cs ++ (((b, C) :: tb) ++ ((itsC d ++ itsC r) ++ l)))) w3 := st
    refine ⟨it.l, st.cell 0 rfl rfl, fun long k w' => ∃ (q : Nat) (cs : List Chunk), k = (q : Int) ∧ q ≤ 70 ∧ Grown_Txn q ⟨it.l, long, it.n, cs⟩ long ∧ St w0 ((b1, itemCells it) :: (cs ++ (((b, C) :: tb) ++ ((itsC d ++ itsC r) ++ l)))) w', fun _ k _ => 70 - k.toNat, ⟨0, it.cs, rfl, by omega, ⟨hN, hlen, rfl, it.cs, [], by simp, hx, .inl rfl⟩, st⟩, ?_⟩
    clear st
    rintro long k4 w4 ⟨q, cs, rfl, hq, hg, st⟩
    unfold F_towpathlaw01_Book_growTxn_L1
    refine ⟨fun hk => ?_, fun hk => ?_⟩
    · have hk := of_decide_eq_true hk
      refine ⟨it.n, st.cell 0 rfl rfl, sp_mark_Txn hN (ht.ext st.ext) fun w5 e5 b2 w6 hb2 hw6 => ?_⟩
      have st := ((st.keep e5).alloc hb2 hw6).drop1
      refine ⟨_, srcAt_newN hb2 hw6 rfl, ?_⟩
      have wq : IntKind.i64.wrap ((q : Int) + 1) = ((q + 1 : Nat) : Int) := by rw [i64_in _ (by omega) (by omega)]; omega
      rw [wq]
      obtain ⟨_, _, hll, c1, c2, hcs, hg, hor⟩ := hg
      have hll : long.len = it.l.len + q := hll
      have hcs : cs = c1 ++ c2 := hcs
      subst hcs
      have st : St w0 (c1 ++ (c2 ++ ((b1, itemCells it) :: (((b, C) :: tb) ++ ((itsC d ++ itsC r) ++ l))))) w6 := by have := st.mid; rwa [List.append_assoc] at this
      refine hg.appendK (by_ := 32) st rfl (by omega) rfl rfl (by rw [hll]; omega) fun s' bs' l' w7 hr7 st hl7 hcase => ?_
      have hr7 : RowC 2 s' ((List.replicate (it.l.len + q) (markV_Txn it.n)).flatMap cel_Txn ++ cel_Txn (markV_Txn it.n)) bs' := hr7
      rw [rep_succ] at hr7
      have st : St w0 ((b1, itemCells it) :: ((bs' ++ (l' ++ c2)) ++ (((b, C) :: tb) ++ ((itsC d ++ itsC r) ++ l)))) w7 := by
        refine St.unmid ?_
        simpa only [List.append_assoc] using st
      refine ⟨⟨q + 1, bs' ++ (l' ++ c2), rfl, by omega, ⟨hN, hlen, by show s'.len = it.l.len + (q + 1); omega, bs', l' ++ c2, rfl, hr7, ?_⟩, st⟩, by show _ - _ < _ - _; omega⟩
      rcases hcase with ⟨hp7, rfl⟩ | hb7
      · rcases hor with hp | hsrc
        · exact .inl (hp7.trans hp)
        · exact .inr hsrc
      · have hb7' : l' = c1 := hb7
        subst hb7'
        refine .inr fun w0 l w st => ?_
        rw [List.append_assoc] at st
        rcases hor with hp | hsrc
        · exact rep_src cel_Txn_len (hg.src st) hp rfl (by show it.l.len ≤ it.l.len + q; omega) hll
        · exact hsrc w0 l w st.drop
    · have hk := of_decide_eq_false hk
      obtain rfl : q = 70 := by omega
      have hcell : w4.cell? ⟨b, 0 + 7, none⟩ = some (slV t) := st.drop1.drop.cell 0 rfl hCt
      have st : St w0 (tb ++ ((b, C) :: (cs ++ ((itsC d ++ itsC r) ++ l)))) w4 := by
        have h := st.drop1.swap
        exact St.mid h
      have hlt : j * 3 + 1 < t.len * 3 := by omega
      obtain ⟨a, wr, hset⟩ := ro.setN (v := slV long) (i := j * 3 + 1) st hlt
      refine ⟨rfl, t, hcell, a, by omega, h, ?_, fun w8 hw8 => ?_⟩
      · rw [Int.toNat_natCast, Nat.add_assoc]; exact wr
      rw [Int.toNat_natCast, Nat.add_assoc] at hw8
      obtain ⟨tb', ro', st⟩ := hset w8 hw8
      rw [tab_set (cs := cs) h1] at ro'
      have wj : IntKind.i64.wrap ((j : Int) + 1) = ((j + 1 : Nat) : Int) := by rw [i64_in _ (by omega) (by omega)]; omega
      rw [wj]
      have st : St w0 (cs ++ (((b, C) :: tb') ++ ((itsC d ++ itsC r) ++ l))) w8 := by
        have h : St w0 (((b, C) :: tb') ++ (cs ++ ((itsC d ++ itsC r) ++ l))) w8 := St.unmid st
        exact h.swap
      obtain ⟨cs', o', st'⟩ := KindI.next (it := ⟨it.l, long, it.n, cs⟩) (Ph := Filled_Txn) (Ph' := Long_Txn) h1 h2 ro' h3 hg h4 st
      exact ⟨⟨j + 1, cs', rfl, by omega, o', st'⟩, by show _ - _ < _ - _; omega⟩
  · have h := of_decide_eq_false h
    have : j = m := by omega
    subst this
    obtain ⟨its', hl', o'⟩ := o.done
    exact k its' cs _ o' hl' st

theorem sp_look_Txn {R : Bool → World → Prop} (ht : Tab w0.w) (o : KindO t its Long_Txn cs) (st : St w0 ((b, C) :: (cs ++ l)) w) (hCt : C[0 + 7]? = some (slV t)) (hm : its.length ≤ 2000000)
    (k : ∀ w', St w0 ((b, C) :: (cs ++ l)) w' → R true w') : C_towpathlaw01_Book_lookTxn (some ⟨b, 0, none⟩) w R := by
  apply S_towpathlaw01_Book_lookTxn
  unfold F_towpathlaw01_Book_lookTxn
  generalize hml : its.length = m at *
  have hI : ∀ j, j ≤ m → KindI t m j Long_Txn Long_Txn cs := fun j hj => by
    obtain ⟨tb, ro, rfl, hph⟩ := o
    refine ⟨its.take j, its.drop j, tb, by rw [List.length_take]; omega, by rw [List.length_take, List.length_drop]; omega, by rw [List.take_append_drop]; exact ro, by rw [List.take_append_drop], fun it hit => hph it (List.mem_of_mem_take hit), fun it hit => hph it (List.mem_of_mem_drop hit)⟩
  refine ⟨fun i w' => ∃ (j : Nat), i = (j : Int) ∧ j ≤ m ∧ St w0 ((b, C) :: (cs ++ l)) w', fun i _ => m - i.toNat, ⟨0, rfl, by omega, st⟩, ?_⟩
  clear st
  rintro i w1 ⟨j, rfl, hj, st⟩
  unfold F_towpathlaw01_Book_lookTxn_L0
  have o := hI j hj
  have htl := o.len
  refine ⟨rfl, t, st.cell 0 rfl hCt, fun h => ?_, fun h => ?_⟩
  · have h := of_decide_eq_true h
    obtain ⟨d, it, r, tb, h1, h2, ro, h3, ⟨hN, hlen, hll, c1, c2, hcs, hg, hor⟩, h4, ha, hc, sti⟩ := o.at_ st (by omega)
    refine ⟨rfl, t, st.cell 0 rfl hCt, ha, by omega, h, ⟨it.l, it.long, it.n⟩, ?_, fun b1 w2 hb1 hw2 => ?_⟩
    · rw [Int.toNat_natCast]; exact hc
    have sto := st.alloc hb1 hw2
    have st := sti.alloc hb1 hw2
    clear sti
    refine ⟨st.writable 0 rfl (by simp), fun w3 hw3 => ?_⟩
    have sto : St w0 ((b1, itemCells it) :: ((b, C) :: (cs ++ l))) w3 := sto.put0 hw3
    have st : St w0 ((b1, itemCells it) :: (it.cs ++ (((b, C) :: tb) ++ ((itsC d ++ itsC r) ++ l)))) w3 := st.put0 hw3
    refine ⟨it.long, st.cell 0 rfl rfl, it.l, st.cell 0 rfl rfl, fun hne => ?_, fun _ => ?_⟩
    · exfalso
      rw [hll, i64_in _ (by omega) (by omega)] at hne
      simp at hne
    refine ⟨fun k w' => ∃ (q : Nat), k = (q : Int) ∧ q ≤ it.long.len ∧ St w0 ((b1, itemCells it) :: ((b, C) :: (cs ++ l))) w' ∧ St w0 ((b1, itemCells it) :: (it.cs ++ (((b, C) :: tb) ++ ((itsC d ++ itsC r) ++ l)))) w', fun k _ => it.long.len - k.toNat, ⟨0, rfl, by omega, sto, st⟩, ?_⟩
    clear st sto
    rintro k4 w4 ⟨q, rfl, hq, sto, st⟩
    have hsrc : SrcAt w4 it.long 2 ((List.replicate (it.l.len + 70) (markV_Txn it.n)).flatMap cel_Txn) ∧ SrcAt w4 it.l 2 ((List.replicate it.l.len (markV_Txn it.n)).flatMap cel_Txn) := by
      have s1 := st.drop1
      rw [hcs, List.append_assoc] at s1
      refine ⟨hg.src s1, ?_⟩
      rcases hor with hp | hsrc
      · exact rep_src cel_Txn_len (hg.src s1) hp rfl (by omega) hll
      · exact hsrc _ _ _ s1.drop
    have rep : ∀ (s : Slc) (p i : Nat), SrcAt w4 s 2 ((List.replicate p (markV_Txn it.n)).flatMap cel_Txn) → i < s.len → IsAt s.ptr ∧ CellsAt w4 (pblk s.ptr) (poff s.ptr + i * 2) (cel_Txn (markV_Txn it.n)) := fun s p i hs hi => by
      obtain ⟨a, x, hx, hc⟩ := SrcAt.getN hs cel_Txn_len (by decide) (i := (i : Int)) (by omega) (by omega)
      rw [Int.toNat_natCast] at hx hc
      rw [(List.mem_replicate.1 (List.mem_of_getElem? hx)).2] at hc
      exact ⟨a, hc⟩
    unfold F_towpathlaw01_Book_lookTxn_L1
    refine ⟨it.long, st.cell 0 rfl rfl, fun hk => ?_, fun hk => ?_⟩
    · have hk := of_decide_eq_true hk
      obtain ⟨a, hc1⟩ := rep it.long _ q hsrc.1 (by omega)
      refine ⟨it.long, st.cell 0 rfl rfl, a, by omega, hk, markV_Txn it.n, by rw [Int.toNat_natCast]; exact hc1, it.n, st.cell 0 rfl rfl, true, fun w' e => sp_is_Txn hN (ht.ext (st.ext.trans e)), fun hh => (by cases hh), fun _ => ?_⟩
      have wq : IntKind.i64.wrap ((q : Int) + 1) = ((q + 1 : Nat) : Int) := by rw [i64_in _ (by omega) (by omega)]; omega
      have fin : ∀ w', Ext w4 w' → (∃ (q' : Nat), ((q + 1 : Nat) : Int) = (q' : Int) ∧ q' ≤ it.long.len ∧ St w0 ((b1, itemCells it) :: ((b, C) :: (cs ++ l))) w' ∧ St w0 ((b1, itemCells it) :: (it.cs ++ (((b, C) :: tb) ++ ((itsC d ++ itsC r) ++ l)))) w') := fun w' e => ⟨q + 1, rfl, by omega, sto.keep e, st.keep e⟩
      refine ⟨it.l, st.cell 0 rfl rfl, fun hk2 => ?_, fun hk2 w10 e10 => ?_⟩
      · have hk2 := of_decide_eq_true hk2
        obtain ⟨a2, hc2⟩ := rep it.l _ q hsrc.2 (by omega)
        refine ⟨it.l, st.cell 0 rfl rfl, a2, by omega, hk2, markV_Txn it.n, by rw [Int.toNat_natCast]; exact hc2, it.n, st.cell 0 rfl rfl, true, fun w' e => sp_is_Txn hN (ht.ext (st.ext.trans e)), fun w9 e9 => ?_⟩
        unfold F_towpathlaw01_Book_lookTxn_k2
        refine ⟨fun hh => (by cases hh), fun _ => ?_⟩
        rw [wq]
        exact ⟨fin _ e9, by show _ - _ < _ - _; omega⟩
      · unfold F_towpathlaw01_Book_lookTxn_k2
        refine ⟨fun hh => (by cases hh), fun _ => ?_⟩
        rw [wq]
        exact ⟨fin _ e10, by show _ - _ < _ - _; omega⟩
    · have wj : IntKind.i64.wrap ((j : Int) + 1) = ((j + 1 : Nat) : Int) := by rw [i64_in _ (by omega) (by omega)]; omega
      rw [wj]
      exact ⟨⟨j + 1, rfl, by omega, sto.drop1⟩, by show _ - _ < _ - _; omega⟩
  · exact k _ st
end
end Go.Proofs.YtpdegdnigcnjiaaGreatDoor

