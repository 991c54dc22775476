/- A cell of one's own row is written. -/
import Derived.Test.YtpdegdnigcnjiaaGreatDoorLib
import Derived.Test.YtpdegdnigcnjiaaGreatDoorGslices
import Derived.Test.YtpdegdnigcnjiaaGreatDoorGtowpathlaw01
import Derived.Test.YtpdegdnigcnjiaaGreatDoorGcodec
import Derived.Test.YtpdegdnigcnjiaaGreatDoorGF
import Derived.Test.YtpdegdnigcnjiaaGreatDoorGrecord
import Derived.Test.YtpdegdnigcnjiaaGreatDoorGsum
import Derived.Test.YtpdegdnigcnjiaaGreatDoorGtowpathref03
import Derived.Test.YtpdegdnigcnjiaaGreatDoorGlogfile
import Derived.Test.YtpdegdnigcnjiaaGreatDoorGtowpathref02
import Derived.Test.YtpdegdnigcnjiaaGreatDoorGtowpathref05
import Derived.Test.YtpdegdnigcnjiaaGreatDoorGtowpathref06
namespace Go.Proofs.YtpdegdnigcnjiaaGreatDoor
open Go
set_option linter.unusedVariables false
set_option linter.unusedSimpArgs false

abbrev Chunk := Nat × List Value
abbrev iV (x : Int) : Value := Value.int .i64 x
/-- The world that one began with, and what was made since that is no row of cells. -/
structure Base where
  w : World
  mp : List (Nat × Obj)
def Solid (o : Obj) : Prop := ∀ c t f, o ≠ .cells c t f
structure MpOk (w0 : Base) (w : World) : Prop where
  at_ : ∀ q ∈ w0.mp, w.heap[q.1]? = some q.2
  solid : ∀ q ∈ w0.mp, Solid q.2
  own : ∀ q ∈ w0.mp, w0.w.heap.size ≤ q.1
  nodup : (w0.mp.map (·.1)).Nodup
theorem obj_ext {w w' : World} {r : Nat} {o : Obj} (e : Ext w w') (h : w.heap[r]? = some o) : w'.heap[r]? = some o :=
  (e.block r (Array.getElem?_eq_some_iff.1 h).1).trans h
theorem MpOk.keep {w0 : Base} {w w' : World} (h : MpOk w0 w) (e : Ext w w') : MpOk w0 w' := ⟨fun q hq => obj_ext e (h.at_ q hq), h.solid, h.own, h.nodup⟩
theorem puts_heap_ne {b k : Nat} (hne : k ≠ b) : ∀ (vs : List Value) (o : Nat) (w : World), (World.puts b o vs w).heap[k]? = w.heap[k]?
  | [], _, _ => rfl
  | v :: vs, o, w => by
    show (World.puts b (o + 1) vs (w.setCell ⟨b, o, none⟩ v)).heap[k]? = _
    rw [puts_heap_ne hne vs (o + 1)]
    exact RowKit.Below.heap_setCell w ⟨b, o, none⟩ v k hne
/-- Since w0 nothing old has turned; these blocks are new since then, apart from one another, and hold these cells. -/
structure St (w0 : Base) (l : List Chunk) (w : World) : Prop where
  ext : Ext w0.w w
  blk : ∀ p ∈ l, Blk w p.1 p.2
  own : ∀ p ∈ l, w0.w.heap.size ≤ p.1
  nodup : (l.map (·.1)).Nodup
  mps : MpOk w0 w

namespace St
variable {w0 : Base} {w w' : World} {l : List Chunk}
theorem start (w : World) : St ⟨w, []⟩ [] w := ⟨Ext.refl _, fun p hp => (by cases hp), fun p hp => (by cases hp), List.nodup_nil, ⟨fun q hq => (by cases hq), fun q hq => (by cases hq), fun q hq => (by cases hq), List.nodup_nil⟩⟩
theorem keep (h : St w0 l w) (e : Ext w w') : St w0 l w' := ⟨h.ext.trans e, fun p hp => (h.blk p hp).ext e, h.own, h.nodup, h.mps.keep e⟩
theorem drew (h : St w0 l w) (e : ∃ k, w' = w.drewN k) : St w0 l w' := h.keep (Qt.ext e)
theorem alloc {b : Nat} {cs : List Value} {T : TypeId} (h : St w0 l w) (hb : b = w.heap.size) (hw : w' = w.alloc (Obj.cells cs.toArray T (0, 0))) : St w0 ((b, cs) :: l) w' := by
  have e : Ext w w' := Ext.new hw
  refine ⟨h.ext.trans e, fun p hp => ?_, fun p hp => ?_, ?_, h.mps.keep e⟩
  · rcases List.mem_cons.1 hp with rfl | hp
    · exact Blk.new hb hw
    · exact (h.blk p hp).ext e
  · rcases List.mem_cons.1 hp with rfl | hp
    · have := h.ext.size; show w0.w.heap.size ≤ b; omega
    · exact h.own p hp
  · rw [List.map_cons, List.nodup_cons]
    refine ⟨fun hm => ?_, h.nodup⟩
    obtain ⟨p, hp, he⟩ := List.mem_map.1 hm
    have := (h.blk p hp).lt
    simp only at he
    omega
theorem perm {l' : List Chunk} (h : St w0 l w) (p : l.Perm l') : St w0 l' w :=
  ⟨h.ext, fun q hq => h.blk q (p.mem_iff.2 hq), fun q hq => h.own q (p.mem_iff.2 hq), (p.map _).nodup_iff.1 h.nodup, h.mps⟩
theorem sub {l' : List Chunk} (h : St w0 l w) (p : l'.Sublist l) : St w0 l' w :=
  ⟨h.ext, fun q hq => h.blk q (p.mem hq), fun q hq => h.own q (p.mem hq), (p.map _).nodup h.nodup, h.mps⟩
theorem drop {a : List Chunk} (h : St w0 (a ++ l) w) : St w0 l w := h.sub (List.sublist_append_right _ _)
theorem drop1 {c : Chunk} (h : St w0 (c :: l) w) : St w0 l w := h.sub (List.sublist_cons_self _ _)
theorem swap {a b : List Chunk} (h : St w0 (a ++ (b ++ l)) w) : St w0 (b ++ (a ++ l)) w := h.perm (List.perm_append_comm_assoc _ _ _)
theorem mid {a b : List Chunk} {c : Chunk} (h : St w0 (c :: (a ++ b)) w) : St w0 (a ++ (c :: b)) w := h.perm List.perm_middle.symm
theorem unmid {a b : List Chunk} {c : Chunk} (h : St w0 (a ++ (c :: b)) w) : St w0 (c :: (a ++ b)) w := h.perm List.perm_middle
theorem get {b : Nat} {cs : List Value} (h : St w0 l w) (i : Nat) (hi : l[i]? = some (b, cs)) : Blk w b cs := h.blk (b, cs) (List.mem_of_getElem? hi)
theorem cell {b : Nat} {cs : List Value} {o : Nat} {v : Value} (h : St w0 l w) (i : Nat) (hi : l[i]? = some (b, cs)) (hv : cs[o]? = some v) : w.cell? ⟨b, o, none⟩ = some v := (h.get i hi).cell hv
theorem put {b o : Nat} {cs vs : List Value} (h : St w0 l w) (i : Nat) (hi : l[i]? = some (b, cs)) (hw : w' = World.puts b o vs w) : St w0 (l.set i (b, putL o vs cs)) w' := by
  subst hw
  have hm := List.mem_of_getElem? hi
  have hil := (List.getElem?_eq_some_iff.1 hi).1
  have hb : w0.w.heap.size ≤ b := h.own _ hm
  have hmap : (l.set i (b, putL o vs cs)).map (·.1) = l.map (·.1) := by
    rw [List.map_set]
    refine List.ext_getElem? fun j => ?_
    by_cases hj : i = j
    · subst hj
      rw [List.getElem?_set_self (by simpa using hil), List.getElem?_map, hi]; rfl
    · rw [List.getElem?_set_ne hj]
  have hnm : ∀ q ∈ w0.mp, q.1 ≠ b := fun q hq e => by
    obtain ⟨T, lo, hi', hb', _⟩ := h.blk _ hm
    have hr := h.mps.at_ q hq
    rw [e] at hr
    rw [hr] at hb'
    exact h.mps.solid q hq _ _ _ (Option.some.inj hb')
  refine ⟨Below_puts _ h.ext hb, fun p hp => ?_, fun p hp => ?_, by rw [hmap]; exact h.nodup, ⟨fun q hq => (puts_heap_ne (hnm q hq) _ _ _).trans (h.mps.at_ q hq), h.mps.solid, h.mps.own, h.mps.nodup⟩⟩
  · obtain ⟨j, hj⟩ := List.mem_iff_getElem?.1 hp
    by_cases hij : i = j
    · subst hij
      rw [List.getElem?_set_self hil] at hj
      obtain rfl := Option.some.inj hj
      exact (h.blk _ hm).puts vs
    · rw [List.getElem?_set_ne hij] at hj
      refine (h.blk p (List.mem_of_getElem? hj)).puts_ne fun e => ?_
      refine hij ((List.getElem?_inj (by simpa using hil) h.nodup).1 ?_)
      rw [List.getElem?_map, List.getElem?_map, hi, hj]
      exact congrArg some e.symm
  · obtain ⟨j, hj⟩ := List.mem_iff_getElem?.1 hp
    by_cases hij : i = j
    · subst hij
      rw [List.getElem?_set_self hil] at hj
      obtain rfl := Option.some.inj hj
      exact hb
    · rw [List.getElem?_set_ne hij] at hj
      exact h.own p (List.mem_of_getElem? hj)
/-- The first block is written. -/
theorem put0 {b o : Nat} {cs vs : List Value} (h : St w0 ((b, cs) :: l) w) (hw : w' = World.puts b o vs w) : St w0 ((b, putL o vs cs) :: l) w' := h.put 0 rfl hw
theorem put1 {b o : Nat} {cs vs : List Value} {c0 : Chunk} (h : St w0 (c0 :: (b, cs) :: l) w) (hw : w' = World.puts b o vs w) : St w0 (c0 :: (b, putL o vs cs) :: l) w' := h.put 1 rfl hw
theorem writable {b o k : Nat} {cs : List Value} (h : St w0 l w) (i : Nat) (hi : l[i]? = some (b, cs)) (hk : o + k ≤ cs.length) : Writable w b o k := (h.get i hi).writable hk
theorem freeze {b : Nat} {cs : List Value} (h : St w0 ((b, cs) :: l) w) (hw : w' = w.freeze ⟨b, cs.length, none⟩ 1) : St w0 ((b, cs) :: l) w' := by
  have hfz : ∀ j, j ≠ b → w'.heap[j]? = w.heap[j]? := fun j hj => by
    subst hw
    unfold World.freeze
    rw [if_neg (by decide)]
    simp only [Array.getElem?_modify]
    rw [if_neg (fun e => hj e.symm)]
  have hsz : w'.heap.size = w.heap.size := by subst hw; unfold World.freeze; rw [if_neg (by decide)]; simp
  have hob := h.own _ (List.mem_cons_self ..)
  simp only at hob
  refine ⟨RowKit.Below.trans h.ext ⟨by subst hw; rfl, by subst hw; rfl, by subst hw; rfl, by omega, fun k hk => hfz k (by omega)⟩, fun p hp => ?_, h.own, h.nodup, ⟨fun q hq => ?_, h.mps.solid, h.mps.own, h.mps.nodup⟩⟩
  rotate_left
  · have hq' := h.mps.at_ q hq
    refine (hfz q.1 fun e => ?_).trans hq'
    obtain ⟨T, lo, hi, hb, _⟩ := h.get 0 rfl
    rw [e] at hq'
    rw [hq'] at hb
    exact h.mps.solid q hq _ _ _ (Option.some.inj hb)
  rcases List.mem_cons.1 hp with rfl | hp
  · obtain ⟨T, lo, hi, hb, hf⟩ := h.get 0 rfl
    by_cases he : lo = hi
    · refine ⟨T, cs.length, cs.length + 1, ?_, .inr (Nat.le_refl _)⟩
      subst hw
      unfold World.freeze
      rw [if_neg (by decide)]
      simp only [Array.getElem?_modify, if_true, hb, Option.map_some]
      rw [if_pos (by simpa using he)]
    · refine ⟨T, min lo cs.length, max hi (cs.length + 1), ?_, ?_⟩
      · subst hw
        unfold World.freeze
        rw [if_neg (by decide)]
        simp only [Array.getElem?_modify, if_true, hb, Option.map_some]
        rw [if_neg (by simpa using he)]
      · exact .inr (by have : cs.length ≤ lo := hf.resolve_left he
                       show cs.length ≤ min lo cs.length; omega)
  · have hne : p.1 ≠ b := fun e => by
      have := h.nodup
      rw [List.map_cons, List.nodup_cons] at this
      exact this.1 (List.mem_map.2 ⟨p, hp, e⟩)
    obtain ⟨T, lo, hi, hb, hf⟩ := h.blk p (List.mem_cons_of_mem _ hp)
    exact ⟨T, lo, hi, (hfz _ hne).trans hb, hf⟩
theorem below (h : St w0 l w) : RowKit.Below w0.w.heap.size w0.w w := h.ext
/-- A new block that is no row of cells. -/
theorem newObj {b : Nat} {o : Obj} (h : St w0 l w) (hb : b = w.heap.size) (hw : w' = w.alloc o) (ho : Solid o) : St ⟨w0.w, (b, o) :: w0.mp⟩ l w' := by
  have h' := h.keep (Ext.new hw)
  have hs := h.ext.size
  refine ⟨h'.ext, h'.blk, h'.own, h'.nodup, ⟨fun q hq => ?_, fun q hq => ?_, fun q hq => ?_, ?_⟩⟩
  · rcases List.mem_cons.1 hq with rfl | hq
    · subst hb; subst hw
      show (w.heap.push o)[w.heap.size]? = some o
      rw [Array.getElem?_push_size]
    · exact h'.mps.at_ q hq
  · rcases List.mem_cons.1 hq with rfl | hq
    · exact ho
    · exact h'.mps.solid q hq
  · rcases List.mem_cons.1 hq with rfl | hq
    · show w0.w.heap.size ≤ b; omega
    · exact h'.mps.own q hq
  · show ((b :: w0.mp.map (·.1))).Nodup
    rw [List.nodup_cons]
    refine ⟨fun hm => ?_, h.mps.nodup⟩
    obtain ⟨q, hq, he⟩ := List.mem_map.1 hm
    have := (Array.getElem?_eq_some_iff.1 (h.mps.at_ q hq)).1
    omega
/-- A block that is no row of cells is turned. -/
theorem turn {a b : List (Nat × Obj)} {r : Nat} {o o' : Obj} {W : World} (h : St ⟨W, a ++ (r, o) :: b⟩ l w) (hw : w' = w.putObj r o') (ho : Solid o') : St ⟨W, a ++ (r, o') :: b⟩ l w' := by
  have hm : (r, o) ∈ a ++ (r, o) :: b := List.mem_append_right _ (List.mem_cons_self ..)
  have hat := h.mps.at_ _ hm
  have hlt := (Array.getElem?_eq_some_iff.1 hat).1
  have hWr : W.heap.size ≤ r := h.mps.own _ hm
  have hne : ∀ k, k ≠ r → w'.heap[k]? = w.heap[k]? := fun k hk => by subst hw; exact World.putObj_heap_other hk
  have hsz : w'.heap.size = w.heap.size := by subst hw; exact World.putObj_size
  have hx := h.ext.size
  have hnod : ((a ++ (r, o') :: b).map (·.1)) = ((a ++ (r, o) :: b).map (·.1)) := by rw [List.map_append, List.map_append]; rfl
  have hn2 := h.mps.nodup
  have hsplit : ∀ q ∈ a ++ (r, o') :: b, q = (r, o') ∨ (q ∈ a ++ (r, o) :: b ∧ q.1 ≠ r) := fun q hq => by
    have hn3 : ((a ++ (r, o) :: b).map (·.1)).Nodup := hn2
    rw [List.map_append, List.map_cons, List.nodup_append, List.nodup_cons] at hn3
    rcases List.mem_append.1 hq with hq | hq
    · refine .inr ⟨List.mem_append_left _ hq, fun e => ?_⟩
      exact hn3.2.2 _ (List.mem_map.2 ⟨q, hq, rfl⟩) _ (List.mem_cons_self ..) e
    · rcases List.mem_cons.1 hq with rfl | hq
      · exact .inl rfl
      · refine .inr ⟨List.mem_append_right _ (List.mem_cons_of_mem _ hq), fun e => ?_⟩
        exact hn3.2.1.1 (List.mem_map.2 ⟨q, hq, e⟩)
  refine ⟨RowKit.Below.trans h.ext ⟨by subst hw; rfl, by subst hw; rfl, by subst hw; rfl, by omega, fun k hk => hne k (fun e => by
      have hk : k < W.heap.size := hk
      omega)⟩, fun p hp => ?_, h.own, h.nodup, ⟨fun q hq => ?_, fun q hq => ?_, fun q hq => ?_, by show ((a ++ (r, o') :: b).map (·.1)).Nodup; rw [hnod]; exact hn2⟩⟩
  · obtain ⟨T, lo, hi, hb, hf⟩ := h.blk p hp
    refine ⟨T, lo, hi, (hne p.1 fun e => ?_).trans hb, hf⟩
    rw [e, hat] at hb
    exact h.mps.solid _ hm _ _ _ (Option.some.inj hb)
  · rcases hsplit q hq with rfl | ⟨hq, hqr⟩
    · subst hw; exact World.putObj_heap_same hlt
    · exact (hne q.1 hqr).trans (h.mps.at_ q hq)
  · rcases hsplit q hq with rfl | ⟨hq, hqr⟩
    · exact ho
    · exact h.mps.solid q hq
  · rcases hsplit q hq with rfl | ⟨hq, hqr⟩
    · exact hWr
    · exact h.mps.own q hq
theorem forget {a b : List (Nat × Obj)} {W : World} (h : St ⟨W, a ++ b⟩ l w) : St ⟨W, b⟩ l w :=
  ⟨h.ext, h.blk, h.own, h.nodup, ⟨fun q hq => h.mps.at_ q (List.mem_append_right _ hq), fun q hq => h.mps.solid q (List.mem_append_right _ hq), fun q hq => h.mps.own q (List.mem_append_right _ hq), (by
    have h2 := h.mps.nodup
    have h3 : ((a ++ b).map (·.1)).Nodup := h2
    rw [List.map_append, List.nodup_append] at h3
    exact h3.2.1)⟩⟩
theorem objAt {r : Nat} {o : Obj} (h : St w0 l w) (i : Nat) (hi : w0.mp[i]? = some (r, o)) : w.heap[r]? = some o := h.mps.at_ _ (List.mem_of_getElem? hi)
theorem lt {b : Nat} {cs : List Value} (h : St w0 l w) (i : Nat) (hi : l[i]? = some (b, cs)) : b < w.heap.size := (h.get i hi).lt
end St

/-! ### Slices of one's own -/
def RowC (sz : Nat) (s : Slc) (xs : List Value) (bs : List Chunk) : Prop :=
  (s.ptr = none ∧ s.len = 0 ∧ s.cap = 0 ∧ xs = [] ∧ bs = []) ∨
  ∃ b pre rest suf, s.ptr = some ⟨b, pre.length, none⟩ ∧ bs = [(b, pre ++ (xs ++ (rest ++ suf)))] ∧ xs.length = s.len * sz ∧ xs.length + rest.length = s.cap * sz ∧ s.len ≤ s.cap

namespace RowC
variable {sz : Nat} {s : Slc} {xs : List Value} {bs l : List Chunk} {w0 : Base} {w : World}
theorem nil : RowC sz ⟨none, 0, 0⟩ [] [] := .inl ⟨rfl, rfl, rfl, rfl, rfl⟩
theorem new {b : Nat} {n : Nat} (h : xs.length = n * sz) : RowC sz ⟨some ⟨b, 0, none⟩, n, n⟩ xs [(b, xs)] := .inr ⟨b, [], [], [], rfl, by simp, h, by simpa using h, Nat.le_refl _⟩
theorem len (h : RowC sz s xs bs) : xs.length = s.len * sz := by
  rcases h with ⟨_, h, _, rfl, _⟩ | ⟨_, _, _, _, _, _, h, _, _⟩
  · simp [h]
  · exact h
theorem cap_le (h : RowC sz s xs bs) : s.len ≤ s.cap := by
  rcases h with ⟨_, h, _, _, _⟩ | ⟨_, _, _, _, _, _, _, _, h⟩ <;> omega
theorem src (h : RowC sz s xs bs) (st : St w0 (bs ++ l) w) : SrcAt w s sz xs := by
  rcases h with ⟨h1, h2, h3, rfl, _⟩ | ⟨b, pre, rest, suf, hp, rfl, h1, h2, h3⟩
  · exact ⟨by simp [h2], .inl rfl⟩
  · refine ⟨h1, .inr ?_⟩
    rw [hp]
    refine ⟨rfl, (st.get 0 rfl).cells fun i v hi => ?_⟩
    have hl := (List.getElem?_eq_some_iff.1 hi).1
    show (pre ++ (xs ++ (rest ++ suf)))[pre.length + i]? = some v
    rw [List.getElem?_append_right (by omega), List.getElem?_append_left (by omega)]
    rw [show pre.length + i - pre.length = i from by omega]
    exact hi
theorem append {by_ k : Nat} {e : TypeId} {zs src : List Value} {K : Slc → World → Prop} (h : RowC sz s xs bs) (st : St w0 (bs ++ l) w)
    (hk : src.length = k * sz) (h1 : oneCells src = true) (hz : zs.length = sz) (hcap : (s.len + k) * by_ ≤ 140737488355328)
    (hK : ∀ s' bs' w', RowC sz s' (xs ++ src) bs' → St w0 (bs' ++ l) w' → s'.len = s.len + k → K s' w') : AppendW sz by_ e zs s src k w K := by
  refine ⟨fun hc => ?_, fun hc => ⟨growslice_fits hc hcap, xs, h.src st, fun cap b w' hcl _ hb hw => ?_⟩⟩
  · rcases h with ⟨hp, hl, hcz, rfl, rfl⟩ | ⟨b, pre, rest, suf, hp, rfl, hx, hr, hle⟩
    · have hk0 : k = 0 := by omega
      have hs : src = [] := by
        have : src.length = 0 := by rw [hk, hk0, Nat.zero_mul]
        exact List.eq_nil_of_length_eq_zero this
      subst hs
      exact .inl ⟨rfl, hK _ [] _ (.inl ⟨hp, by simp [hl, hk0], hcz, rfl, rfl⟩) st rfl⟩
    · have hroom : src.length ≤ rest.length := by
        have : (s.len + k) * sz ≤ s.cap * sz := Nat.mul_le_mul_right _ hc
        rw [Nat.add_mul] at this
        omega
      have hlen : poff s.ptr + s.len * sz = (pre ++ xs).length := by rw [hp]; show pre.length + s.len * sz = _; simp; omega
      have hpb : pblk s.ptr = b := by rw [hp]; rfl
      refine .inr ⟨by rw [hp]; rfl, ?_, h1, fun w' hw => ?_⟩
      · rw [hlen, hpb]
        exact st.writable 0 rfl (by simp; omega)
      · rw [hlen, hpb] at hw
        have hn := st.put0 hw
        have e1 : pre ++ (xs ++ (rest ++ suf)) = (pre ++ xs) ++ rest.take src.length ++ (rest.drop src.length ++ suf) := by
          conv => lhs; rw [← List.take_append_drop src.length rest]
          simp only [List.append_assoc]
        rw [e1, putL_append _ _ _ _ (by simp; omega)] at hn
        refine hK _ [(b, pre ++ ((xs ++ src) ++ (rest.drop src.length ++ suf)))] _ (.inr ⟨b, pre, rest.drop src.length, suf, hp, rfl, ?_, ?_, hc⟩) ?_ rfl
        · simp [hx, hk, Nat.add_mul]
        · simp; omega
        · have e2 : pre ++ ((xs ++ src) ++ (rest.drop src.length ++ suf)) = (pre ++ xs) ++ src ++ (rest.drop src.length ++ suf) := by simp only [List.append_assoc]
          rw [e2]; exact hn
  · have hE : Ext w w.drew := Qt.ext ⟨1, rfl⟩
    have hbs : b = w.drew.heap.size := hb
    have st' := (st.drop.keep hE).alloc hbs hw
    refine hK _ [(b, xs ++ src ++ (repCells (cap - (s.len + k)) zs).toList)] _ (.inr ⟨b, [], (repCells (cap - (s.len + k)) zs).toList, [], rfl, by simp, ?_, ?_, hcl⟩) st' rfl
    · simp only [List.length_append, hk, h.len, Nat.add_mul]
    · simp only [List.length_append, hk, h.len, repCells]
      simp only [List.length_flatten, List.map_replicate, hz, List.sum_replicate_nat]
      rw [← Nat.add_mul, ← Nat.add_mul]
      congr 1
      show s.len + k + (cap - (s.len + k)) = cap
      omega
/-- x[lo:hi:mx] of a slice of one's own. -/
theorem cut {lo hi mx : Int} (h : RowC sz s xs bs) (h0 : 0 ≤ lo) (h1 : lo ≤ hi) (h2 : hi ≤ ((s.len : Nat) : Int)) (h3 : hi ≤ mx) (h4 : mx ≤ ((s.cap : Nat) : Int)) :
    RowC sz (Slc.cut sz s lo hi mx) ((xs.drop (lo.toNat * sz)).take ((hi.toNat - lo.toNat) * sz)) bs := by
  rcases h with ⟨hp, hl, hcz, rfl, rfl⟩ | ⟨b, pre, rest, suf, hp, rfl, hx, hr, hle⟩
  · refine .inl ⟨?_, ?_, ?_, by simp, rfl⟩
    · unfold Slc.cut; rw [hp]; simp
    · unfold Slc.cut; simp only; omega
    · unfold Slc.cut; simp only; omega
  · obtain ⟨lo, rfl⟩ := toN h0
    obtain ⟨hi, rfl⟩ := toN (show 0 ≤ hi by omega)
    obtain ⟨mx, rfl⟩ := toN (show 0 ≤ mx by omega)
    simp only [Int.toNat_natCast] at *
    have hlo : lo * sz ≤ hi * sz := Nat.mul_le_mul_right _ (by omega)
    have hhi : hi * sz ≤ s.len * sz := Nat.mul_le_mul_right _ (by omega)
    have hmx : hi * sz ≤ mx * sz := Nat.mul_le_mul_right _ (by omega)
    have hcp : mx * sz ≤ s.cap * sz := Nat.mul_le_mul_right _ (by omega)
    have hsub : (hi - lo) * sz = hi * sz - lo * sz := Nat.sub_mul _ _ _
    have hsub2 : (mx - lo) * sz = mx * sz - lo * sz := Nat.sub_mul _ _ _
    have hxl : ((xs.drop (lo * sz)).take ((hi - lo) * sz)).length = (hi - lo) * sz := by
      rw [List.length_take, List.length_drop, hsub]; omega
    by_cases hm : mx = lo
    · subst hm
      have : hi = mx := by omega
      subst this
      refine .inr ⟨b, pre, [], xs ++ (rest ++ suf), ?_, ?_, ?_, ?_, ?_⟩
      · unfold Slc.cut; simp [hp]
      · rw [Nat.sub_self, Nat.zero_mul, List.take_zero]; simp
      · unfold Slc.cut; simp
      · unfold Slc.cut; simp
      · unfold Slc.cut; simp
    · refine .inr ⟨b, pre ++ xs.take (lo * sz), ((xs ++ rest).drop (hi * sz)).take ((mx - hi) * sz), (xs ++ rest).drop (mx * sz) ++ suf, ?_, ?_, ?_, ?_, ?_⟩
      · unfold Slc.cut
        simp only [Int.toNat_natCast]
        rw [if_neg hm, hp]
        simp only [Option.map_some, addr_add, List.length_append, List.length_take, Option.some.injEq, Addr.mk.injEq, true_and, and_true]
        omega
      · congr 2
        have hsub3 : (mx - hi) * sz = mx * sz - hi * sz := Nat.sub_mul _ _ _
        have e1 : xs ++ rest = xs.take (lo * sz) ++ ((xs.drop (lo * sz)).take ((hi - lo) * sz) ++ (((xs ++ rest).drop (hi * sz)).take ((mx - hi) * sz) ++ (xs ++ rest).drop (mx * sz))) := by
          have a1 : ((xs ++ rest).drop (hi * sz)).take ((mx - hi) * sz) ++ (xs ++ rest).drop (mx * sz) = (xs ++ rest).drop (hi * sz) := by
            conv => rhs; rw [← List.take_append_drop ((mx - hi) * sz) ((xs ++ rest).drop (hi * sz))]
            rw [List.drop_drop, show hi * sz + (mx - hi) * sz = mx * sz from by omega]
          have a2 : (xs.drop (lo * sz)).take ((hi - lo) * sz) ++ (xs ++ rest).drop (hi * sz) = (xs ++ rest).drop (lo * sz) := by
            conv => rhs; rw [← List.take_append_drop ((hi - lo) * sz) ((xs ++ rest).drop (lo * sz))]
            rw [List.drop_drop, show lo * sz + (hi - lo) * sz = hi * sz from by omega, List.drop_append_of_le_length (by omega : lo * sz ≤ xs.length), List.take_append_of_le_length (by rw [List.length_drop]; omega)]
          rw [a1, a2]
          conv => lhs; rw [← List.take_append_drop (lo * sz) (xs ++ rest)]
          rw [List.take_append_of_le_length (by omega)]
        rw [← List.append_assoc xs, e1]
        simp only [List.append_assoc]
        rw [← e1]
      · rw [hxl]; unfold Slc.cut; simp
      · rw [hxl, List.length_take, List.length_drop, List.length_append, hr]
        have hsub3 : (mx - hi) * sz = mx * sz - hi * sz := Nat.sub_mul _ _ _
        unfold Slc.cut
        simp only [Int.toNat_natCast]
        omega
      · unfold Slc.cut; simp only [Int.toNat_natCast]; omega
end RowC

/-- x[lo:hi:mx] of a slice that is read. -/
theorem SrcAt.cut {w : World} {s : Slc} {sz : Nat} {src : List Value} {lo hi mx : Int} (h : SrcAt w s sz src) (h0 : 0 ≤ lo) (h1 : lo ≤ hi) (h2 : hi ≤ ((s.len : Nat) : Int)) (h3 : hi ≤ mx) :
    SrcAt w (Slc.cut sz s lo hi mx) sz ((src.drop (lo.toNat * sz)).take ((hi.toNat - lo.toNat) * sz)) := by
  obtain ⟨lo, rfl⟩ := toN h0
  obtain ⟨hi, rfl⟩ := toN (show 0 ≤ hi by omega)
  obtain ⟨mx, rfl⟩ := toN (show 0 ≤ mx by omega)
  simp only [Int.toNat_natCast]
  obtain ⟨hl, hc⟩ := h
  have hlo : lo * sz ≤ hi * sz := Nat.mul_le_mul_right _ (by omega)
  have hhi : hi * sz ≤ s.len * sz := Nat.mul_le_mul_right _ (by omega)
  have hsub : (hi - lo) * sz = hi * sz - lo * sz := Nat.sub_mul _ _ _
  have hxl : ((src.drop (lo * sz)).take ((hi - lo) * sz)).length = (hi - lo) * sz := by
    rw [List.length_take, List.length_drop, hsub]; omega
  refine ⟨by rw [hxl]; unfold Slc.cut; simp, ?_⟩
  by_cases he : (src.drop (lo * sz)).take ((hi - lo) * sz) = []
  · exact .inl he
  · right
    rcases hc with hc | ⟨ha, hc⟩
    · exact absurd (by rw [hc]; simp) he
    · have hlh : lo ≠ hi := fun e => he (by subst e; simp)
      have hp : s.ptr = some ⟨pblk s.ptr, poff s.ptr, none⟩ := ha
      have hq : (Slc.cut sz s (lo : Int) (hi : Int) (mx : Int)).ptr = some ⟨pblk s.ptr, poff s.ptr + lo * sz, none⟩ := by
        unfold Slc.cut
        simp only [Int.toNat_natCast]
        rw [if_neg (by omega)]
        generalize pblk s.ptr = pb at *
        generalize poff s.ptr = po at *
        rw [hp]; simp [addr_add]
      rw [hq]
      refine ⟨rfl, cellsAt_iff.2 fun i v hi' => ?_⟩
      show w.cell? ⟨pblk s.ptr, poff s.ptr + lo * sz + i, none⟩ = some v
      rw [Nat.add_assoc]
      refine cellsAt_iff.1 hc _ v ?_
      have hil := (List.getElem?_eq_some_iff.1 hi').1
      rw [hxl] at hil
      rw [List.getElem?_take, if_pos hil, List.getElem?_drop] at hi'
      exact hi'

/-- Element i of a slice of things of some cells. -/
theorem SrcAt.getN {α : Type} {f : α → List Value} {w : World} {s : Slc} {sz : Nat} {l : List α} (h : SrcAt w s sz (l.flatMap f)) (hf : ∀ x, (f x).length = sz) (hz : 0 < sz) {i : Int} (h0 : 0 ≤ i) (h1 : i < ((s.len : Nat) : Int)) :
    IsAt s.ptr ∧ ∃ x, l[i.toNat]? = some x ∧ CellsAt w (pblk s.ptr) (poff s.ptr + i.toNat * sz) (f x) := by
  have hfl : ∀ l : List α, (l.flatMap f).length = l.length * sz := fun l => by
    induction l with
    | nil => simp
    | cons x l ih => rw [List.flatMap_cons, List.length_append, ih, hf, List.length_cons, Nat.add_mul]; omega
  have hl : l.length = s.len := by
    have := h.1
    rw [hfl] at this
    exact Nat.eq_of_mul_eq_mul_right hz this
  obtain ⟨a, c⟩ := SrcAtN.at_ h (by omega) hz
  have hlt : i.toNat < l.length := by omega
  refine ⟨a, l[i.toNat], List.getElem?_eq_getElem hlt, cellsAt_iff.2 fun j v hj => ?_⟩
  have e1 : l.flatMap f = (l.take i.toNat).flatMap f ++ (f l[i.toNat] ++ (l.drop (i.toNat + 1)).flatMap f) := by
    conv => lhs; rw [← List.take_append_drop i.toNat l, List.drop_eq_getElem_cons hlt, List.flatMap_append, List.flatMap_cons]
  rw [Nat.add_assoc]
  refine cellsAt_iff.1 c _ v ?_
  have e2 : ((l.take i.toNat).flatMap f).length = i.toNat * sz := by rw [hfl, List.length_take, Nat.min_eq_left (by omega)]
  rw [e1, List.getElem?_append_right (by omega), e2, show i.toNat * sz + j - i.toNat * sz = j from by omega, List.getElem?_append_left (List.getElem?_eq_some_iff.1 hj).1]
  exact hj

/-- x[:k] of a slice that is read. -/
theorem SrcAt.pre {w : World} {s : Slc} {sz k : Nat} {src : List Value} (h : SrcAt w s sz src) (hk : k ≤ s.len) : SrcAt w ⟨s.ptr, k, s.cap⟩ sz (src.take (k * sz)) := by
  obtain ⟨hl, hc⟩ := h
  have hm : k * sz ≤ s.len * sz := Nat.mul_le_mul_right _ hk
  refine ⟨by rw [List.length_take]; show min (k * sz) src.length = k * sz; omega, ?_⟩
  rcases hc with hc | ⟨ha, hc⟩
  · exact .inl (by rw [hc]; simp)
  · refine .inr ⟨ha, cellsAt_iff.2 fun i v hi => cellsAt_iff.1 hc i v ?_⟩
    have hil := (List.getElem?_eq_some_iff.1 hi).1
    rw [List.length_take] at hil
    rw [List.getElem?_take, if_pos (by omega)] at hi
    exact hi

/-! ### A slice of things of some cells that came in -/
theorem flatMap_len {α : Type} {f : α → List Value} {sz : Nat} (hf : ∀ x, (f x).length = sz) : ∀ l : List α, (l.flatMap f).length = l.length * sz
  | [] => by simp
  | x :: l => by rw [List.flatMap_cons, List.length_append, flatMap_len hf l, hf, List.length_cons, Nat.add_mul]; omega
end Go.Proofs.YtpdegdnigcnjiaaGreatDoor

namespace Go.Proofs.YtpdegdnigcnjiaaGreatDoor
open Go
set_option linter.unusedVariables false
set_option linter.unusedSimpArgs false

abbrev slV (s : Slc) : Value := Value.slice s.ptr s.len s.cap
/-- A plain block: nothing of it is frozen. -/
def Plain (w : World) (b : Nat) : Prop := ∀ o, w.frozen? ⟨b, o, none⟩ = false
theorem Plain.new {w w1 : World} {b : Nat} {vs : List Value} {T : TypeId} (hb : b = w.heap.size) (hw : w1 = w.alloc (.cells vs.toArray T (0, 0))) : Plain w1 b := by
  intro o
  subst hb; subst hw
  unfold World.frozen? World.alloc
  simp
theorem Plain.ext {w w1 : World} {b : Nat} (h : Plain w b) (e : Ext w w1) (hb : b < w.heap.size) : Plain w1 b := by
  intro o
  have := h o
  unfold World.frozen? at this ⊢
  have e5 := e.block b hb
  simp only at this ⊢
  rw [e5]
  exact this

theorem srcAt_newN {w w1 : World} {b : Nat} {T : TypeId} {vs : List Value} {n c sz : Nat} (hb : b = w.heap.size) (hw : w1 = w.alloc (.cells vs.toArray T (0, 0))) (hn : vs.length = n * sz) :
    SrcAt w1 ⟨some ⟨b, 0, none⟩, n, c⟩ sz vs := ⟨hn, .inr ⟨rfl, (Blk.new hb hw).all⟩⟩

section
variable {sz : Nat} {s : Slc} {xs : List Value} {bs l : List Chunk} {w0 : Base} {w : World}
end
end Go.Proofs.YtpdegdnigcnjiaaGreatDoor

namespace Go.Proofs.YtpdegdnigcnjiaaGreatDoor
open Go
set_option linter.unusedVariables false
set_option linter.unusedSimpArgs false

theorem perm_of_sum {l l' : List Chunk} (h : ∀ f : Chunk → Nat, (l.map f).sum = (l'.map f).sum) : l.Perm l' := by
  classical
  refine List.perm_iff_count.2 fun a => ?_
  have key : ∀ l : List Chunk, List.count a l = (l.map fun x => if x = a then 1 else 0).sum := fun l => by
    induction l with
    | nil => rfl
    | cons x l ih =>
      rw [List.count_cons, ih, List.map_cons, List.sum_cons]
      by_cases hx : x = a
      · simp [hx]; omega
      · simp [hx]
  rw [key, key]
  exact h _
theorem St.weak {w0 : Base} {w : World} {l l' : List Chunk} (h : St w0 l w) (r : List Chunk) (p : l.Perm (r ++ l')) : St w0 l' w := (h.perm p).drop
end Go.Proofs.YtpdegdnigcnjiaaGreatDoor

namespace Go.Proofs.YtpdegdnigcnjiaaGreatDoor
open Go
set_option linter.unusedVariables false
set_option linter.unusedSimpArgs false

/-- Each thing's row, and the memory of all of them. -/
def Parts {α : Type} (In : α → Slc → List Chunk → Prop) : List α → List Slc → List Chunk → Prop
  | [], [], cs => cs = []
  | x :: xs, s :: sls, cs => ∃ c cs', cs = c ++ cs' ∧ In x s c ∧ Parts In xs sls cs'
  | _, _, _ => False
namespace Parts
variable {α : Type} {In : α → Slc → List Chunk → Prop}
theorem nil : Parts In [] [] [] := rfl
theorem len : ∀ {xs : List α} {sls : List Slc} {cs : List Chunk}, Parts In xs sls cs → sls.length = xs.length
  | [], [], _, _ => rfl
  | [], _ :: _, _, h => h.elim
  | _ :: _, [], _, h => h.elim
  | x :: xs, s :: sls, _, ⟨_, _, _, _, h⟩ => by rw [List.length_cons, List.length_cons, len h]
theorem snoc : ∀ {xs : List α} {sls : List Slc} {cs : List Chunk} {x : α} {s : Slc} {c : List Chunk}, Parts In xs sls cs → In x s c → Parts In (xs ++ [x]) (sls ++ [s]) (cs ++ c)
  | [], [], cs, x, s, c, h, hi => ⟨c, [], by rw [show cs = [] from h]; simp, hi, rfl⟩
  | [], _ :: _, _, _, _, _, h, _ => h.elim
  | _ :: _, [], _, _, _, _, h, _ => h.elim
  | y :: xs, t :: sls, cs, x, s, c, ⟨c1, cs1, e, h1, h2⟩, hi => ⟨c1, cs1 ++ c, by rw [e, List.append_assoc], h1, snoc h2 hi⟩
theorem mono {In' : α → Slc → List Chunk → Prop} (f : ∀ x s c, In x s c → In' x s c) : ∀ {xs : List α} {sls : List Slc} {cs : List Chunk}, Parts In xs sls cs → Parts In' xs sls cs
  | [], [], _, h => h
  | [], _ :: _, _, h => h.elim
  | _ :: _, [], _, h => h.elim
  | _ :: _, _ :: _, _, ⟨c, cs', e, h1, h2⟩ => ⟨c, cs', e, f _ _ _ h1, mono f h2⟩
/-- One of them, and the others' memory. -/
theorem at_ : ∀ {xs : List α} {sls : List Slc} {cs : List Chunk} {i : Nat} {x : α} {s : Slc}, Parts In xs sls cs → xs[i]? = some x → sls[i]? = some s → ∃ a c b, cs = a ++ (c ++ b) ∧ In x s c
  | [], _, _, i, x, s, _, h1, _ => by simp at h1
  | _ :: _, [], _, _, _, _, h, _, _ => h.elim
  | y :: xs, t :: sls, cs, 0, x, s, ⟨c, cs', e, h1, h2⟩, g1, g2 => by
    simp only [List.getElem?_cons_zero, Option.some.injEq] at g1 g2
    subst g1 g2
    exact ⟨[], c, cs', e, h1⟩
  | y :: xs, t :: sls, cs, i + 1, x, s, ⟨c, cs', e, h1, h2⟩, g1, g2 => by
    simp only [List.getElem?_cons_succ] at g1 g2
    obtain ⟨a, c2, b, e2, h⟩ := at_ h2 g1 g2
    exact ⟨c ++ a, c2, b, by rw [e, e2, List.append_assoc], h⟩
/-- The first ones and the rest. -/
theorem cut : ∀ {xs : List α} {sls : List Slc} {cs : List Chunk} (i : Nat), Parts In xs sls cs → ∃ a b, cs = a ++ b ∧ Parts In (xs.take i) (sls.take i) a ∧ Parts In (xs.drop i) (sls.drop i) b
  | xs, sls, cs, 0, h => ⟨[], cs, rfl, by simpa using nil, by simpa using h⟩
  | [], [], cs, i + 1, h => ⟨[], cs, rfl, by simpa using nil, by simpa using h⟩
  | [], _ :: _, _, _ + 1, h => h.elim
  | _ :: _, [], _, _ + 1, h => h.elim
  | x :: xs, s :: sls, cs, i + 1, ⟨c, cs', e, h1, h2⟩ => by
    obtain ⟨a, b, e2, g1, g2⟩ := cut i h2
    exact ⟨c ++ a, b, by rw [e, e2, List.append_assoc], ⟨c, a, rfl, h1, g1⟩, g2⟩
theorem get : ∀ {xs : List α} {sls : List Slc} {cs : List Chunk} {i : Nat}, Parts In xs sls cs → i < xs.length → ∃ x s, xs[i]? = some x ∧ sls[i]? = some s := fun {xs sls cs i} h hi => by
  have := h.len
  exact ⟨_, _, List.getElem?_eq_getElem hi, List.getElem?_eq_getElem (by omega)⟩
theorem cons {x : α} {s : Slc} {xs : List α} {sls : List Slc} {cs : List Chunk} (h : Parts In (x :: xs) (s :: sls) cs) : ∃ c cs', cs = c ++ cs' ∧ In x s c ∧ Parts In xs sls cs' := h
end Parts
end Go.Proofs.YtpdegdnigcnjiaaGreatDoor

namespace Go.Proofs.YtpdegdnigcnjiaaGreatDoor
open Go
set_option linter.unusedVariables false
set_option linter.unusedSimpArgs false

theorem shl_nat {x : Nat} (k : Nat) : (x : Int) * 2 ^ k = ((x * 2 ^ k : Nat) : Int) := by
  rw [Int.natCast_mul, Int.natCast_pow]; rfl
end Go.Proofs.YtpdegdnigcnjiaaGreatDoor

namespace Go.Proofs.YtpdegdnigcnjiaaGreatDoor
open Go
set_option linter.unusedVariables false
set_option linter.unusedSimpArgs false

/-! ### Numbers as bytes -/
def varB : Nat → Nat → List UInt8
  | 0, _ => []
  | f + 1, n => if n < 128 then [UInt8.ofNat n] else UInt8.ofNat (n % 128 + 128) :: varB f (n / 128)
/-- A short number. -/
def varF (n : Nat) : List UInt8 := varB 10 n
def fixB : Nat → Nat → List UInt8
  | 0, _ => []
  | k + 1, n => UInt8.ofNat (n % 256) :: fixB k (n / 256)
theorem fixB_len : ∀ (k n : Nat), (fixB k n).length = k
  | 0, _ => rfl
  | k + 1, n => by rw [fixB, List.length_cons, fixB_len]
section
variable {w0 : Base} {w : World} {fr bs : List Chunk}

theorem sp_Clone {s : Slc} {xs : List UInt8} {R : Slc → World → Prop} (st : St w0 fr w) (hs : SrcAt w s 1 (xs.map bV)) (hl : s.len ≤ 140737488351232)
    (k : ∀ s' rb w', RowC 1 s' (xs.map bV) rb → St w0 (rb ++ fr) w' → s'.len = xs.length → R s' w') : C_slices_Clone_byte_byte s w R := by
  apply S_slices_Clone_byte_byte
  unfold F_slices_Clone_byte_byte
  have hlen := hs.len_eq
  refine ⟨fun h => ?_, fun h => fun b w1 hb hw => ?_⟩
  · have hp : s.ptr = none := by simpa using h
    have : xs = [] := by
      obtain ⟨_, h2 | ⟨h2, _⟩⟩ := hs
      · simpa using h2
      · rw [hp] at h2; cases h2
    subst this
    exact k _ [] _ RowC.nil st rfl
  · have st := st.alloc hb hw
    refine ⟨_, (Ext.new hw).src hs, ?_⟩
    refine (RowC.new (b := b) (xs := []) (n := 0) rfl : RowC 1 ⟨some ⟨b, 0, none⟩, 0, 0⟩ [] [(b, [])]).append st (by simp [hlen]) (by simp [oneCells, oneCell, bV]) rfl (by show (0 + s.len) * 1 ≤ _; omega) fun s' rb w' r st hl' => k _ _ _ r st (by rw [hl']; show 0 + s.len = _; omega)
end
end Go.Proofs.YtpdegdnigcnjiaaGreatDoor

namespace Go.Proofs.YtpdegdnigcnjiaaGreatDoor
open Go
def mkS (l : List UInt8) : ByteArray := ⟨l.toArray⟩
theorem mkS_cells (l : List UInt8) : strCells (mkS l) = l.map bV := rfl
theorem mkS_size (l : List UInt8) : (mkS l).size = l.length := by simp [mkS, ByteArray.size]
theorem mkS_toList (l : List UInt8) : (mkS l).data.toList = l := by simp [mkS]
end Go.Proofs.YtpdegdnigcnjiaaGreatDoor

namespace Go.Proofs.YtpdegdnigcnjiaaGreatDoor
open Go
set_option linter.unusedVariables false
set_option linter.unusedSimpArgs false

/-! ### A short number out of bytes -/
def shA : Nat → Nat → List UInt8 → Nat × Nat × Int
  | _, _, [] => (0, 0, 5)
  | i, n, c :: r => if (i = 9 ∧ c.toNat > 1) ∨ (i > 0 ∧ c.toNat = 0) then (0, 0, 4)
    else if c.toNat < 128 then (n + c.toNat % 128 * 128 ^ i, i + 1, 0) else shA (i + 1) (n + c.toNat % 128 * 128 ^ i) r
def shF (l : List UInt8) : Nat × Nat × Int := shA 0 0 l
theorem shA_bd : ∀ (l : List UInt8) (i n : Nat), i ≤ 9 → n < 128 ^ i → (shA i n l).1 < 2 ^ 64 ∧ (shA i n l).2.1 ≤ i + l.length ∧
    ((shA i n l).2.2 = 0 ∧ i + 1 ≤ (shA i n l).2.1 ∨ (shA i n l).1 = 0 ∧ (shA i n l).2.1 = 0 ∧ ((shA i n l).2.2 = 4 ∨ (shA i n l).2.2 = 5))
  | [], i, n, _, _ => by simp [shA]
  | c :: r, i, n, hi, hn => by
    have hb := c.toNat_lt
    unfold shA
    split
    · simp
    · rename_i hne
      have hn' : n + c.toNat % 128 * 128 ^ i < 2 ^ 64 ∧ (c.toNat % 128 < 128) := by
        refine ⟨?_, Nat.mod_lt _ (by omega)⟩
        by_cases h9 : i = 9
        · subst h9
          have : c.toNat ≤ 1 := by omega
          have h1 : c.toNat % 128 = c.toNat := Nat.mod_eq_of_lt (by omega)
          rw [h1]
          have h2 : c.toNat * 128 ^ 9 ≤ 1 * 128 ^ 9 := Nat.mul_le_mul_right _ this
          have h3 : (128 : Nat) ^ 9 = 9223372036854775808 := by decide
          omega
        · have h1 : c.toNat % 128 * 128 ^ i ≤ 127 * 128 ^ i := Nat.mul_le_mul_right _ (by omega)
          have h2 : 128 ^ i * 128 = 128 ^ (i + 1) := (Nat.pow_succ ..).symm
          have h3 : (128 : Nat) ^ (i + 1) ≤ 128 ^ 9 := Nat.pow_le_pow_right (by omega) (by omega)
          have h4 : (128 : Nat) ^ 9 = 9223372036854775808 := by decide
          omega
      split
      · exact ⟨hn'.1, by simp only [List.length_cons]; omega, .inl ⟨rfl, Nat.le_refl _⟩⟩
      · have h9 : i ≠ 9 := fun h9 => by omega
        have hlt : n + c.toNat % 128 * 128 ^ i < 128 ^ (i + 1) := by
          have h1 : c.toNat % 128 * 128 ^ i ≤ 127 * 128 ^ i := Nat.mul_le_mul_right _ (by omega)
          have h2 : 128 ^ i * 128 = 128 ^ (i + 1) := (Nat.pow_succ ..).symm
          omega
        obtain ⟨h1, h2, h3⟩ := shA_bd r (i + 1) _ (by omega) hlt
        refine ⟨h1, by simp only [List.length_cons]; omega, ?_⟩
        rcases h3 with h3 | h3
        · exact .inl ⟨h3.1, by omega⟩
        · exact .inr h3
theorem shF_bd (l : List UInt8) : (shF l).1 < 2 ^ 64 ∧ (shF l).2.1 ≤ l.length ∧ ((shF l).2.2 = 0 ∧ 1 ≤ (shF l).2.1 ∨ (shF l).1 = 0 ∧ (shF l).2.1 = 0 ∧ ((shF l).2.2 = 4 ∨ (shF l).2.2 = 5)) := by
  have := shA_bd l 0 0 (by omega) (by simp)
  simpa [shF] using this
theorem and_127 : ∀ x, x < 256 → x &&& 127 = x % 128 := by decide +kernel
theorem or_shl {m x k : Nat} (h : m < 2 ^ k) : m ||| (x * 2 ^ k) = m + x * 2 ^ k := by
  rw [Nat.or_comm, ← Nat.shiftLeft_eq, ← Nat.shiftLeft_add_eq_or_of_lt h]; omega

section
variable {w0 : Base} {w : World} {fr bs : List Chunk}

theorem sp_short {s : Slc} {l : List UInt8} {R : Int → Int → Int → World → Prop} (hs : SrcAt w s 1 (l.map bV)) (k : R ((shF l).1 : Int) ((shF l).2.1 : Int) (shF l).2.2 w) : C_codec_short s w R := by
  apply S_codec_short
  unfold F_codec_short
  have hlen := hs.len_eq
  refine ⟨fun n t w' => w' = w ∧ ∃ (i m : Nat), n = (m : Int) ∧ t = (i : Int) ∧ i ≤ 9 ∧ i ≤ s.len ∧ m < 128 ^ i ∧ shA i m (l.drop i) = shF l, fun _ t _ => s.len - t.toNat, ⟨rfl, 0, 0, rfl, rfl, by omega, by omega, by simp, rfl⟩, ?_⟩
  rintro n t w1 ⟨rfl, i, m, rfl, rfl, hi, his, hm, hsh⟩
  unfold F_codec_short_L0
  refine ⟨fun h => ?_, fun h => ?_⟩
  · have h := of_decide_eq_true h
    obtain ⟨a, c, hc, hcell⟩ := hs.get (i := (i : Int)) (by omega) h
    rw [Int.toNat_natCast] at hc
    have hb := c.toNat_lt
    rw [drop_get hc, shA] at hsh
    refine ⟨a, by omega, h, _, hcell, fun hbad => ?_, fun hbad => ?_⟩
    · rw [if_pos (by simp only [Bool.or_eq_true, Bool.and_eq_true, beq_iff_eq, decide_eq_true_eq] at hbad; omega)] at hsh
      rw [← hsh] at k; exact k
    · have hne : ¬ ((i = 9 ∧ c.toNat > 1) ∨ (i > 0 ∧ c.toNat = 0)) := by
        simp only [Bool.or_eq_false_iff, Bool.and_eq_false_iff, beq_eq_false_iff_ne, decide_eq_false_iff_not] at hbad; omega
      rw [if_neg hne] at hsh
      have w7 : IntKind.i64.wrap (7 * (i : Int)) = ((7 * i : Nat) : Int) := by rw [i64_in _ (by omega) (by omega)]; omega
      have wi : IntKind.i64.wrap ((i : Int) + 1) = ((i + 1 : Nat) : Int) := by rw [i64_in _ (by omega) (by omega)]; omega
      have hp7 : (2 : Nat) ^ (7 * i) = 128 ^ i := by rw [Nat.pow_mul]
      have hx : c.toNat % 128 * 128 ^ i < 2 ^ 64 := by
        by_cases h9 : i = 9
        · subst h9
          have h1 : c.toNat % 128 = c.toNat := Nat.mod_eq_of_lt (by omega)
          rw [h1]
          have h2 : c.toNat * 128 ^ 9 ≤ 1 * 128 ^ 9 := Nat.mul_le_mul_right _ (by omega)
          have h3 : (128 : Nat) ^ 9 = 9223372036854775808 := by decide
          omega
        · have h1 : c.toNat % 128 * 128 ^ i ≤ 127 * 128 ^ i := Nat.mul_le_mul_right _ (by omega)
          have h3 : (128 : Nat) ^ i ≤ 128 ^ 8 := Nat.pow_le_pow_right (by omega) (by omega)
          have h4 : (128 : Nat) ^ 8 = 72057594037927936 := by decide
          omega
      have hm64 : m < 2 ^ 64 := by
        have h3 : (128 : Nat) ^ i ≤ 128 ^ 9 := Nat.pow_le_pow_right (by omega) (by omega)
        have h4 : (128 : Nat) ^ 9 = 9223372036854775808 := by decide
        omega
      have hv : bor .u64 (m : Int) (IntKind.u64.wrap ((IntKind.u64.wrap (band .u8 (c.toNat : Int) 127)) * 2 ^ (min ((7 * i : Nat) : Int).toNat 64))) = ((m + c.toNat % 128 * 128 ^ i : Nat) : Int) := by
        rw [show (127 : Int) = ((127 : Nat) : Int) from rfl, band_bare rfl (by show _ < 256; omega) (by decide), and_127 _ hb, Int.toNat_natCast, Nat.min_eq_left (by omega)]
        rw [u64_in ((c.toNat % 128 : Nat) : Int) (by omega) (by omega), shl_nat, hp7, u64_in _ (by omega) (by omega), bor_bare rfl hm64 hx]
        rw [← hp7] at hm ⊢
        rw [or_shl hm]
      rw [w7]
      simp only [hv, wi]
      refine ⟨by omega, fun hlt => ?_, fun hlt => ?_⟩
      · have hlt := of_decide_eq_true hlt
        rw [if_pos (by omega)] at hsh
        rw [← hsh] at k; exact k
      · have hlt := of_decide_eq_false hlt
        rw [if_neg (by omega)] at hsh
        have h9 : i ≠ 9 := fun h9 => by omega
        refine ⟨⟨trivial, i + 1, _, rfl, rfl, by omega, by omega, ?_, hsh⟩, by show _ - Int.toNat _ < _ - Int.toNat _; omega⟩
        have h1 : c.toNat % 128 * 128 ^ i ≤ 127 * 128 ^ i := Nat.mul_le_mul_right _ (by omega)
        have h2 : 128 ^ i * 128 = 128 ^ (i + 1) := (Nat.pow_succ ..).symm
        omega
  · have h := of_decide_eq_false h
    rw [drop_end (by omega), shA] at hsh
    rw [← hsh] at k; exact k

/-! ### Readers -/
structure RS where
  rest : List UInt8
  code : Int
def RdO (r : Option Addr) (s : RS) (bs : List Chunk) : Prop :=
  ∃ (b : Nat) (sl : Slc) (rb : List Chunk), r = some ⟨b, 0, none⟩ ∧ RowC 1 sl (s.rest.map bV) rb ∧ bs = (b, [Value.bool true, Value.slice sl.ptr sl.len sl.cap, iV s.code]) :: rb

variable {r : Option Addr} {s : RS}
theorem sp_NewReader {sl : Slc} {xs : List UInt8} {R : Option Addr → World → Prop} (st : St w0 fr w) (hs : SrcAt w sl 1 (xs.map bV)) (hl : sl.len ≤ 140737488351232)
    (k : ∀ r bs w', RdO r ⟨xs, 0⟩ bs → St w0 (bs ++ fr) w' → R r w') : C_codec_NewReader sl w R := by
  apply S_codec_NewReader
  refine sp_Clone st hs hl fun s' rb w' ro st _ b w2 hb hw => ?_
  exact k _ _ _ ⟨b, s', rb, rfl, ro, rfl⟩ (st.alloc hb hw)

theorem sp_Reader_Left {R : Int → World → Prop} (st : St w0 (bs ++ fr) w) (o : RdO r s bs) (k : R (s.rest.length : Int) w) : C_codec_Reader_Left r w R := by
  apply S_codec_Reader_Left
  obtain ⟨b, sl, rb, rfl, ro, rfl⟩ := o
  have hl := ro.len
  rw [List.length_map, Nat.mul_one] at hl
  exact ⟨fun h => (by cases h), fun _ => ⟨rfl, sl, st.cell 0 rfl rfl, by rw [← hl]; exact k⟩⟩

def RS.end_ (s : RS) : Int := if s.code = 0 ∧ s.rest ≠ [] then 4 else s.code
theorem sp_Reader_End {R : Int → World → Prop} (st : St w0 (bs ++ fr) w) (o : RdO r s bs) (k : R s.end_ w) : C_codec_Reader_End r w R := by
  apply S_codec_Reader_End
  obtain ⟨b, sl, rb, rfl, ro, rfl⟩ := o
  have hl := ro.len
  rw [List.length_map, Nat.mul_one] at hl
  refine ⟨fun h => (by cases h), fun _ => ⟨rfl, true, st.cell 0 rfl rfl, fun h => (by cases h), fun _ => ⟨rfl, s.code, st.cell 0 rfl rfl, fun h => ?_, fun h => ?_⟩⟩⟩
  · have h : s.code = 0 := by simpa using h
    refine ⟨rfl, sl, st.cell 0 rfl rfl, fun h2 => ?_, fun h2 => ?_⟩
    · have h2 := of_decide_eq_true h2
      unfold RS.end_ at k
      rw [if_pos ⟨h, fun e => by rw [e] at hl; simp at hl; omega⟩] at k; exact k
    · have h2 := of_decide_eq_false h2
      unfold RS.end_ at k
      rw [if_neg (fun e => e.2 (List.eq_nil_of_length_eq_zero (by omega)))] at k
      exact ⟨rfl, s.code, st.cell 0 rfl rfl, k⟩
  · have h : s.code ≠ 0 := by simpa using h
    unfold RS.end_ at k
    rw [if_neg (fun e => h e.1)] at k
    exact ⟨fun h => (by cases h), fun _ => ⟨rfl, s.code, st.cell 0 rfl rfl, k⟩⟩

theorem sp_take {next : Value} {R : Bool → World → Prop} (st : St w0 (bs ++ fr) w) (o : RdO r s bs) (k0 : s.code ≠ 0 → R false w)
    (k1 : s.code = 0 → ∀ sl : Slc, (∀ fr2 w', St w0 (bs ++ fr2) w' → SrcAt w' sl 1 (s.rest.map bV)) → sl.len = s.rest.length → sl.len ≤ sl.cap → CallsV (P := Tryz.prog) next #[Value.slice sl.ptr sl.len sl.cap] w (fun e' w2 => ∃ (n e : Int), e' = Ending.returned (Value.tuple #[Value.int .i64 n, Value.int .i64 e]) ∧
      ∃ fr', St w0 (bs ++ fr') w2 ∧ (e ≠ 0 → ∀ bs' w3, RdO r ⟨s.rest, e⟩ bs' → St w0 (bs' ++ fr') w3 → R false w3) ∧
        (e = 0 → 0 ≤ n ∧ n ≤ (s.rest.length : Int) ∧ ∀ bs' w3, RdO r ⟨s.rest.drop n.toNat, 0⟩ bs' → St w0 (bs' ++ fr') w3 → R true w3))) : C_codec_Reader_take r next w R := by
  apply S_codec_Reader_take
  obtain ⟨b, sl, rb, rfl, ro, rfl⟩ := o
  have hl := ro.len
  rw [List.length_map, Nat.mul_one] at hl
  refine ⟨fun h => (by cases h), fun _ => ⟨rfl, true, st.cell 0 rfl rfl, fun h => (by cases h), fun _ => ⟨rfl, s.code, st.cell 0 rfl rfl, fun h => k0 (by simpa using h), fun h => ?_⟩⟩⟩
  have h : s.code = 0 := by simpa using h
  refine ⟨rfl, sl, st.cell 0 rfl rfl, CallsV.mono (k1 h sl (fun fr2 w' st' => ro.src st'.drop1) hl.symm ro.cap_le) ?_⟩
  rintro e' w2 ⟨n, e, rfl, fr', st2, kE, kO⟩
  refine ⟨n, e, rfl, fun he => ?_, fun he => ?_⟩
  · have he : e ≠ 0 := by simpa using he
    exact ⟨rfl, st2.writable 0 rfl (by simp [poff]), fun w3 hw3 => kE he _ _ ⟨b, sl, rb, rfl, ro, rfl⟩ (st2.put0 (o := 2) hw3)⟩
  · have he : e = 0 := by simpa using he
    obtain ⟨hn0, hn1, kO⟩ := kO he
    intro w4 e4
    have st4 := st2.drew e4
    refine ⟨rfl, sl, st4.cell 0 rfl rfl, rfl, sl, st4.cell 0 rfl rfl, rfl, sl, st4.cell 0 rfl rfl, ⟨hn0, by omega, by omega, by have := ro.cap_le; omega⟩, ?_⟩
    intro sc hsc
    refine ⟨rfl, st4.writable 0 rfl (by simp [poff]), fun w5 hw5 => kO _ _ ⟨b, sc, rb, rfl, ?_, rfl⟩ ?_⟩
    · have hc := ro.cut hn0 (show n ≤ ((sl.len : Nat) : Int) by omega) (by omega) (Int.le_refl _) (by have := ro.cap_le; omega)
      rw [← hsc, Nat.mul_one, Nat.mul_one, Int.toNat_natCast] at hc
      rw [List.take_of_length_le (by simp; omega), ← List.map_drop] at hc
      exact hc
    · have := st4.put0 (o := 1) hw5
      rw [h] at this
      exact this

def varR (s : RS) : RS × Nat :=
  if s.code ≠ 0 then (s, 0) else if (shF s.rest).2.2 ≠ 0 then (⟨s.rest, (shF s.rest).2.2⟩, 0) else (⟨s.rest.drop (shF s.rest).2.1, 0⟩, (shF s.rest).1)

/-- A local that a method's own function has filled is read at the end. -/
theorem local_end {α : Type} {b : Nat} {f : α → Value} {x : α} {w3 : World} {bs' : List Chunk} {R : α → World → Prop} (st : St w0 (bs' ++ ((b, [f x]) :: fr)) w3) (k : ∀ w', St w0 (bs' ++ fr) w' → R x w') :
    ∃ v, w3.cell? ⟨b, 0, none⟩ = some (f v) ∧ (Writable w3 b 0 1 ∧ (∀ w4, w4 = World.puts b 0 [f v] w3 → (∃ res, CellsAt w4 b 0 [f res] ∧ (R res w4)))) := by
  have st1 := st.unmid
  refine ⟨x, st1.cell 0 rfl rfl, st1.writable 0 rfl (by simp), fun w4 hw4 => ?_⟩
  have st2 := st1.put0 hw4
  exact ⟨x, ⟨st2.cell 0 rfl rfl, trivial⟩, k _ st2.drop1⟩

theorem sp_Reader_Var {R : Int → World → Prop} (st : St w0 (bs ++ fr) w) (o : RdO r s bs)
    (k : ∀ bs' w', RdO r (varR s).1 bs' → St w0 (bs' ++ fr) w' → R ((varR s).2 : Int) w') : C_codec_Reader_Var r w R := by
  apply S_codec_Reader_Var
  intro b w1 hb hw
  have st1 : St w0 (bs ++ ((b, [Value.int .u64 0]) :: fr)) w1 := (st.alloc hb hw).mid
  obtain ⟨hb1, hb2, hb3⟩ := shF_bd s.rest
  refine sp_take st1 o (fun hc => ?_) (fun hc sl hs hlen _ => ?_)
  · refine local_end (f := fun x : Int => Value.int .u64 x) st1 fun w' st' => ?_
    have := k bs w'
    unfold varR at this
    rw [if_pos hc] at this
    exact this o st'
  · refine CallsV.mk (all := #[Value.slice sl.ptr sl.len sl.cap, Value.pointer (some ⟨b, 0, none⟩)]) (by kernel_rfl) rfl ?_
    refine S_codec_Reader_Var_1 (b_ := sl) (t1 := some ⟨b, 0, none⟩) ?_
    refine sp_short (hs _ _ st1) ⟨rfl, st1.unmid.writable 0 rfl (by simp [poff]), fun w2 hw2 => ?_⟩
    have st2 : St w0 (bs ++ ((b, [Value.int .u64 ((shF s.rest).1 : Int)]) :: fr)) w2 := (st1.unmid.put0 hw2).mid
    refine ⟨_, st2, fun he bs' w3 o' st3 => ?_, fun he => ⟨by omega, by omega, fun bs' w3 o' st3 => ?_⟩⟩
    · refine local_end (f := fun x : Int => Value.int .u64 x) st3 fun w' st' => ?_
      have := k bs' w'
      unfold varR at this
      rw [if_neg (by omega), if_pos he] at this
      have hz : (shF s.rest).1 = 0 := by omega
      rw [hz]
      exact this o' st'
    · refine local_end (f := fun x : Int => Value.int .u64 x) st3 fun w' st' => ?_
      have := k bs' w'
      unfold varR at this
      rw [if_neg (by omega), if_neg (by omega)] at this
      rw [Int.toNat_natCast] at o'
      exact this o' st'

/-! #### Fixed -/
def leV : List UInt8 → Nat
  | [] => 0
  | c :: r => c.toNat + 256 * leV r
theorem leV_lt : ∀ l, leV l < 256 ^ l.length
  | [] => by simp [leV]
  | c :: r => by
    have h := leV_lt r
    have hb := c.toNat_lt
    rw [leV, List.length_cons, Nat.pow_succ]
    omega
def fixR (width : Int) (s : RS) : RS × Nat :=
  if s.code ≠ 0 then (s, 0) else if width < 1 ∨ width > 8 then (⟨s.rest, 1⟩, 0) else if width > (s.rest.length : Int) then (⟨s.rest, 5⟩, 0)
  else (⟨s.rest.drop width.toNat, 0⟩, leV (s.rest.take width.toNat))

theorem sp_Reader_Fixed {width : Int} {R : Int → World → Prop} (st : St w0 (bs ++ fr) w) (o : RdO r s bs)
    (k : ∀ bs' w', RdO r (fixR width s).1 bs' → St w0 (bs' ++ fr) w' → R ((fixR width s).2 : Int) w') : C_codec_Reader_Fixed r width w R := by
  apply S_codec_Reader_Fixed
  intro b w1 hb hw b1 w2 hb1 hw1
  have st1 : St w0 (bs ++ ((b1, [Value.int .u64 0]) :: (b, [iV width]) :: fr)) w2 := ((st.alloc hb hw).alloc hb1 hw1).perm (((List.perm_middle.symm).cons _).trans (List.perm_middle.symm))
  have fin : ∀ {v : Nat} {bs' : List Chunk} {w3 : World}, St w0 (bs' ++ ((b1, [Value.int .u64 (v : Int)]) :: (b, [iV width]) :: fr)) w3 → (∀ w', St w0 (bs' ++ fr) w' → R (v : Int) w') →
      ∃ v : Int, w3.cell? ⟨b1, 0, none⟩ = some (Value.int .u64 v) ∧ (Writable w3 b1 0 1 ∧ (∀ w4, w4 = World.puts b1 0 [Value.int .u64 v] w3 → (∃ res : Int, CellsAt w4 b1 0 [Value.int .u64 res] ∧ (R res w4)))) := fun st k =>
    local_end (f := fun x : Int => Value.int .u64 x) st fun w' st' => k _ st'.unmid.drop1
  refine sp_take st1 o (fun hc => ?_) (fun hc sl hs hlen _ => ?_)
  · refine fin (v := 0) st1 fun w' st' => ?_
    have := k bs w'
    unfold fixR at this
    rw [if_pos hc] at this
    exact this o st'
  · unfold fixR at k
    rw [if_neg (by omega)] at k
    refine CallsV.mk (all := #[Value.slice sl.ptr sl.len sl.cap, Value.pointer (some ⟨b, 0, none⟩), Value.pointer (some ⟨b1, 0, none⟩)]) (by kernel_rfl) rfl ?_
    refine S_codec_Reader_Fixed_1 (b_ := sl) (t1 := some ⟨b, 0, none⟩) (t2 := some ⟨b1, 0, none⟩) ?_
    unfold F_codec_Reader_Fixed_1
    have cb : ∀ {v : Value} {w' : World}, St w0 (bs ++ ((b1, [v]) :: (b, [iV width]) :: fr)) w' → w'.cell? ⟨b, 0, none⟩ = some (iV width) := fun st' => (st'.unmid).drop1.unmid.cell 0 rfl rfl
    refine ⟨rfl, width, cb st1, fun h => ?_, fun h => ⟨width, cb st1, ?_⟩⟩
    · have h := of_decide_eq_true h
      rw [if_pos (by omega)] at k
      unfold F_codec_Reader_Fixed_1_k0
      exact ⟨fun _ => ⟨_, st1, fun _ bs' w3 o' st3 => fin (v := 0) st3 fun w' st' => k bs' w' o' st', fun he => absurd he (by decide)⟩, fun hh => (by cases hh)⟩
    have h := of_decide_eq_false h
    by_cases h2 : width > 8
    · rw [if_pos (by omega)] at k
      unfold F_codec_Reader_Fixed_1_k0
      exact ⟨fun _ => ⟨_, st1, fun _ bs' w3 o' st3 => fin (v := 0) st3 fun w' st' => k bs' w' o' st', fun he => absurd he (by decide)⟩, fun hh => absurd h2 (of_decide_eq_false hh)⟩
    rw [if_neg (by omega)] at k
    unfold F_codec_Reader_Fixed_1_k0
    refine ⟨fun hh => absurd (of_decide_eq_true hh) h2, fun _ => ⟨rfl, width, cb st1, fun h3 => ?_, fun h3 => ?_⟩⟩
    · have h3 := of_decide_eq_true h3
      rw [if_pos (by omega)] at k
      exact ⟨_, st1, fun _ bs' w3 o' st3 => fin (v := 0) st3 fun w' st' => k bs' w' o' st', fun he => absurd he (by decide)⟩
    have h3 := of_decide_eq_false h3
    rw [if_neg (by omega)] at k
    obtain ⟨W, rfl⟩ := toN (show 0 ≤ width by omega)
    rw [Int.toNat_natCast] at k
    have w1' : IntKind.i64.wrap ((W : Int) - 1) = (W : Int) - 1 := i64_in _ (by omega) (by omega)
    refine ⟨rfl, (W : Int), cb st1, ?_⟩
    rw [w1']
    refine ⟨fun i w' => ∃ (j : Nat), i = (j : Int) - 1 ∧ j ≤ W ∧ St w0 (bs ++ ((b1, [Value.int .u64 ((leV ((s.rest.take W).drop j) : Nat) : Int)]) :: (b, [iV (W : Int)]) :: fr)) w', fun i _ => (i + 1).toNat,
      ⟨W, rfl, Nat.le_refl _, by rw [List.drop_of_length_le (by rw [List.length_take]; omega)]; exact st1⟩, ?_⟩
    rintro i w3 ⟨j, rfl, hj, st3⟩
    unfold F_codec_Reader_Fixed_1_L1
    refine ⟨fun hi => ?_, fun hi => ?_⟩
    · have hi := of_decide_eq_true hi
      obtain ⟨j, rfl⟩ := Nat.exists_eq_succ_of_ne_zero (show j ≠ 0 by omega)
      intro w4 e4
      have st4 := st3.drew e4
      have hji : ((j.succ : Nat) : Int) - 1 = (j : Int) := by omega
      rw [hji]
      obtain ⟨a, c, hc', hcell⟩ : IsAt sl.ptr ∧ ∃ x, s.rest[(j : Int).toNat]? = some x ∧ w4.cell? ⟨pblk sl.ptr, poff sl.ptr + (j : Int).toNat, none⟩ = some (bV x) := by
        exact (hs _ _ st4).get (by omega) (by omega)
      rw [Int.toNat_natCast] at hc'
      have hb' := c.toNat_lt
      refine ⟨rfl, _, st4.unmid.cell 0 rfl rfl, a, by omega, by omega, _, hcell, st4.unmid.writable 0 rfl (by simp [poff]), fun w5 hw5 => ?_⟩
      have hd : (s.rest.take W).drop j = c :: (s.rest.take W).drop (j + 1) := drop_get (by rw [List.getElem?_take, if_pos (by omega)]; exact hc')
      have hlt := leV_lt ((s.rest.take W).drop (j + 1))
      have hlen2 : ((s.rest.take W).drop (j + 1)).length ≤ 7 := by rw [List.length_drop, List.length_take]; omega
      have h56 : (256 : Nat) ^ ((s.rest.take W).drop (j + 1)).length ≤ 256 ^ 7 := Nat.pow_le_pow_right (by omega) hlen2
      have h567 : (256 : Nat) ^ 7 = 72057594037927936 := by decide
      have hv : bor .u64 (IntKind.u64.wrap (((leV ((s.rest.take W).drop (j + 1)) : Nat) : Int) * 2 ^ 8)) (IntKind.u64.wrap (c.toNat : Int)) = ((leV ((s.rest.take W).drop j) : Nat) : Int) := by
        rw [shl_nat, u64_in _ (by omega) (by omega), u64_in (c.toNat : Int) (by omega) (by omega), bor_bare rfl (by show _ < 2 ^ 64; omega) (by show _ < 2 ^ 64; omega), Nat.or_comm, or_shl (by omega), hd, leV]
        congr 1
        omega
      have hv' := hv
      rw [show (j + 1) = j.succ from rfl] at hv'
      rw [hv'] at hw5
      have wj : IntKind.i64.wrap ((j : Int) - 1) = (j : Int) - 1 := i64_in _ (by omega) (by omega)
      rw [wj]
      exact ⟨⟨j, rfl, by omega, (st4.unmid.put0 hw5).mid⟩, by show Int.toNat _ < Int.toNat _; omega⟩
    · have hi := of_decide_eq_false hi
      obtain rfl : j = 0 := by omega
      rw [List.drop_zero] at st3
      refine ⟨rfl, _, cb st3, _, st3, fun he => absurd rfl he, fun _ => ⟨by omega, by omega, fun bs' w4 o' st4 => fin st4 fun w' st' => ?_⟩⟩
      rw [Int.toNat_natCast] at o'
      exact k bs' w' o' st'
end

end Go.Proofs.YtpdegdnigcnjiaaGreatDoor

namespace Go.Proofs.YtpdegdnigcnjiaaGreatDoor
open Go
set_option linter.unusedVariables false
set_option linter.unusedSimpArgs false

def textR (most : Int) (s : RS) : RS × List UInt8 :=
  if s.code ≠ 0 then (s, []) else if most < 0 then (⟨s.rest, 1⟩, []) else if (shF s.rest).2.2 ≠ 0 then (⟨s.rest, (shF s.rest).2.2⟩, [])
  else if ((shF s.rest).1 : Int) > most then (⟨s.rest, 3⟩, []) else if (shF s.rest).1 > s.rest.length - (shF s.rest).2.1 then (⟨s.rest, 5⟩, [])
  else (⟨s.rest.drop ((shF s.rest).2.1 + (shF s.rest).1), 0⟩, (s.rest.drop (shF s.rest).2.1).take (shF s.rest).1)

section
variable {w0 : Base} {w : World} {fr bs : List Chunk} {r : Option Addr} {s : RS}
theorem sp_Reader_Text {most : Int} {R : ByteArray → World → Prop} (st : St w0 (bs ++ fr) w) (o : RdO r s bs) (hm0 : -9223372036854775808 ≤ most) (hm1 : most ≤ 9223372036854775807) (hl : s.rest.length ≤ 140737488351232)
    (k : ∀ bs' w', RdO r (textR most s).1 bs' → St w0 (bs' ++ fr) w' → R (mkS (textR most s).2) w') : C_codec_Reader_Text r most w R := by
  apply S_codec_Reader_Text
  intro b w1 hb hw b1 w2 hb1 hw1
  have st1 : St w0 (bs ++ ((b1, [Value.string (mkS [])]) :: (b, [iV most]) :: fr)) w2 := ((st.alloc hb hw).alloc hb1 hw1).perm (((List.perm_middle.symm).cons _).trans (List.perm_middle.symm))
  have fin : ∀ {v : ByteArray} {bs' : List Chunk} {w3 : World}, St w0 (bs' ++ ((b1, [Value.string v]) :: (b, [iV most]) :: fr)) w3 → (∀ w', St w0 (bs' ++ fr) w' → R v w') →
      ∃ v : ByteArray, w3.cell? ⟨b1, 0, none⟩ = some (Value.string v) ∧ (Writable w3 b1 0 1 ∧ (∀ w4, w4 = World.puts b1 0 [Value.string v] w3 → (∃ res : ByteArray, CellsAt w4 b1 0 [Value.string res] ∧ (R res w4)))) := fun st k =>
    local_end (f := fun x : ByteArray => Value.string x) st fun w' st' => k _ st'.unmid.drop1
  obtain ⟨hb1', hb2, hb3⟩ := shF_bd s.rest
  refine sp_take st1 o (fun hc => ?_) (fun hc sl hs hlen hcap => ?_)
  · refine fin (v := mkS []) st1 fun w' st' => ?_
    have := k bs w'
    unfold textR at this
    rw [if_pos hc] at this
    exact this o st'
  · unfold textR at k
    rw [if_neg (by omega)] at k
    refine CallsV.mk (all := #[Value.slice sl.ptr sl.len sl.cap, Value.pointer (some ⟨b, 0, none⟩), Value.pointer (some ⟨b1, 0, none⟩)]) (by kernel_rfl) rfl ?_
    refine S_codec_Reader_Text_1 (b_ := sl) (t1 := some ⟨b, 0, none⟩) (t2 := some ⟨b1, 0, none⟩) ?_
    unfold F_codec_Reader_Text_1
    have cb : w2.cell? ⟨b, 0, none⟩ = some (iV most) := (st1.unmid).drop1.unmid.cell 0 rfl rfl
    have bad : ∀ {e : Int}, e ≠ 0 → (∀ bs' w', RdO r ⟨s.rest, e⟩ bs' → St w0 (bs' ++ fr) w' → R (mkS []) w') → ∀ {n : Int}, ∃ fr', St w0 (bs ++ fr') w2 ∧ (e ≠ 0 → ∀ bs' w3, RdO r ⟨s.rest, e⟩ bs' → St w0 (bs' ++ fr') w3 →
        (∃ v : ByteArray, w3.cell? ⟨b1, 0, none⟩ = some (Value.string v) ∧ (Writable w3 b1 0 1 ∧ (∀ w4, w4 = World.puts b1 0 [Value.string v] w3 → (∃ res : ByteArray, CellsAt w4 b1 0 [Value.string res] ∧ (R res w4)))))) ∧
        (e = 0 → 0 ≤ n ∧ n ≤ (s.rest.length : Int) ∧ ∀ bs' w3, RdO r ⟨s.rest.drop n.toNat, 0⟩ bs' → St w0 (bs' ++ fr') w3 →
        (∃ v : ByteArray, w3.cell? ⟨b1, 0, none⟩ = some (Value.string v) ∧ (Writable w3 b1 0 1 ∧ (∀ w4, w4 = World.puts b1 0 [Value.string v] w3 → (∃ res : ByteArray, CellsAt w4 b1 0 [Value.string res] ∧ (R res w4)))))) := fun he k n =>
      ⟨_, st1, fun _ bs' w3 o' st3 => fin (v := mkS []) st3 fun w' st' => k bs' w' o' st', fun h => absurd h he⟩
    refine ⟨rfl, most, cb, fun h => ?_, fun h => ?_⟩
    · have h := of_decide_eq_true h
      rw [if_pos h] at k
      exact bad (by decide) k
    have h := of_decide_eq_false h
    rw [if_neg h] at k
    refine sp_short (hs _ _ st1) ⟨fun he => ?_, fun he => ?_⟩
    · have he : (shF s.rest).2.2 ≠ 0 := by simpa using he
      rw [if_pos he] at k
      exact bad he k
    have he : (shF s.rest).2.2 = 0 := by simpa using he
    rw [if_neg (by omega)] at k
    have wm : IntKind.u64.wrap most = most := u64_in _ (by omega) (by omega)
    refine ⟨rfl, most, cb, fun h2 => ?_, fun h2 => ?_⟩
    · rw [wm] at h2
      have h2 := of_decide_eq_true h2
      rw [if_pos h2] at k
      exact bad (by decide) k
    rw [wm] at h2
    have h2 := of_decide_eq_false h2
    rw [if_neg h2] at k
    have wl : IntKind.u64.wrap (IntKind.i64.wrap (((sl.len : Nat) : Int) - ((shF s.rest).2.1 : Int))) = ((s.rest.length - (shF s.rest).2.1 : Nat) : Int) := by
      rw [i64_in _ (by omega) (by omega), u64_in _ (by omega) (by omega)]; omega
    rw [wl]
    refine ⟨fun h3 => ?_, fun h3 => ?_⟩
    · have h3 := of_decide_eq_true h3
      rw [if_pos (by omega)] at k
      exact bad (by decide) k
    have h3 := of_decide_eq_false h3
    rw [if_neg (by omega)] at k
    have wn : IntKind.i64.wrap (((shF s.rest).2.1 : Int) + IntKind.i64.wrap ((shF s.rest).1 : Int)) = (((shF s.rest).2.1 + (shF s.rest).1 : Nat) : Int) := by
      rw [i64_in ((shF s.rest).1 : Int) (by omega) (by omega), i64_in _ (by omega) (by omega)]; omega
    simp only [wn]
    refine ⟨⟨by omega, by omega, by omega, by omega⟩, fun sc hsc => ?_⟩
    have hcut := (hs _ _ st1).cut (lo := ((shF s.rest).2.1 : Int)) (hi := (((shF s.rest).2.1 + (shF s.rest).1 : Nat) : Int)) (mx := ((sl.cap : Nat) : Int)) (by omega) (by omega) (by omega) (by omega)
    rw [← hsc] at hcut
    simp only [Int.toNat_natCast, Nat.mul_one] at hcut
    rw [show (shF s.rest).2.1 + (shF s.rest).1 - (shF s.rest).2.1 = (shF s.rest).1 from by omega, ← List.map_drop, ← List.map_take] at hcut
    refine ⟨mkS ((s.rest.drop (shF s.rest).2.1).take (shF s.rest).1), by rw [mkS_cells]; exact hcut, rfl, st1.unmid.writable 0 rfl (by simp [poff]), fun w3 hw3 => ?_⟩
    have st3 : St w0 (bs ++ ((b1, [Value.string (mkS ((s.rest.drop (shF s.rest).2.1).take (shF s.rest).1))]) :: (b, [iV most]) :: fr)) w3 := (st1.unmid.put0 hw3).mid
    refine ⟨_, st3, fun hh => absurd rfl hh, fun _ => ⟨by omega, by omega, fun bs' w4 o' st4 => fin st4 fun w' st' => ?_⟩⟩
    rw [Int.toNat_natCast] at o'
    exact k bs' w' o' st'
end

end Go.Proofs.YtpdegdnigcnjiaaGreatDoor

namespace Go.Proofs.YtpdegdnigcnjiaaGreatDoor
open Go
set_option linter.unusedVariables false
set_option linter.unusedSimpArgs false

theorem varB_ne (f n : Nat) : varB (f + 1) n ≠ [] := by unfold varB; split <;> simp
theorem varF_ne (n : Nat) : varF n ≠ [] := varB_ne 9 n
theorem shA_canon : ∀ (l : List UInt8) (i acc v sz : Nat), i ≤ 9 → shA i acc l = (v, sz, 0) →
    ∃ m, v = acc + m * 128 ^ i ∧ (0 < i → 0 < m) ∧ l.take (sz - i) = varB (10 - i) m ∧ sz = i + (varB (10 - i) m).length
  | [], i, acc, v, sz, _, h => by simp [shA] at h
  | c :: r, i, acc, v, sz, hi, h => by
    have hb := c.toNat_lt
    unfold shA at h
    split at h
    · simp at h
    · rename_i hne
      obtain ⟨f, hf⟩ : ∃ f, 10 - i = f + 1 := ⟨9 - i, by omega⟩
      rw [hf]
      split at h
      · rename_i hlt
        simp only [Prod.mk.injEq, and_true] at h
        obtain ⟨rfl, rfl⟩ := h
        have e : varB (f + 1) c.toNat = [c] := by
          unfold varB
          rw [if_pos hlt]
          simp
        refine ⟨c.toNat, by rw [Nat.mod_eq_of_lt hlt], fun h0 => by omega, ?_, by rw [e]; rfl⟩
        rw [e, show i + 1 - i = 1 from by omega]
        rfl
      · rename_i hge
        have h9 : i ≠ 9 := fun h9 => by omega
        obtain ⟨m', hv, hpos, htake, hsz⟩ := shA_canon r (i + 1) _ v sz (by omega) h
        have hm' := hpos (by omega)
        have hf2 : 10 - (i + 1) = f := by omega
        rw [hf2] at htake hsz
        have e : varB (f + 1) (c.toNat % 128 + 128 * m') = c :: varB f m' := by
          rw [varB, if_neg (by omega)]
          have e1 : (c.toNat % 128 + 128 * m') % 128 + 128 = c.toNat := by omega
          have e2 : (c.toNat % 128 + 128 * m') / 128 = m' := by omega
          rw [e1, e2]
          simp
        refine ⟨c.toNat % 128 + 128 * m', ?_, fun _ => by omega, ?_, by rw [e, List.length_cons]; omega⟩
        · rw [hv, Nat.add_mul, Nat.pow_succ, Nat.mul_assoc 128, Nat.mul_comm 128 (m' * 128 ^ i), Nat.mul_assoc m', Nat.add_assoc]
        · rw [e, show sz - i = (sz - (i + 1)) + 1 from by omega, List.take_succ_cons, htake]
theorem shF_canon {l : List UInt8} (h : (shF l).2.2 = 0) : l.take (shF l).2.1 = varF (shF l).1 ∧ (shF l).2.1 = (varF (shF l).1).length := by
  obtain ⟨m, hv, _, ht, hs⟩ := shA_canon l 0 0 (shF l).1 (shF l).2.1 (by omega) (by
    have : shF l = ((shF l).1, (shF l).2.1, (shF l).2.2) := rfl
    rw [h] at this; exact this)
  simp only [Nat.pow_zero, Nat.mul_one, Nat.zero_add, Nat.sub_zero] at hv ht hs
  subst hv
  exact ⟨ht, hs⟩
end Go.Proofs.YtpdegdnigcnjiaaGreatDoor

namespace Go.Proofs.YtpdegdnigcnjiaaGreatDoor
open Go
set_option linter.unusedVariables false
set_option linter.unusedSimpArgs false

def beyondF : Int → List Int → Bool
  | _, [] => false
  | n, x :: r => if IntKind.i64.wrap (n + x) > 1048576 then true else beyondF (IntKind.i64.wrap (n + x)) r

theorem sp_towpathlaw01_Beyond {s : Slc} {w : World} {R : Bool → World → Prop} {xs : List Int} (hs : SrcAt w s 1 (xs.map (Value.int .i64))) (hl : s.len ≤ 4611686018427387904)
    (h : R (beyondF 0 xs) w) : C_towpathlaw01_Beyond s w R := by
  apply S_towpathlaw01_Beyond
  unfold F_towpathlaw01_Beyond
  have hlen := hs.len_eq
  refine ⟨fun n i w' => w' = w ∧ 0 ≤ i ∧ i ≤ s.len ∧ beyondF n (xs.drop i.toNat) = beyondF 0 xs, fun n i w' => s.len - i.toNat, ⟨rfl, by omega, by omega, by simp⟩, ?_⟩
  rintro n i _ ⟨rfl, h0, h1, hb⟩
  unfold F_towpathlaw01_Beyond_L0
  refine ⟨fun hi => ?_, fun hi => ?_⟩
  · have hi := of_decide_eq_true hi
    obtain ⟨ha, x, hx, hc⟩ := hs.get h0 hi
    rw [drop_get hx, beyondF] at hb
    refine ⟨ha, h0, hi, x, hc, fun hg => ?_, fun hg => ?_⟩
    · rw [if_pos (of_decide_eq_true hg)] at hb
      rw [← hb] at h; exact h
    · rw [if_neg (of_decide_eq_false hg)] at hb
      have hw := wrap_next h0 hi hl
      refine ⟨⟨rfl, by omega, by omega, ?_⟩, by simp only [hw]; omega⟩
      rw [hw, toNat_next h0]; exact hb
  · have hi := of_decide_eq_false hi
    rw [drop_end (by omega), beyondF] at hb
    rw [← hb] at h; exact h

end Go.Proofs.YtpdegdnigcnjiaaGreatDoor

namespace Go.Proofs.YtpdegdnigcnjiaaGreatDoor
open Go
set_option linter.unusedVariables false
set_option linter.unusedSimpArgs false

theorem beyond_s1 {v : Int} (h0 : 0 ≤ v) (h1 : v ≤ 400000000000000) (h : beyondF 0 [v] = false) : v ≤ 1048576 := by
  unfold beyondF at h
  rw [i64_in _ (by omega) (by omega), Int.zero_add] at h
  by_cases hv : v > 1048576
  · rw [if_pos hv] at h; cases h
  · omega
section
variable {w w1 : World} {b : Nat} {T : TypeId} {x y : Int}
theorem sp_BeyondS1 {R : Bool → World → Prop} (hb : b = w.heap.size) (hw : w1 = w.alloc (Obj.cells ([Value.int .i64 x]).toArray T (0, 0))) (h0 : 0 ≤ x) (h1 : x ≤ 400000000000000) (k : ∀ v, (v = false → x ≤ 1048576) → R v w1) :
    C_towpathlaw01_Beyond (Slc.mk (some ⟨b, 0, none⟩) 1 1) w1 R :=
  sp_towpathlaw01_Beyond (xs := [x]) (srcAt_new hb hw rfl) (by show 1 ≤ _; omega) (k _ (beyond_s1 h0 h1))
end
end Go.Proofs.YtpdegdnigcnjiaaGreatDoor

namespace Go.Proofs.YtpdegdnigcnjiaaGreatDoor
open Go
set_option linter.unusedVariables false
set_option linter.unusedSimpArgs false

abbrev Wr := T_api_Write
def wV (x : Wr) : List Value := [Value.string x.Key, Value.string x.Val, Value.bool x.Drop]
def goodW (x : Wr) : Prop := 1 ≤ x.Key.size ∧ x.Key.size ≤ 64 ∧ x.Val.size ≤ 1024 ∧ (x.Drop = true → x.Val.size = 0)
instance (x : Wr) : Decidable (goodW x) := inferInstanceAs (Decidable (_ ∧ _))
def okT (n : Int) (ws : List Wr) : Prop := 1 ≤ n ∧ n ≤ 65536 ∧ ws.length ≤ 32 ∧ ∀ x ∈ ws, goodW x
instance (n : Int) (ws : List Wr) : Decidable (okT n ws) := inferInstanceAs (Decidable (_ ∧ _))
theorem size_empty (s : ByteArray) : (s.toList == ByteArray.empty.toList) = decide (s.size = 0) := by
  rw [ByteArray.toList_eq, ByteArray.toList_eq]
  have : s.data.toList.length = s.size := by simp
  cases h : s.data.toList with
  | nil => rw [h] at this; have h0 : s.size = 0 := by simpa using this.symm
           rw [h0]; rfl
  | cons c r => rw [h] at this; have h0 : ¬ s.size = 0 := by simp at this; omega
                rw [decide_eq_false h0]; rfl
theorem wr_at {w : World} {s : Slc} {ws : List Wr} {i : Int} (h : SrcAt w s 3 (ws.flatMap wV)) (h0 : 0 ≤ i) (h1 : i < ((s.len : Nat) : Int)) :
    IsAt s.ptr ∧ ∃ x, ws[i.toNat]? = some x ∧ CellsAt w (pblk s.ptr) (poff s.ptr + i.toNat * 3) (wV x) := SrcAt.getN h (fun _ => rfl) (by decide) h0 h1
theorem wr_len {w : World} {s : Slc} {ws : List Wr} (h : SrcAt w s 3 (ws.flatMap wV)) : s.len = ws.length := by
  have := h.1
  have hf : ∀ x : Wr, (wV x).length = 3 := fun _ => rfl
  rw [flatMap_len hf] at this
  exact (Nat.eq_of_mul_eq_mul_right (by decide) this).symm

end Go.Proofs.YtpdegdnigcnjiaaGreatDoor

namespace Go.Proofs.YtpdegdnigcnjiaaGreatDoor
open Go
set_option linter.unusedVariables false
set_option linter.unusedSimpArgs false

def encW (x : Wr) : List UInt8 := (varF x.Key.size ++ x.Key.data.toList) ++ (fixB 1 (if x.Drop then 1 else 0) ++ (if x.Drop then [] else varF x.Val.size ++ x.Val.data.toList))
def encT (n : Int) (ws : List Wr) : List UInt8 := varF n.toNat ++ (varF ws.length ++ ws.flatMap encW)

abbrev txV (n : Int) (s : Slc) : List Value := [Value.int .i64 n, Value.slice s.ptr s.len s.cap]
abbrev nilT : List Value := txV 0 ⟨none, 0, 0⟩
end Go.Proofs.YtpdegdnigcnjiaaGreatDoor

namespace Go.Proofs.YtpdegdnigcnjiaaGreatDoor
open Go
set_option linter.unusedVariables false
set_option linter.unusedSimpArgs false

theorem textR_cases {most : Int} (h0 : 0 ≤ most) (l : List UInt8) : (∃ c, c ≠ 0 ∧ textR most ⟨l, 0⟩ = (⟨l, c⟩, [])) ∨
    ∃ key r, textR most ⟨l, 0⟩ = (⟨r, 0⟩, key) ∧ l = varF key.length ++ (key ++ r) ∧ (key.length : Int) ≤ most := by
  unfold textR
  simp only
  rw [if_neg (by simp), if_neg (by omega)]
  obtain ⟨hb1, hb2, hb3⟩ := shF_bd l
  by_cases he : (shF l).2.2 = 0
  · rw [if_neg (by omega)]
    by_cases c1 : ((shF l).1 : Int) > most
    · rw [if_pos c1]; exact .inl ⟨3, by decide, rfl⟩
    rw [if_neg c1]
    by_cases c2 : (shF l).1 > l.length - (shF l).2.1
    · rw [if_pos c2]; exact .inl ⟨5, by decide, rfl⟩
    rw [if_neg c2]
    obtain ⟨d1, d2⟩ := shF_canon he
    have e2 : ((l.drop (shF l).2.1).take (shF l).1).length = (shF l).1 := by rw [List.length_take, List.length_drop]; omega
    refine .inr ⟨_, _, rfl, ?_, by rw [e2]; omega⟩
    rw [e2, ← d1, ← List.drop_drop, List.take_append_drop, List.take_append_drop]
  · rw [if_pos he]; exact .inl ⟨_, he, rfl⟩
theorem varR_cases (l : List UInt8) : (∃ c, c ≠ 0 ∧ varR ⟨l, 0⟩ = (⟨l, c⟩, 0)) ∨ ∃ n r, varR ⟨l, 0⟩ = (⟨r, 0⟩, n) ∧ l = varF n ++ r ∧ n < 2 ^ 64 := by
  unfold varR
  simp only
  rw [if_neg (by simp)]
  obtain ⟨hb1, hb2, hb3⟩ := shF_bd l
  by_cases he : (shF l).2.2 = 0
  · rw [if_neg (by omega)]
    obtain ⟨d1, d2⟩ := shF_canon he
    refine .inr ⟨_, _, rfl, ?_, hb1⟩
    rw [← d1, List.take_append_drop]
  · rw [if_pos he]; exact .inl ⟨_, he, rfl⟩
theorem fixR_cases (l : List UInt8) : (l = [] ∧ fixR 1 ⟨l, 0⟩ = (⟨l, 5⟩, 0)) ∨ ∃ c r, fixR 1 ⟨l, 0⟩ = (⟨r, 0⟩, c) ∧ l = fixB 1 c ++ r ∧ c < 256 := by
  cases l with
  | nil => exact .inl ⟨rfl, rfl⟩
  | cons c r =>
    have hb := c.toNat_lt
    refine .inr ⟨c.toNat, r, ?_, ?_, hb⟩
    · unfold fixR
      rw [if_neg (by simp), if_neg (by omega), if_neg (by simp only [List.length_cons]; omega)]
      show ((⟨r, 0⟩ : RS), c.toNat + 256 * 0) = _
      simp
    · show c :: r = UInt8.ofNat (c.toNat % 256) :: r
      rw [Nat.mod_eq_of_lt hb]; simp
/-! ### Decode -/
def decW2 (key : ByteArray) (l : List UInt8) : (Wr × List UInt8) ⊕ Int :=
  if (textR 1024 ⟨l, 0⟩).1.code ≠ 0 then .inr (textR 1024 ⟨l, 0⟩).1.code else .inl (⟨key, mkS (textR 1024 ⟨l, 0⟩).2, false⟩, (textR 1024 ⟨l, 0⟩).1.rest)
def decW1 (key : ByteArray) (l : List UInt8) : (Wr × List UInt8) ⊕ Int :=
  if (fixR 1 ⟨l, 0⟩).1.code ≠ 0 then .inr (fixR 1 ⟨l, 0⟩).1.code else if (fixR 1 ⟨l, 0⟩).2 > 1 then .inr 4
  else if (fixR 1 ⟨l, 0⟩).2 = 1 then .inl (⟨key, ByteArray.empty, true⟩, (fixR 1 ⟨l, 0⟩).1.rest) else decW2 key (fixR 1 ⟨l, 0⟩).1.rest
def decW (l : List UInt8) : (Wr × List UInt8) ⊕ Int :=
  if (textR 64 ⟨l, 0⟩).1.code ≠ 0 then .inr (textR 64 ⟨l, 0⟩).1.code else if (textR 64 ⟨l, 0⟩).2 = [] then .inr 1
  else decW1 (mkS (textR 64 ⟨l, 0⟩).2) (textR 64 ⟨l, 0⟩).1.rest
def decWs : Nat → List UInt8 → (List Wr × List UInt8) ⊕ Int
  | 0, l => .inl ([], l)
  | k + 1, l => match decW l with
    | .inr c => .inr c
    | .inl (x, r) => match decWs k r with
      | .inr c => .inr c
      | .inl (xs, r') => .inl (x :: xs, r')
def decT1 (n : Nat) (l : List UInt8) : (Nat × List Wr) ⊕ Int :=
  if (varR ⟨l, 0⟩).1.code ≠ 0 then .inr (varR ⟨l, 0⟩).1.code else if (varR ⟨l, 0⟩).2 > 32 then .inr 3
  else match decWs (varR ⟨l, 0⟩).2 (varR ⟨l, 0⟩).1.rest with
    | .inr c => .inr c
    | .inl (ws, r) => if r ≠ [] then .inr 4 else .inl (n, ws)
def decT (l : List UInt8) : (Nat × List Wr) ⊕ Int :=
  if (varR ⟨l, 0⟩).1.code ≠ 0 then .inr (varR ⟨l, 0⟩).1.code else if (varR ⟨l, 0⟩).2 < 1 ∨ (varR ⟨l, 0⟩).2 > 65536 then .inr 1
  else decT1 (varR ⟨l, 0⟩).2 (varR ⟨l, 0⟩).1.rest

/-! Only one encoding. -/
theorem decW_one {l r : List UInt8} {x : Wr} (h : decW l = .inl (x, r)) : goodW x ∧ l = encW x ++ r := by
  unfold decW at h
  rcases textR_cases (show (0 : Int) ≤ 64 by decide) l with ⟨c, hc, he⟩ | ⟨key, r1, he, hl, hk⟩
  · rw [he] at h; simp only at h; rw [if_pos hc] at h; cases h
  rw [he] at h
  simp only at h
  rw [if_neg (by simp)] at h
  by_cases hkn : key = []
  · rw [if_pos hkn] at h; cases h
  rw [if_neg hkn] at h
  have hkl : 1 ≤ key.length := by have := List.length_pos_iff.2 hkn; omega
  unfold decW1 at h
  rcases fixR_cases r1 with ⟨_, he2⟩ | ⟨f, r2, he2, hl2, hf⟩
  · rw [he2] at h; simp only at h; rw [if_pos (by decide)] at h; cases h
  rw [he2] at h
  simp only at h
  rw [if_neg (by simp)] at h
  by_cases hf1 : f > 1
  · rw [if_pos hf1] at h; cases h
  rw [if_neg hf1] at h
  by_cases hf2 : f = 1
  · rw [if_pos hf2] at h
    simp only [Sum.inl.injEq, Prod.mk.injEq] at h
    obtain ⟨rfl, rfl⟩ := h
    refine ⟨⟨by simp only [mkS_size]; omega, by simp only [mkS_size]; omega, by show (0 : Nat) ≤ 1024; decide, fun _ => rfl⟩, ?_⟩
    rw [hl, hl2, hf2]
    unfold encW
    simp only [mkS_size, mkS_toList, if_true, List.append_nil, List.append_assoc]
  · rw [if_neg hf2] at h
    unfold decW2 at h
    rcases textR_cases (show (0 : Int) ≤ 1024 by decide) r2 with ⟨c, hc, he3⟩ | ⟨v, r3, he3, hl3, hv⟩
    · rw [he3] at h; simp only at h; rw [if_pos hc] at h; cases h
    rw [he3] at h
    simp only at h
    rw [if_neg (by simp)] at h
    simp only [Sum.inl.injEq, Prod.mk.injEq] at h
    obtain ⟨rfl, rfl⟩ := h
    refine ⟨⟨by simp only [mkS_size]; omega, by simp only [mkS_size]; omega, by simp only [mkS_size]; omega, fun h => by cases h⟩, ?_⟩
    have hf0 : f = 0 := by omega
    rw [hl, hl2, hl3, hf0]
    unfold encW
    simp only [mkS_size, mkS_toList, Bool.false_eq_true, if_false, List.append_assoc]
theorem decWs_one : ∀ {k : Nat} {l r : List UInt8} {ws : List Wr}, decWs k l = .inl (ws, r) → (∀ x ∈ ws, goodW x) ∧ ws.length = k ∧ l = ws.flatMap encW ++ r
  | 0, l, r, ws, h => by
    simp only [decWs, Sum.inl.injEq, Prod.mk.injEq] at h
    obtain ⟨rfl, rfl⟩ := h
    exact ⟨fun x hx => (by cases hx), rfl, rfl⟩
  | k + 1, l, r, ws, h => by
    rw [decWs] at h
    split at h
    · cases h
    · rename_i x r1 h1
      split at h
      · cases h
      · rename_i xs r2 h2
        simp only [Sum.inl.injEq, Prod.mk.injEq] at h
        obtain ⟨rfl, rfl⟩ := h
        obtain ⟨g1, l1⟩ := decW_one h1
        obtain ⟨g2, n2, l2⟩ := decWs_one h2
        refine ⟨fun y hy => ?_, by simp [n2], by rw [l1, l2, List.flatMap_cons, List.append_assoc]⟩
        rcases List.mem_cons.1 hy with rfl | hy
        · exact g1
        · exact g2 y hy
theorem decT_one {l : List UInt8} {n : Nat} {ws : List Wr} (h : decT l = .inl (n, ws)) : okT (n : Int) ws ∧ l = encT (n : Int) ws := by
  unfold decT at h
  rcases varR_cases l with ⟨c, hc, he⟩ | ⟨n1, r1, he, hl, hn⟩
  · rw [he] at h; simp only at h; rw [if_pos hc] at h; cases h
  rw [he] at h
  simp only at h
  rw [if_neg (by simp)] at h
  by_cases hb : n1 < 1 ∨ n1 > 65536
  · rw [if_pos hb] at h; cases h
  rw [if_neg hb] at h
  unfold decT1 at h
  rcases varR_cases r1 with ⟨c, hc, he2⟩ | ⟨k, r2, he2, hl2, hk⟩
  · rw [he2] at h; simp only at h; rw [if_pos hc] at h; cases h
  rw [he2] at h
  simp only at h
  rw [if_neg (by simp)] at h
  by_cases hb2 : k > 32
  · rw [if_pos hb2] at h; cases h
  rw [if_neg hb2] at h
  split at h
  · cases h
  · rename_i ws' r3 h3
    split at h
    · cases h
    · rename_i hr
      have hr : r3 = [] := by simpa using hr
      simp only [Sum.inl.injEq, Prod.mk.injEq] at h
      obtain ⟨rfl, rfl⟩ := h
      obtain ⟨g, ln, l3⟩ := decWs_one h3
      refine ⟨⟨by omega, by omega, by omega, g⟩, ?_⟩
      rw [hl, hl2, l3, hr, List.append_nil]
      unfold encT
      rw [ln]; rfl
end Go.Proofs.YtpdegdnigcnjiaaGreatDoor

namespace Go.Proofs.YtpdegdnigcnjiaaGreatDoor
open Go
set_option linter.unusedVariables false
set_option linter.unusedSimpArgs false

namespace St
variable {w0 : Base} {w : World} {l a : List Chunk} {x y z c : Chunk}
theorem in2 (h : St w0 (c :: (a ++ (x :: y :: l))) w) : St w0 (a ++ (x :: y :: c :: l)) w := by
  have := List.perm_middle (a := c) (l₁ := a ++ [x, y]) (l₂ := l)
  rw [List.append_assoc, List.append_assoc] at this
  exact h.perm this.symm
theorem out2 (h : St w0 (a ++ (x :: y :: c :: l)) w) : St w0 (c :: (a ++ (x :: y :: l))) w := by
  have := List.perm_middle (a := c) (l₁ := a ++ [x, y]) (l₂ := l)
  rw [List.append_assoc, List.append_assoc] at this
  exact h.perm this
theorem in3 (h : St w0 (c :: (a ++ (x :: y :: z :: l))) w) : St w0 (a ++ (x :: y :: z :: c :: l)) w := by
  have := List.perm_middle (a := c) (l₁ := a ++ [x, y, z]) (l₂ := l)
  rw [List.append_assoc, List.append_assoc] at this
  exact h.perm this.symm
theorem out3 (h : St w0 (a ++ (x :: y :: z :: c :: l)) w) : St w0 (c :: (a ++ (x :: y :: z :: l))) w := by
  have := List.perm_middle (a := c) (l₁ := a ++ [x, y, z]) (l₂ := l)
  rw [List.append_assoc, List.append_assoc] at this
  exact h.perm this
end St

section
variable {w0 : Base} {w : World} {fr bsR : List Chunk} {r : Option Addr} {s : RS} {b2 b3 : Nat} {left : Nat}
/-- The question behind each read: did it take anything, and is what it took wrong? -/
theorem sp_Decode_1 {is : Bool} {e : Int} {R : Int → World → Prop} (st : St w0 (bsR ++ ((b3, [iV (left : Int)]) :: (b2, [Value.pointer r]) :: fr)) w) (o : RdO r s bsR)
    (kE : s.rest.length = left → ∀ w', St w0 (bsR ++ ((b3, [iV (left : Int)]) :: (b2, [Value.pointer r]) :: fr)) w' → R s.end_ w')
    (kO : s.rest.length ≠ left → ∀ w', St w0 (bsR ++ ((b3, [iV (s.rest.length : Int)]) :: (b2, [Value.pointer r]) :: fr)) w' → R (if is = true then e else 0) w') : C_record_Decode_1 is e (some ⟨b2, 0, none⟩) (some ⟨b3, 0, none⟩) w R := by
  apply S_record_Decode_1
  intro w1 e1
  have st := st.drew e1
  have c2 : w1.cell? ⟨b2, 0, none⟩ = some (Value.pointer r) := st.unmid.drop1.unmid.cell 0 rfl rfl
  have c3 : w1.cell? ⟨b3, 0, none⟩ = some (iV (left : Int)) := st.unmid.cell 0 rfl rfl
  refine ⟨rfl, r, c2, rfl, (left : Int), c3, sp_Reader_Left st o ⟨c3, fun h => ⟨rfl, r, c2, sp_Reader_End st o ?_⟩, fun h => ⟨rfl, r, c2, sp_Reader_Left st o ⟨rfl, st.unmid.writable 0 rfl (by simp [poff]), fun w5 hw5 => ?_⟩⟩⟩⟩
  · have h0 : (s.rest.length : Int) = (left : Int) := by simpa using h
    have h : s.rest.length = left := by omega
    exact kE h w1 st
  · have h0 : (s.rest.length : Int) ≠ (left : Int) := by simpa using h
    have h : s.rest.length ≠ left := by omega
    have st5 : St w0 (bsR ++ ((b3, [iV (s.rest.length : Int)]) :: (b2, [Value.pointer r]) :: fr)) w5 := (st.unmid.put0 (o := 0) hw5).mid
    have k := kO h w5 st5
    refine ⟨fun hi => ?_, fun hi => ?_⟩
    · rw [if_pos hi] at k; exact k
    · rw [if_neg (by rw [hi]; decide)] at k; exact k
end


set_option maxHeartbeats 2000000 in
theorem sp_Decode {w0 : Base} {w : World} {fr : List Chunk} {b_ : Slc} {xs : List UInt8} {R : T_api_Txn → Int → World → Prop} (st : St w0 fr w) (hs : SrcAt w b_ 1 (xs.map bV)) (hl : b_.len ≤ 140737488351232)
    (kE : ∀ e, decT xs = .inr e → e ≠ 0 → ∀ w', St w0 fr w' → R ⟨0, ⟨none, 0, 0⟩⟩ e w')
    (kO : ∀ n ws, decT xs = .inl (n, ws) → ∀ s rb w', RowC 3 s (ws.flatMap wV) rb → St w0 (rb ++ fr) w' → R ⟨(n : Int), s⟩ 0 w') : C_record_Decode b_ w R := by
  apply S_record_Decode
  have hxl := hs.len_eq
  intro b1 w1 hb1 hw1
  have st1 : St w0 ((b1, nilT) :: fr) w1 := st.alloc hb1 hw1
  refine sp_NewReader st1 ((Ext.new hw1).src hs) hl fun r bsR w2 oR st b2 w3 hb2 hw3 => ?_
  have st := st.alloc hb2 hw3
  refine ⟨st.writable 0 rfl (by simp), fun w4 hw4 b3 w5 hb3 hw5 => ?_⟩
  have st : St w0 (bsR ++ ((b2, [Value.pointer r]) :: (b1, nilT) :: fr)) w4 := (st.put0 hw4).mid
  have st := st.alloc hb3 hw5
  refine ⟨st.writable 0 rfl (by simp), fun w6 hw6 => ?_⟩
  rw [hxl] at hw6
  have st : St w0 (bsR ++ ((b3, [iV (xs.length : Int)]) :: (b2, [Value.pointer r]) :: (b1, nilT) :: fr)) w6 := (st.put0 hw6).mid
  have c2 : ∀ {bsR : List Chunk} {left : Int} {l : List Chunk} {w' : World}, St w0 (bsR ++ ((b3, [iV left]) :: (b2, [Value.pointer r]) :: l)) w' → w'.cell? ⟨b2, 0, none⟩ = some (Value.pointer r) := fun st => st.unmid.drop1.unmid.cell 0 rfl rfl
  -- an answer that is an error
  have fail : ∀ {e : Int} {l : List Chunk} {w' : World}, decT xs = .inr e → e ≠ 0 → St w0 ((b1, nilT) :: (l ++ fr)) w' →
      (Writable w' b1 0 2 ∧ (∀ w9, w9 = World.puts b1 0 [Value.int .i64 0, Value.slice none 0 0] w' → (∃ (res : T_api_Txn), CellsAt w9 b1 0 [Value.int .i64 res.Number, Value.slice res.Writes.ptr res.Writes.len res.Writes.cap] ∧ (R res e w9)))) := by
    intro e l w' hd he st
    refine ⟨st.writable 0 rfl (by simp), fun w9 hw9 => ⟨⟨0, ⟨none, 0, 0⟩⟩, ?_, ?_⟩⟩
    · exact ((st.put0 hw9 : St w0 ((b1, nilT) :: (l ++ fr)) w9).get 0 rfl).all
    · exact kE e hd he w9 (st.put0 hw9).drop1.drop
  have failR : ∀ {e : Int} {bsR l : List Chunk} {left : Int} {w' : World}, decT xs = .inr e → e ≠ 0 → St w0 (bsR ++ ((b3, [iV left]) :: (b2, [Value.pointer r]) :: (b1, nilT) :: fr)) w' →
      (Writable w' b1 0 2 ∧ (∀ w9, w9 = World.puts b1 0 [Value.int .i64 0, Value.slice none 0 0] w' → (∃ (res : T_api_Txn), CellsAt w9 b1 0 [Value.int .i64 res.Number, Value.slice res.Writes.ptr res.Writes.len res.Writes.cap] ∧ (R res e w9)))) := by
    intro e bsR l left w' hd he st
    have st := st.out2
    refine fail (l := bsR ++ [(b3, [iV left]), (b2, [Value.pointer r])]) hd he ?_
    rw [List.append_assoc]; exact st
  refine ⟨r, c2 st, sp_Reader_Var st oR fun bsR w7 oR st => ?_⟩
  have hdT : decT xs = _ := rfl
  conv at hdT => rhs; unfold decT
  rcases varR_cases xs with ⟨c, hc, he⟩ | ⟨n, r1, he, hxs, hn⟩
  · rw [he] at oR hdT ⊢
    simp only at hdT
    rw [if_pos hc] at hdT
    refine sp_Decode_1 (s := ⟨xs, c⟩) st oR (fun _ w8 st => ?_) (fun h => absurd rfl h)
    have he2 : (⟨xs, c⟩ : RS).end_ = c := by unfold RS.end_; rw [if_neg (fun hh => hc hh.1)]
    rw [he2]
    exact ⟨fun _ => failR (l := []) hdT hc st, fun h => absurd (by simpa using h) hc⟩
  rw [he] at oR hdT ⊢
  simp only at hdT
  rw [if_neg (by simp)] at hdT
  have hlt1 : r1.length < xs.length := by
    have := List.length_pos_iff.2 (varF_ne n)
    rw [hxs, List.length_append]; omega
  refine sp_Decode_1 (s := ⟨r1, 0⟩) st oR (fun h => absurd (show r1.length = xs.length from h) (by omega)) (fun _ w8 st => ?_)
  have hcond : (decide ((n : Int) < 1) || decide ((n : Int) > 65536)) = decide (n < 1 ∨ n > 65536) := by
    by_cases h : n < 1 ∨ n > 65536
    · rw [decide_eq_true h]; simp only [Bool.or_eq_true, decide_eq_true_eq]; omega
    · rw [decide_eq_false h]; simp only [Bool.or_eq_false_iff, decide_eq_false_iff_not]; omega
  simp only [hcond, decide_eq_true_eq]
  by_cases hnb : n < 1 ∨ n > 65536
  · rw [if_pos hnb] at hdT ⊢
    exact ⟨fun _ => failR (l := []) hdT (by decide) st, fun h => by simp at h⟩
  rw [if_neg hnb] at hdT ⊢
  refine ⟨fun h => by simp at h, fun _ => ⟨r, c2 st, sp_Reader_Var st oR fun bsR w10 oR st => ?_⟩⟩
  unfold decT1 at hdT
  rcases varR_cases r1 with ⟨c, hc, he⟩ | ⟨k, r2, he, hr1, hk⟩
  · rw [he] at oR hdT ⊢
    simp only at hdT
    rw [if_pos hc] at hdT
    refine sp_Decode_1 (s := ⟨r1, c⟩) st oR (fun _ w8 st => ?_) (fun h => absurd rfl h)
    have he2 : (⟨r1, c⟩ : RS).end_ = c := by unfold RS.end_; rw [if_neg (fun hh => hc hh.1)]
    rw [he2]
    exact ⟨fun _ => failR (l := []) hdT hc st, fun h => absurd (by simpa using h) hc⟩
  rw [he] at oR hdT ⊢
  simp only at hdT
  rw [if_neg (by simp)] at hdT
  have hlt2 : r2.length < r1.length := by
    have := List.length_pos_iff.2 (varF_ne k)
    rw [hr1, List.length_append]; omega
  refine sp_Decode_1 (s := ⟨r2, 0⟩) st oR (fun h => absurd (show r2.length = r1.length from h) (by omega)) (fun _ w11 st => ?_)
  have hcond2 : ((k : Int) > 32) ↔ k > 32 := by omega
  simp only [decide_eq_true_eq, hcond2]
  by_cases hkb : k > 32
  · rw [if_pos hkb] at hdT ⊢
    exact ⟨fun _ => failR (l := []) hdT (by decide) st, fun h => by simp at h⟩
  rw [if_neg hkb] at hdT ⊢
  refine ⟨fun h => by simp at h, fun _ b4 w13 hb4 hw13 => ?_⟩
  have st := st.alloc hb4 hw13
  refine ⟨st.writable 0 rfl (by simp), fun w14 hw14 => ?_⟩
  have wn : IntKind.i64.wrap (n : Int) = (n : Int) := i64_in _ (by omega) (by omega)
  rw [wn] at hw14
  have st : St w0 (bsR ++ ((b3, [iV (r2.length : Int)]) :: (b2, [Value.pointer r]) :: (b4, txV (n : Int) ⟨none, 0, 0⟩) :: ([] ++ ((b1, nilT) :: fr)))) w14 := St.in2 (st.put0 hw14 : St w0 ((b4, txV (n : Int) ⟨none, 0, 0⟩) :: _) w14)
  refine ⟨fun t w' => ∃ (j : Nat) (ys : List Wr) (rest : List UInt8) (sl : Slc) (rb bsR : List Chunk), t = (j : Int) ∧ j ≤ k ∧ ys.length = j ∧ rest.length ≤ xs.length ∧ decWs k r2 = (match decWs (k - j) rest with | .inr c => .inr c | .inl (zs, r') => .inl (ys ++ zs, r')) ∧
      RdO r ⟨rest, 0⟩ bsR ∧ RowC 3 sl (ys.flatMap wV) rb ∧ St w0 (bsR ++ ((b3, [iV (rest.length : Int)]) :: (b2, [Value.pointer r]) :: (b4, txV (n : Int) sl) :: (rb ++ ((b1, nilT) :: fr)))) w', fun t _ => k - t.toNat,
    ⟨0, [], r2, ⟨none, 0, 0⟩, [], bsR, rfl, by omega, rfl, by omega, ?_, oR, RowC.nil, st⟩, ?_⟩
  · rw [Nat.sub_zero]
    cases decWs k r2 with
    | inr c => rfl
    | inl p => rfl
  rintro t w15 ⟨j, ys, rest, sl, rb, bsR, rfl, hj, hyl, hrl, hdw, oR, ro, st⟩
  -- an error out of the loop
  have failL : ∀ {e : Int} {p : List Chunk} {w' : World}, decWs (k - j) rest = .inr e → e ≠ 0 → St w0 (p ++ ((b1, nilT) :: fr)) w' →
      (Writable w' b1 0 2 ∧ (∀ w9, w9 = World.puts b1 0 [Value.int .i64 0, Value.slice none 0 0] w' → (∃ (res : T_api_Txn), CellsAt w9 b1 0 [Value.int .i64 res.Number, Value.slice res.Writes.ptr res.Writes.len res.Writes.cap] ∧ (R res e w9)))) := by
    intro e p w' hd he st
    refine fail (l := p) ?_ he st.unmid
    rw [hd] at hdw
    rw [hdT, hdw]
  have asm5 : ∀ {bsR : List Chunk} {left : Int} {b5 : Nat} {c5 : List Value} {sl : Slc} {rb : List Chunk} {w' : World}, St w0 (bsR ++ ((b3, [iV left]) :: (b2, [Value.pointer r]) :: (b5, c5) :: (b4, txV (n : Int) sl) :: (rb ++ ((b1, nilT) :: fr)))) w' →
      St w0 ((bsR ++ ((b3, [iV left]) :: (b2, [Value.pointer r]) :: (b5, c5) :: (b4, txV (n : Int) sl) :: rb)) ++ ((b1, nilT) :: fr)) w' := fun st => by
    rw [List.append_assoc]; exact st
  unfold F_record_Decode_L0
  refine ⟨fun hi => ?_, fun hi => ?_⟩
  · have hi : j < k := by have := of_decide_eq_true hi; omega
    obtain ⟨m, hm⟩ : ∃ m, k - j = m + 1 := ⟨k - j - 1, by omega⟩
    intro b5 w16 hb5 hw16
    have st : St w0 (bsR ++ ((b3, [iV (rest.length : Int)]) :: (b2, [Value.pointer r]) :: (b5, wV ⟨ByteArray.empty, ByteArray.empty, false⟩) :: (b4, txV (n : Int) sl) :: (rb ++ ((b1, nilT) :: fr)))) w16 := (st.alloc hb5 hw16).in2
    refine ⟨r, c2 st, sp_Reader_Text st oR (by omega) (by omega) (by show rest.length ≤ _; omega) fun bsR w17 oR st => ?_⟩
    have wr5 : ∀ {o : Nat} {bsR : List Chunk} {left : Int} {c5 : List Value} {l : List Chunk} {w' : World}, c5.length = 3 → o < 3 → St w0 (bsR ++ ((b3, [iV left]) :: (b2, [Value.pointer r]) :: (b5, c5) :: l)) w' →
        Writable w' b5 o 1 ∧ ∀ {v : Value} {w'' : World}, w'' = World.puts b5 o [v] w' → St w0 (bsR ++ ((b3, [iV left]) :: (b2, [Value.pointer r]) :: (b5, putL o [v] c5) :: l)) w'' := fun hc ho st =>
      ⟨st.out2.writable 0 rfl (by omega), fun hw => (st.out2.put0 hw).in2⟩
    have c5 : ∀ {o : Nat} {v : Value} {bsR : List Chunk} {left : Int} {cs : List Value} {l : List Chunk} {w' : World}, cs[o]? = some v → St w0 (bsR ++ ((b3, [iV left]) :: (b2, [Value.pointer r]) :: (b5, cs) :: l)) w' → w'.cell? ⟨b5, o, none⟩ = some v := fun hv st => st.out2.cell 0 rfl hv
    have hdW : decWs (k - j) rest = (match decW rest with | .inr c => .inr c | .inl (x, r) => match decWs m r with | .inr c => .inr c | .inl (xs, r') => .inl (x :: xs, r')) := by rw [hm]; rfl
    have hbad : ∀ {e : Int}, decW rest = .inr e → decWs (k - j) rest = .inr e := fun h => by rw [hdW, h]
    -- one write more
    have k1 : ∀ {x : Wr} {rest' : List UInt8} {bsR : List Chunk} {w' : World}, decW rest = .inl (x, rest') → RdO r ⟨rest', 0⟩ bsR → rest'.length ≤ rest.length →
        St w0 (bsR ++ ((b3, [iV (rest'.length : Int)]) :: (b2, [Value.pointer r]) :: (b5, wV x) :: (b4, txV (n : Int) sl) :: (rb ++ ((b1, nilT) :: fr)))) w' →
        F_record_Decode_k1 b4 (j : Int) (fun t' w' => (∃ (j : Nat) (ys : List Wr) (rest : List UInt8) (sl : Slc) (rb bsR : List Chunk), t' = (j : Int) ∧ j ≤ k ∧ ys.length = j ∧ rest.length ≤ xs.length ∧ decWs k r2 = (match decWs (k - j) rest with | .inr c => .inr c | .inl (zs, r') => .inl (ys ++ zs, r')) ∧
      RdO r ⟨rest, 0⟩ bsR ∧ RowC 3 sl (ys.flatMap wV) rb ∧ St w0 (bsR ++ ((b3, [iV (rest.length : Int)]) :: (b2, [Value.pointer r]) :: (b4, txV (n : Int) sl) :: (rb ++ ((b1, nilT) :: fr)))) w') ∧ k - t'.toNat < k - ((j : Nat) : Int).toNat) b5 w' := by
      intro x rest' bsR w' hd oR hlr st
      unfold F_record_Decode_k1
      refine ⟨sl, st.out3.cell 0 rfl rfl, x, (st.out2.get 0 rfl).all, fun b6 w25 hb6 hw6 => ⟨wV x, ⟨rfl, .inr ⟨rfl, (Blk.new hb6 hw6).all⟩⟩, ?_⟩⟩
      have st := st.keep (Ext.new hw6)
      have e1 : ∀ rb : List Chunk, bsR ++ ((b3, [iV (rest'.length : Int)]) :: (b2, [Value.pointer r]) :: (b5, wV x) :: (b4, txV (n : Int) sl) :: (rb ++ ((b1, nilT) :: fr))) =
          (bsR ++ [(b3, [iV (rest'.length : Int)]), (b2, [Value.pointer r]), (b5, wV x), (b4, txV (n : Int) sl)]) ++ (rb ++ ((b1, nilT) :: fr)) := fun rb => by rw [List.append_assoc]; rfl
      rw [e1] at st
      have hll := ro.len
      have hf : ∀ x : Wr, (wV x).length = 3 := fun _ => rfl
      rw [flatMap_len hf] at hll
      have hll2 : sl.len = j := by have := Nat.eq_of_mul_eq_mul_right (by decide) hll; omega
      refine ro.append st.swap rfl rfl rfl (by omega) fun s' rb' w26 ro' st hl' => ?_
      have st := st.swap
      rw [← e1] at st
      refine ⟨st.out3.writable 0 rfl (by simp), fun w27 hw27 => ?_⟩
      have st := (st.out3.put0 hw27).in3
      have st : St w0 (bsR ++ ((b3, [iV (rest'.length : Int)]) :: (b2, [Value.pointer r]) :: (b4, txV (n : Int) s') :: (rb' ++ ((b1, nilT) :: fr)))) w27 := st.out2.drop1
      have wj : IntKind.u64.wrap ((j : Int) + 1) = ((j + 1 : Nat) : Int) := by rw [u64_in _ (by omega) (by omega)]; omega
      rw [wj]
      refine ⟨⟨j + 1, ys ++ [x], rest', s', rb', bsR, rfl, by omega, by simp [hyl], by omega, ?_, oR, by simpa using ro', st⟩, by simp only [Int.toNat_natCast]; omega⟩
      rw [hdw, hdW, hd, show k - (j + 1) = m from by omega]
      simp only
      cases decWs m rest' with
      | inr c => rfl
      | inl p => simp
    obtain ⟨h5a, h5b⟩ := wr5 (o := 0) rfl (by decide) st
    refine ⟨h5a, fun w18 hw18 => ?_⟩
    have st := h5b hw18
    refine ⟨_, c5 rfl st, ?_⟩
    have hdw1 : decW rest = _ := rfl
    conv at hdw1 => rhs; unfold decW
    rcases textR_cases (show (0 : Int) ≤ 64 by decide) rest with ⟨c, hc, he⟩ | ⟨key, rest1, he, hr1', hkl⟩
    · rw [he] at oR hdw1 st ⊢
      simp only at hdw1
      rw [if_pos hc] at hdw1
      refine sp_Decode_1 (s := ⟨rest, c⟩) st oR (fun _ w8 st => ?_) (fun h => absurd rfl h)
      have he2 : (⟨rest, c⟩ : RS).end_ = c := by unfold RS.end_; rw [if_neg (fun hh => hc hh.1)]
      rw [he2]
      exact ⟨fun _ => failL (hbad hdw1) hc (asm5 st), fun h => absurd (by simpa using h) hc⟩
    rw [he] at oR hdw1 st ⊢
    simp only at hdw1
    rw [if_neg (by simp)] at hdw1
    have hlt3 : rest1.length < rest.length := by
      have := List.length_pos_iff.2 (varF_ne key.length)
      rw [hr1', List.length_append, List.length_append]; omega
    refine sp_Decode_1 (s := ⟨rest1, 0⟩) st oR (fun h => absurd (show rest1.length = rest.length from h) (by omega)) (fun _ w19 st => ?_)
    rw [size_empty, mkS_size]
    simp only [decide_eq_true_eq]
    by_cases hk0 : key.length = 0
    · rw [if_pos (List.eq_nil_of_length_eq_zero hk0)] at hdw1
      rw [if_pos hk0]
      exact ⟨fun _ => failL (hbad hdw1) (by decide) (asm5 st), fun h => by simp at h⟩
    rw [if_neg (fun h => hk0 (by rw [h]; rfl))] at hdw1
    rw [if_neg hk0]
    refine ⟨fun h => by simp at h, fun _ => ⟨r, c2 st, sp_Reader_Fixed st oR fun bsR w21 oR st => ?_⟩⟩
    unfold decW1 at hdw1
    rcases fixR_cases rest1 with ⟨_, he⟩ | ⟨f, rest2, he, hr2', hf⟩
    · rw [he] at oR hdw1 ⊢
      simp only at hdw1
      rw [if_pos (by decide)] at hdw1
      refine sp_Decode_1 (s := ⟨rest1, 5⟩) st oR (fun _ w8 st => ?_) (fun h => absurd rfl h)
      have he2 : (⟨rest1, 5⟩ : RS).end_ = 5 := by unfold RS.end_; rw [if_neg (fun hh => by cases hh.1)]
      rw [he2]
      exact ⟨fun _ => failL (hbad hdw1) (by decide) (asm5 st), fun h => by simp at h⟩
    rw [he] at oR hdw1 ⊢
    simp only at hdw1
    rw [if_neg (by simp)] at hdw1
    have hlt4 : rest2.length < rest1.length := by
      have := fixB_len 1 f
      rw [hr2', List.length_append]; omega
    refine sp_Decode_1 (s := ⟨rest2, 0⟩) st oR (fun h => absurd (show rest2.length = rest1.length from h) (by omega)) (fun _ w22 st => ?_)
    have hcf : ((f : Int) > 1) ↔ f > 1 := by omega
    simp only [decide_eq_true_eq, hcf]
    by_cases hf1 : f > 1
    · rw [if_pos hf1] at hdw1 ⊢
      exact ⟨fun _ => failL (hbad hdw1) (by decide) (asm5 st), fun h => by simp at h⟩
    rw [if_neg hf1] at hdw1 ⊢
    refine ⟨fun h => by simp at h, fun _ => ?_⟩
    obtain ⟨h5a, h5b⟩ := wr5 (o := 2) rfl (by decide) st
    refine ⟨h5a, fun w28 hw28 => ?_⟩
    have st := h5b hw28
    refine ⟨_, c5 rfl st, fun hd => ?_, fun hd => ?_⟩
    · have hf0 : ¬ f = 1 := fun h => by subst h; simp at hd
      rw [if_neg hf0] at hdw1
      have hf0' : (f : Int) ≠ 1 := by omega
      have e0 : ((f : Int) == 1) = false := by simpa using hf0'
      rw [e0] at st
      refine ⟨r, c2 st, sp_Reader_Text st oR (by omega) (by omega) (by show rest2.length ≤ _; omega) fun bsR w29 oR st => ?_⟩
      obtain ⟨h5a, h5b⟩ := wr5 (o := 1) rfl (by decide) st
      refine ⟨h5a, fun w30 hw30 => ?_⟩
      have st := h5b hw30
      unfold decW2 at hdw1
      rcases textR_cases (show (0 : Int) ≤ 1024 by decide) rest2 with ⟨c, hc, he⟩ | ⟨v, rest3, he, hr3', hvl⟩
      · rw [he] at oR hdw1 st
        simp only at hdw1
        rw [if_pos hc] at hdw1
        refine sp_Decode_1 (s := ⟨rest2, c⟩) st oR (fun _ w8 st => ?_) (fun h => absurd rfl h)
        have he2 : (⟨rest2, c⟩ : RS).end_ = c := by unfold RS.end_; rw [if_neg (fun hh => hc hh.1)]
        rw [he2]
        exact ⟨fun _ => failL (hbad hdw1) hc (asm5 st), fun h => absurd (by simpa using h) hc⟩
      rw [he] at oR hdw1 st
      simp only at hdw1
      rw [if_neg (by simp)] at hdw1
      have hlt5 : rest3.length < rest2.length := by
        have := List.length_pos_iff.2 (varF_ne v.length)
        rw [hr3', List.length_append, List.length_append]; omega
      refine sp_Decode_1 (s := ⟨rest3, 0⟩) st oR (fun h => absurd (show rest3.length = rest2.length from h) (by omega)) (fun _ w31 st => ?_)
      exact ⟨fun h => by simp at h, fun _ => k1 hdw1 oR (by omega) st⟩
    · have hf0 : f = 1 := by
        have : (f : Int) = 1 := by simpa using hd
        omega
      rw [if_pos hf0] at hdw1
      have e0 : ((f : Int) == 1) = true := by rw [hf0]; rfl
      rw [e0] at st
      exact k1 hdw1 oR (by omega) st
  · have hi : j = k := by have := of_decide_eq_false hi; omega
    rw [show k - j = 0 from by omega, decWs] at hdw
    simp only [List.append_nil] at hdw
    rw [hdw] at hdT
    simp only at hdT
    refine ⟨r, c2 st, sp_Reader_End st oR ?_⟩
    by_cases hr : rest = []
    · have he2 : (⟨rest, 0⟩ : RS).end_ = 0 := by unfold RS.end_; rw [if_neg (fun hh => hh.2 hr)]
      rw [if_neg (fun h => h hr)] at hdT
      rw [he2]
      refine ⟨fun h => by simp at h, fun _ => ⟨⟨(n : Int), sl⟩, (st.out2.get 0 rfl).all, ?_⟩⟩
      have st : St w0 ((bsR ++ ((b3, [iV (rest.length : Int)]) :: (b2, [Value.pointer r]) :: (b4, txV (n : Int) sl) :: rb)) ++ ((b1, nilT) :: fr)) w15 := by rw [List.append_assoc]; exact st
      refine ⟨st.unmid.writable 0 rfl (by simp), fun w35 hw35 => ⟨⟨(n : Int), sl⟩, ?_, ?_⟩⟩
      · exact ((st.unmid.put0 hw35).get 0 rfl).all
      · have st := (st.unmid.put0 hw35).drop1
        have st : St w0 ((bsR ++ [(b3, [iV (rest.length : Int)]), (b2, [Value.pointer r]), (b4, txV (n : Int) sl)]) ++ (rb ++ fr)) w35 := by
          have e : (bsR ++ ((b3, [iV (rest.length : Int)]) :: (b2, [Value.pointer r]) :: (b4, txV (n : Int) sl) :: rb)) ++ fr = (bsR ++ [(b3, [iV (rest.length : Int)]), (b2, [Value.pointer r]), (b4, txV (n : Int) sl)]) ++ (rb ++ fr) := by simp
          rw [← e]; exact st
        exact kO n ys hdT sl rb w35 ro st.drop
    · have he2 : (⟨rest, 0⟩ : RS).end_ = 4 := by unfold RS.end_; rw [if_pos ⟨rfl, hr⟩]
      rw [if_pos hr] at hdT
      rw [he2]
      refine ⟨fun _ => fail (l := bsR ++ ((b3, [iV (rest.length : Int)]) :: (b2, [Value.pointer r]) :: (b4, txV (n : Int) sl) :: rb)) hdT (by decide) ?_, fun h => by simp at h⟩
      have st : St w0 ((bsR ++ ((b3, [iV (rest.length : Int)]) :: (b2, [Value.pointer r]) :: (b4, txV (n : Int) sl) :: rb)) ++ ((b1, nilT) :: fr)) w15 := by rw [List.append_assoc]; exact st
      exact st.unmid

end Go.Proofs.YtpdegdnigcnjiaaGreatDoor

namespace Go.Proofs.YtpdegdnigcnjiaaGreatDoor
open Go
set_option linter.unusedVariables false
set_option linter.unusedSimpArgs false

theorem wV_len (x : Wr) : (wV x).length = 3 := rfl
instance decWr : DecidableEq Wr := fun x y =>
  if h : x.Key = y.Key ∧ x.Val = y.Val ∧ x.Drop = y.Drop then isTrue (by cases x; cases y; simp only at h; obtain ⟨h1, h2, h3⟩ := h; rw [h1, h2, h3]) else isFalse fun e => h (by rw [e]; exact ⟨rfl, rfl, rfl⟩)
end Go.Proofs.YtpdegdnigcnjiaaGreatDoor

namespace Go.Proofs.YtpdegdnigcnjiaaGreatDoor
open Go
set_option linter.unusedVariables false
set_option linter.unusedSimpArgs false

theorem wr_ext {x y : Wr} : x = y ↔ (x.Key = y.Key ∧ x.Val = y.Val ∧ x.Drop = y.Drop) := by
  cases x; cases y; simp
instance : DecidableEq T_api_Write := fun x y => decidable_of_iff _ wr_ext.symm
theorem ba_eq (a b : ByteArray) : (a == b) = decide (a = b) := by
  cases a; cases b
  rename_i x y
  show (x == y) = _
  by_cases h : x = y
  · subst h; simp
  · rw [decide_eq_false (fun e => h (ByteArray.mk.inj e))]; simpa using h
theorem wr_eq (x y : Wr) : (((x.Key == y.Key) && (x.Val == y.Val)) && (x.Drop == y.Drop)) = decide (x = y) := by
  rw [ba_eq, ba_eq]
  by_cases h : x = y
  · subst h; simp
  · rw [decide_eq_false h]
    refine Bool.eq_false_iff.2 fun hh => h ?_
    simp only [Bool.and_eq_true, decide_eq_true_eq, beq_iff_eq] at hh
    exact wr_ext.2 ⟨hh.1.1, hh.1.2, hh.2⟩
section
variable {w0 : Base} {w : World} {fr bs : List Chunk}
theorem sp_SameWrites {a b : Slc} {ws us : List Wr} {R : Bool → World → Prop} (ha : SrcAt w a 3 (ws.flatMap wV)) (hb : SrcAt w b 3 (us.flatMap wV)) (hl : a.len ≤ 4611686018427387904)
    (k : ∀ w', Ext w w' → R (decide (ws = us)) w') : C_towpathlaw01_SameWrites a b w R := by
  apply S_towpathlaw01_SameWrites
  unfold F_towpathlaw01_SameWrites
  have la := wr_len ha
  have lb := wr_len hb
  refine ⟨fun h => ?_, fun h => ?_⟩
  · have h : ws.length ≠ us.length := by
      rw [la, lb] at h
      have : (ws.length : Int) ≠ (us.length : Int) := by simpa using h
      omega
    have := k w (Ext.refl _)
    rw [decide_eq_false (fun e => h (by rw [e]))] at this
    exact this
  have h : ws.length = us.length := by
    rw [la, lb] at h
    have : (ws.length : Int) = (us.length : Int) := by simpa using h
    omega
  refine ⟨fun i w' => Ext w w' ∧ 0 ≤ i ∧ i ≤ a.len ∧ ∀ j, j < i.toNat → ws[j]? = us[j]?, fun i _ => a.len - i.toNat, ⟨Ext.refl _, by omega, by omega, fun j hj => by omega⟩, ?_⟩
  rintro i w1 ⟨e, h0, h1, hj⟩
  unfold F_towpathlaw01_SameWrites_L0
  refine ⟨fun hi => ?_, fun hi => ?_⟩
  · have hi := of_decide_eq_true hi
    obtain ⟨pa, x, hx, hc⟩ := wr_at (e.src ha) h0 hi
    obtain ⟨pb, y, hy, hd⟩ := wr_at (e.src hb) h0 (show i < ((b.len : Nat) : Int) by omega)
    have wi : IntKind.i64.wrap (i + 1) = i + 1 := wrap_next h0 hi (by omega)
    refine ⟨pa, h0, hi, x, hc, pb, h0, by omega, y, hd, fun w2 e2 => ?_⟩
    rw [wr_eq]
    refine ⟨fun hne => ?_, fun heq => ?_⟩
    · have hne : x ≠ y := by simpa using hne
      have := k w2 (e.trans e2)
      rw [decide_eq_false (fun e => hne (by rw [e, hy] at hx; exact (Option.some.inj hx).symm))] at this
      exact this
    · have heq : x = y := by simpa using heq
      rw [wi]
      refine ⟨⟨e.trans e2, by omega, by omega, fun j hjlt => ?_⟩, by show _ - _ < _ - _; omega⟩
      rw [toNat_next h0] at hjlt
      by_cases hji : j = i.toNat
      · rw [hji, hx, hy, heq]
      · exact hj j (by omega)
  · have hi := of_decide_eq_false hi
    have := k w1 e
    rw [decide_eq_true (List.ext_getElem? fun j => by
      by_cases hjl : j < ws.length
      · exact hj j (by omega)
      · rw [List.getElem?_eq_none (by omega), List.getElem?_eq_none (by omega)])] at this
    exact this
theorem sp_SameTxn {a b : T_api_Txn} {ws us : List Wr} {R : Bool → World → Prop} (ha : SrcAt w a.Writes 3 (ws.flatMap wV)) (hb : SrcAt w b.Writes 3 (us.flatMap wV)) (hl : a.Writes.len ≤ 4611686018427387904)
    (k : ∀ w', Ext w w' → R (decide (a.Number = b.Number ∧ ws = us)) w') : C_towpathlaw01_SameTxn a b w R := by
  apply S_towpathlaw01_SameTxn
  intro b1 w1 hb1 hw1 b2 w2 hb2 hw2
  have st := ((St.start w).alloc hb1 hw1).alloc hb2 hw2
  refine ⟨a.Number, st.cell 1 rfl rfl, b.Number, st.cell 0 rfl rfl, fun h => ⟨a.Writes, st.cell 1 rfl rfl, b.Writes, st.cell 0 rfl rfl, ?_⟩, fun h => ?_⟩
  · have h : a.Number = b.Number := by simpa using h
    refine sp_SameWrites (st.ext.src ha) (st.ext.src hb) hl fun w3 e3 => ?_
    have := k w3 (st.ext.trans e3)
    rw [show decide (a.Number = b.Number ∧ ws = us) = decide (ws = us) from by simp [h]] at this
    exact this
  · have h : a.Number ≠ b.Number := by simpa using h
    have := k w2 st.ext
    rw [decide_eq_false (fun hh => h hh.1)] at this
    exact this
end
end Go.Proofs.YtpdegdnigcnjiaaGreatDoor

namespace Go.Proofs.YtpdegdnigcnjiaaGreatDoor
open Go
set_option linter.unusedVariables false
set_option linter.unusedSimpArgs false

abbrev txW (n : Int) (s : Slc) : List Value := [Value.int .i64 n, Value.slice s.ptr s.len s.cap]
abbrev Tx := Int × List Wr
def chkL : Nat → List Tx → Int
  | _, [] => 0
  | i, t :: r => if okT t.1 t.2 then (if t.1 = (i : Int) then chkL (i + 1) r else 6) else 1
theorem chkL_zero : ∀ {ts : List Tx} {i : Nat}, chkL i ts = 0 → ∀ {k : Nat} {t : Tx}, ts[k]? = some t → okT t.1 t.2 ∧ t.1 = ((i + k : Nat) : Int)
  | [], _, _, k, t, h => by simp at h
  | x :: r, i, hc, k, t, h => by
    unfold chkL at hc
    by_cases h1 : okT x.1 x.2
    · rw [if_pos h1] at hc
      by_cases h2 : x.1 = (i : Int)
      · rw [if_pos h2] at hc
        cases k with
        | zero => have : x = t := by simpa using h
                  subst this; exact ⟨h1, h2⟩
        | succ k =>
          have h' : r[k]? = some t := by simpa using h
          obtain ⟨a, b⟩ := chkL_zero hc h'
          exact ⟨a, by rw [b]; omega⟩
      · rw [if_neg h2] at hc; cases hc
    · rw [if_neg h1] at hc; cases hc
/-- A list of transactions, as it lies in memory. -/
structure LAt (w : World) (sl : Slc) (ts : List Tx) (sls : List Slc) : Prop where
  len : ts.length = sls.length
  src : SrcAt w sl 2 ((ts.zip sls).flatMap fun p => txW p.1.1 p.2)
  wr : ∀ (i : Nat) (t : Tx) (s : Slc), ts[i]? = some t → sls[i]? = some s → SrcAt w s 3 (t.2.flatMap wV)
  cp : ∀ s ∈ sls, s.len ≤ s.cap ∧ s.len * 40 ≤ 140737488351232
theorem LAt.ext {w w' : World} {sl : Slc} {ts : List Tx} {sls : List Slc} (h : LAt w sl ts sls) (e : Ext w w') : LAt w' sl ts sls :=
  ⟨h.len, e.src h.src, fun i t s h1 h2 => e.src (h.wr i t s h1 h2), h.cp⟩
theorem LAt.slen {w : World} {sl : Slc} {ts : List Tx} {sls : List Slc} (h : LAt w sl ts sls) : sl.len = ts.length := by
  have := h.src.1
  rw [flatMap_len (sz := 2) (fun _ => rfl), List.length_zip, ← h.len, Nat.min_self] at this
  omega
theorem LAt.get {w : World} {sl : Slc} {ts : List Tx} {sls : List Slc} (h : LAt w sl ts sls) {p : Nat} (hp : p < sl.len) :
    IsAt sl.ptr ∧ ∃ t s, ts[p]? = some t ∧ sls[p]? = some s ∧ CellsAt w (pblk sl.ptr) (poff sl.ptr + p * 2) (txW t.1 s) ∧ SrcAt w s 3 (t.2.flatMap wV) ∧ s.len ≤ s.cap ∧ s.len * 40 ≤ 140737488351232 := by
  obtain ⟨a, x, hx, hc⟩ := SrcAt.getN h.src (fun _ => rfl) (by decide) (i := (p : Int)) (by omega) (by omega)
  rw [Int.toNat_natCast] at hx hc
  have hl := h.slen
  have hll := h.len
  have h1 : ts[p]? = some (ts[p]'(by omega)) := List.getElem?_eq_getElem (by omega)
  have h2 : sls[p]? = some (sls[p]'(by omega)) := List.getElem?_eq_getElem (by omega)
  rw [List.getElem?_zip_eq_some (z := (ts[p]'(by omega), sls[p]'(by omega))) |>.2 ⟨h1, h2⟩] at hx
  cases hx
  have hm := h.cp _ (List.mem_of_getElem? h2)
  exact ⟨a, _, _, h1, h2, hc, h.wr p _ _ h1 h2, hm.1, hm.2⟩

end Go.Proofs.YtpdegdnigcnjiaaGreatDoor

namespace Go.Proofs.YtpdegdnigcnjiaaGreatDoor
open Go
set_option linter.unusedVariables false
set_option linter.unusedSimpArgs false

theorem chkL_len {ts : List Tx} (h : chkL 1 ts = 0) : ts.length ≤ 65536 := by
  by_cases h0 : ts.length = 0
  · omega
  · have hg : ts[ts.length - 1]? = some (ts[ts.length - 1]'(by omega)) := List.getElem?_eq_getElem (by omega)
    obtain ⟨a, b⟩ := chkL_zero h hg
    have := a.2.1
    omega

theorem chkL_all {ts : List Tx} {i : Nat} (h : chkL i ts = 0) : ∀ t ∈ ts, okT t.1 t.2 := fun t ht => by
  obtain ⟨k, hk⟩ := List.mem_iff_getElem?.1 ht
  exact (chkL_zero h hk).1
end Go.Proofs.YtpdegdnigcnjiaaGreatDoor

namespace Go.Proofs.YtpdegdnigcnjiaaGreatDoor
open Go
set_option linter.unusedVariables false
set_option linter.unusedSimpArgs false

/-! ### CRC-32C -/
def step (c : BitVec 32) : BitVec 32 := (c >>> 1) ^^^ (if c.getLsbD 0 then 0x82f63b78#32 else 0#32)
def stepN : Nat → BitVec 32 → BitVec 32
  | 0, c => c
  | n + 1, c => stepN n (step c)
def crcF : BitVec 32 → List UInt8 → BitVec 32
  | c, [] => c
  | c, x :: r => crcF (stepN 8 (c ^^^ BitVec.ofNat 32 x.toNat)) r
/-- A number of 32 bits, as Go's. -/
abbrev U (c : BitVec 32) : Int := (c.toNat : Int)

theorem step_xor (a b : BitVec 32) : step (a ^^^ b) = step a ^^^ step b := by
  unfold step
  rw [BitVec.getLsbD_xor]
  have h1 : (a ^^^ b) >>> 1 = (a >>> 1) ^^^ (b >>> 1) := by
    apply BitVec.eq_of_getLsbD_eq; intro i hi; simp
  rw [h1]
  cases a.getLsbD 0 <;> cases b.getLsbD 0 <;> (apply BitVec.eq_of_getLsbD_eq; intro i hi; simp [BitVec.getLsbD_xor])
  all_goals (generalize (a.getLsbD (1 + i)) = u; generalize (b.getLsbD (1 + i)) = v; generalize (BitVec.getLsbD (2197175160#32) i) = z; cases u <;> cases v <;> cases z <;> rfl)
theorem stepN_xor : ∀ (n : Nat) (a b : BitVec 32), stepN n (a ^^^ b) = stepN n a ^^^ stepN n b
  | 0, _, _ => rfl
  | n + 1, a, b => by rw [stepN, step_xor, stepN_xor n]; rfl
theorem stepN_high : ∀ (n : Nat) (c : BitVec 32), (∀ i, i < n → c.getLsbD i = false) → stepN n c = c >>> n
  | 0, c, _ => by simp [stepN]
  | n + 1, c, h => by
    have h0 := h 0 (by omega)
    have hs : step c = c >>> 1 := by
      unfold step; rw [h0]
      apply BitVec.eq_of_getLsbD_eq; intro i hi; simp
    rw [stepN, hs, stepN_high n]
    · apply BitVec.eq_of_getLsbD_eq; intro i hi
      simp only [BitVec.getLsbD_ushiftRight]
      rw [show 1 + (n + i) = n + 1 + i from by omega]
    · intro i hi
      simp only [BitVec.getLsbD_ushiftRight]
      exact h _ (by omega)
theorem crc_table (d : BitVec 32) (x : Nat) (hx : x < 256) : stepN 8 (BitVec.ofNat 32 ((d.toNat % 256) ^^^ x)) ^^^ (d >>> 8) = stepN 8 (d ^^^ BitVec.ofNat 32 x) := by
  have e1 : d ^^^ BitVec.ofNat 32 x = BitVec.ofNat 32 ((d.toNat % 256) ^^^ x) ^^^ ((d >>> 8) <<< 8) := by
    apply BitVec.eq_of_getLsbD_eq; intro i hi
    simp only [BitVec.getLsbD_xor, BitVec.getLsbD_ofNat, BitVec.getLsbD_shiftLeft, BitVec.getLsbD_ushiftRight, Nat.testBit_xor]
    rw [show (256 : Nat) = 2 ^ 8 from rfl, Nat.testBit_mod_two_pow]
    simp only [hi, decide_true, Bool.true_and]
    by_cases h8 : i < 8
    · simp [h8, BitVec.testBit_toNat]
    · have hxi : x.testBit i = false := Nat.testBit_lt_two_pow (Nat.lt_of_lt_of_le hx (by
        rw [show (256 : Nat) = 2 ^ 8 from rfl]; exact Nat.pow_le_pow_right (by omega) (by omega)))
      simp [h8, hxi, show 8 + (i - 8) = i from by omega]
  rw [e1, stepN_xor]
  congr 1
  rw [stepN_high]
  · apply BitVec.eq_of_getLsbD_eq; intro i hi
    simp only [BitVec.getLsbD_ushiftRight, BitVec.getLsbD_shiftLeft]
    by_cases h : 8 + i < 32
    · simp [h]
    · have : d.getLsbD (8 + i) = false := BitVec.getLsbD_of_ge _ _ (by omega)
      simp [h, this]
  · intro i hi
    simp [BitVec.getLsbD_shiftLeft, hi]

theorem U_lt (c : BitVec 32) : c.toNat < 2 ^ 32 := c.isLt
theorem U_xor (a b : BitVec 32) : bxor .u32 (U a) (U b) = U (a ^^^ b) := by
  unfold U; rw [bxor_bare rfl (U_lt a) (U_lt b), BitVec.toNat_xor]
theorem U_and (a b : BitVec 32) : band .u32 (U a) (U b) = U (a &&& b) := by
  unfold U; rw [band_bare rfl (U_lt a) (U_lt b), BitVec.toNat_and]
theorem U_shr (c : BitVec 32) (k : Nat) : Int.fdiv (U c) (2 ^ k) = U (c >>> k) := by
  have := fdiv_nat c.toNat (2 ^ k)
  rw [show ((2 : Int) ^ k) = ((2 ^ k : Nat) : Int) from by simp]; unfold U; rw [this, BitVec.toNat_ushiftRight, Nat.shiftRight_eq_div_pow]
theorem U_not (c : BitVec 32) : IntKind.u32.wrap (4294967295 - U c) = U (~~~c) := by
  have h1 := U_lt c
  rw [u32_in _ (by unfold U; omega) (by unfold U; omega)]
  unfold U
  rw [BitVec.toNat_not]
  omega
theorem U_not' (c : BitVec 32) : bxor .u32 (IntKind.max .u32) (U c) = U (~~~c) := by
  rw [show IntKind.max .u32 = U (0xffffffff#32) from by decide, U_xor]
  congr 2
theorem lsb_mod (c : BitVec 32) : c.getLsbD 0 = decide (c.toNat % 2 = 1) := by
  rw [BitVec.getLsbD, Nat.testBit_zero]
theorem step_tab (c : BitVec 32) : bxor .u32 (Int.fdiv (U c) (2 ^ 1)) (band .u32 2197175160 (IntKind.u32.wrap (0 - (band .u32 (U c) 1)))) = U (step c) := by
  have e1 : band .u32 (U c) 1 = ((c.toNat % 2 : Nat) : Int) := by
    rw [show (1 : Int) = U (1#32) from rfl, U_and]; unfold U; rw [BitVec.toNat_and]
    show ((c.toNat &&& 1 : Nat) : Int) = _
    rw [Nat.and_one_is_mod]
  rw [U_shr, e1]
  unfold step
  rw [lsb_mod]
  rcases Nat.mod_two_eq_zero_or_one c.toNat with h | h
  · rw [h]
    rw [show (IntKind.u32.wrap (0 - ((0 : Nat) : Int))) = U (0#32) from by decide, show (2197175160 : Int) = U (0x82f63b78#32) from by decide, U_and, U_xor]
    simp
  · rw [h]
    rw [show (IntKind.u32.wrap (0 - ((1 : Nat) : Int))) = U (0xffffffff#32) from by decide, show (2197175160 : Int) = U (0x82f63b78#32) from by decide, U_and, U_xor]
    simp
theorem step_odd {c : BitVec 32} (h : (Int.tmod (U c) 2 == 1) = true) : bxor .u32 (IntKind.u32.wrap (Int.tdiv (U c) 2)) 2197175160 = U (step c) := by
  have h1 := U_lt c
  have h := of_decide_eq_true h
  rw [show (2 : Int) = ((2 : Nat) : Int) from rfl, tmod_nat] at h
  have hl : c.getLsbD 0 = true := by rw [lsb_mod]; exact decide_eq_true (by omega)
  have e : IntKind.u32.wrap (Int.tdiv (U c) 2) = U (c >>> 1) := by
    rw [show (2 : Int) = ((2 : Nat) : Int) from rfl, tdiv_nat, u32_in _ (by omega) (by omega)]; unfold U; rw [BitVec.toNat_ushiftRight, Nat.shiftRight_eq_div_pow]
  rw [e, show (2197175160 : Int) = U (0x82f63b78#32) from by decide, U_xor]
  unfold step
  rw [hl]; rfl
theorem step_even {c : BitVec 32} (h : (Int.tmod (U c) 2 == 1) = false) : IntKind.u32.wrap (Int.tdiv (U c) 2) = U (step c) := by
  have h1 := U_lt c
  have h := of_decide_eq_false h
  rw [show (2 : Int) = ((2 : Nat) : Int) from rfl, tmod_nat] at h
  have hl : c.getLsbD 0 = false := by rw [lsb_mod]; exact decide_eq_false (by omega)
  have e : IntKind.u32.wrap (Int.tdiv (U c) 2) = U (c >>> 1) := by
    rw [show (2 : Int) = ((2 : Nat) : Int) from rfl, tdiv_nat, u32_in _ (by omega) (by omega)]; unfold U; rw [BitVec.toNat_ushiftRight, Nat.shiftRight_eq_div_pow]
  rw [e]
  unfold step
  rw [hl]; simp

theorem stepN_succ {n : Nat} {k : Int} (h0 : 0 ≤ k) (h1 : k < 8) (d : BitVec 32) : stepN (8 - k.toNat) d = stepN (8 - (k + 1).toNat) (step d) := by
  rw [show 8 - k.toNat = (8 - (k + 1).toNat) + 1 from by omega]; rfl

def T8 (i : Nat) : Int := U (stepN 8 (BitVec.ofNat 32 i))
def tabF (n : Nat) : List Int := (List.range n).map T8 ++ List.replicate (256 - n) 0
theorem crcTab_len {n : Nat} (h : n ≤ 256) : (tabF n).length = 256 := by simp [tabF]; omega
theorem crcTab_set {n : Nat} (h : n < 256) : ((tabF n).map (Value.int .u32)).set n (Value.int .u32 (T8 n)) = (tabF (n + 1)).map (Value.int .u32) := by
  rw [← List.map_set]
  congr 1
  unfold tabF
  rw [List.set_append_right _ _ (by simp)]
  simp only [List.length_map, List.length_range, Nat.sub_self]
  rw [List.range_succ, List.map_append, List.append_assoc]
  congr 1
  rw [show 256 - n = (256 - (n + 1)) + 1 from by omega, List.replicate_succ]
  rfl

theorem sp_sum_table {w : World} {R : List Int → World → Prop} (h : ∀ w', Ext w w' → R (tabF 256) w') : C_sum_table w R := by
  apply S_sum_table
  unfold F_sum_table
  intro b w1 hb hw b1 w2 hb1 hw2
  have e1 : Ext w w1 := Ext.new hw
  have e2 : Ext w w2 := e1.trans (Ext.new hw2)
  have k0 : Blk w2 b ((List.replicate 256 0).map (Value.int .u32)) := (Blk.new hb hw).ext (Ext.new hw2)
  have k1 : Blk w2 b1 ((tabF 0).map (Value.int .u32)) := Blk.new hb1 hw2
  have hbb : w.heap.size ≤ b1 := by have := e1.size; omega
  have hne : b ≠ b1 := by have := (Blk.new hb hw).lt; omega
  refine ⟨fun i w' => 0 ≤ i ∧ i ≤ 256 ∧ RowKit.Below w.heap.size w w' ∧ Blk w' b ((List.replicate 256 0).map (Value.int .u32)) ∧ Blk w' b1 ((tabF i.toNat).map (Value.int .u32)), fun i w' => 256 - i.toNat, ⟨by omega, by omega, e2, k0, k1⟩, ?_⟩
  rintro i w3 ⟨h0, h1, e3, k0, k1⟩
  unfold F_sum_table_L0
  refine ⟨fun hi => ?_, fun hi => ?_⟩
  · have hi := of_decide_eq_true hi
    refine ⟨fun c k w' => w' = w3 ∧ 0 ≤ k ∧ k ≤ 8 ∧ ∃ e, c = U e ∧ stepN (8 - k.toNat) e = stepN 8 (BitVec.ofNat 32 i.toNat), fun c k w' => 8 - k.toNat, ⟨rfl, by omega, by omega, BitVec.ofNat 32 i.toNat, ?_, rfl⟩, ?_⟩
    · rw [u32_in _ (by omega) (by omega)]
      unfold U; rw [BitVec.toNat_ofNat, Nat.mod_eq_of_lt (by omega)]; omega
    · rintro _ k _ ⟨rfl, j0, j1, e, rfl, he⟩
      unfold F_sum_table_L1
      refine ⟨fun hk => ?_, fun hk => ?_⟩
      · have hk := of_decide_eq_true hk
        have hw : IntKind.i64.wrap (k + 1) = k + 1 := i64_in _ (by omega) (by omega)
        rw [stepN_succ (n := 0) j0 hk] at he
        exact ⟨⟨rfl, by omega, by omega, step e, step_tab e, by rw [hw]; exact he⟩, by simp only [hw]; omega⟩
      · have hk := of_decide_eq_false hk
        rw [show 8 - k.toNat = 0 from by omega] at he
        have he : e = _ := he
        have hw : IntKind.i64.wrap (i + 1) = i + 1 := i64_in _ (by omega) (by omega)
        refine ⟨h0, hi, k1.writable (by rw [List.length_map, crcTab_len (by omega)]; omega), fun w5 hw5 => ?_⟩
        subst hw5
        have hp := k1.puts [Value.int .u32 (U e)] (o := 0 + i.toNat)
        rw [putL_one, Nat.zero_add, he] at hp
        have hs := crcTab_set (n := i.toNat) (by omega)
        rw [T8] at hs
        rw [hs] at hp
        refine ⟨⟨by omega, by omega, Below_puts _ e3 hbb, k0.puts_ne hne, ?_⟩, by simp only [hw]; omega⟩
        rw [hw, toNat_next h0, Nat.zero_add, he]
        exact hp
  · have hi := of_decide_eq_false hi
    have hn : i.toNat = 256 := by omega
    rw [hn] at k1
    refine ⟨tabF 256, crcTab_len (by omega), k1.all, k0.writable (by rw [List.length_map, List.length_replicate]; omega), fun w6 hw6 => ?_⟩
    subst hw6
    have hp := k0.puts ((tabF 256).map (Value.int .u32)) (o := 0)
    have hq := putL_append [] ((List.replicate 256 0).map (Value.int .u32)) [] ((tabF 256).map (Value.int .u32)) (by rw [List.length_map, List.length_map, List.length_replicate, crcTab_len (by omega)])
    simp only [List.nil_append, List.append_nil, List.length_nil] at hq
    rw [hq] at hp
    exact ⟨tabF 256, crcTab_len (by omega), hp.all, h _ (Below_puts _ e3 (by omega))⟩

theorem crcTab_get {i : Nat} (h : i < 256) : ((tabF 256).map (Value.int .u32))[i]? = some (Value.int .u32 (T8 i)) := by
  unfold tabF
  rw [List.getElem?_map, List.getElem?_append_left (by rw [List.length_map, List.length_range]; exact h), List.getElem?_map, List.getElem?_range h]; rfl

theorem sp_sum_More {c : BitVec 32} {s : Slc} {w : World} {R : Int → World → Prop} {l : List UInt8} (hs : SrcAt w s 1 (l.map bV)) (hl : s.len ≤ 4611686018427387904)
    (h : ∀ w', Ext w w' → R (U (~~~ crcF (~~~ c) l)) w') : C_sum_More (U c) s w R := by
  apply S_sum_More
  unfold F_sum_More
  refine sp_sum_table fun w1 e1 _ b w2 hb hw2 => ?_
  have e2 : Ext w w2 := e1.trans (Ext.new hw2)
  have k0 : Blk w2 b ((List.replicate 256 0).map (Value.int .u32)) := Blk.new hb hw2
  refine ⟨k0.writable (by rw [List.length_map, List.length_replicate]; omega), fun w3 hw3 => ?_⟩
  have hbb : w.heap.size ≤ b := by have := e1.size; omega
  have k1 := k0.puts ((tabF 256).map (Value.int .u32)) (o := 0)
  have hq := putL_append [] ((List.replicate 256 0).map (Value.int .u32)) [] ((tabF 256).map (Value.int .u32)) (by rw [List.length_map, List.length_map, List.length_replicate, crcTab_len (by omega)])
  simp only [List.nil_append, List.append_nil, List.length_nil] at hq
  rw [hq] at k1
  have e3 : Ext w w3 := hw3 ▸ Below_puts _ e2 hbb
  rw [← hw3] at k1
  have hs3 := e3.src hs
  have hlen := hs.len_eq
  refine ⟨fun n i w' => w' = w3 ∧ 0 ≤ i ∧ i ≤ s.len ∧ ∃ d, n = U d ∧ crcF d (l.drop i.toNat) = crcF (~~~ c) l, fun n i w' => s.len - i.toNat, ⟨rfl, by omega, by omega, ~~~c, U_not' c, by simp⟩, ?_⟩
  rintro _ i _ ⟨rfl, h0, h1, d, rfl, hb⟩
  unfold F_sum_More_L0
  refine ⟨fun hi => ?_, fun hi => ?_⟩
  · have hi := of_decide_eq_true hi
    obtain ⟨ha, x, hx, hc⟩ := hs3.get h0 hi
    rw [drop_get hx, crcF] at hb
    have hxl := x.toNat_lt
    have hdl := U_lt d
    have ew : IntKind.u8.wrap (U d) = ((d.toNat % 256 : Nat) : Int) := by rw [wrap_u8]; unfold U; exact (Int.natCast_emod d.toNat 256).symm
    have hx8 : d.toNat % 256 ^^^ x.toNat < 2 ^ 8 := Nat.xor_lt_two_pow (by omega) (by omega)
    have ex : bxor .u8 (IntKind.u8.wrap (U d)) (x.toNat : Int) = ((d.toNat % 256 ^^^ x.toNat : Nat) : Int) := by
      rw [ew, bxor_bare (k := .u8) rfl (by show _ < 256; omega) (by show _ < 256; omega)]
    have hw := wrap_next h0 hi hl
    refine ⟨ha, h0, hi, (x.toNat : Int), hc, ?_, ?_, T8 (d.toNat % 256 ^^^ x.toNat), ?_, ?_⟩
    · rw [ex]; omega
    · rw [ex]; omega
    · rw [ex, Int.toNat_natCast, Nat.zero_add]
      exact k1.cell (crcTab_get hx8)
    · refine ⟨⟨rfl, by omega, by omega, stepN 8 (d ^^^ BitVec.ofNat 32 x.toNat), ?_, by rw [hw, toNat_next h0]; exact hb⟩, by simp only [hw]; omega⟩
      rw [T8, U_shr, U_xor, crc_table _ _ hxl]
  · have hi := of_decide_eq_false hi
    rw [drop_end (by omega), crcF] at hb
    have h := h _ e3
    rw [← hb] at h
    rw [U_not']; exact h

theorem sp_sum_CRC {s : Slc} {w : World} {R : Int → World → Prop} {l : List UInt8} (hs : SrcAt w s 1 (l.map bV)) (hl : s.len ≤ 4611686018427387904)
    (h : ∀ w', Ext w w' → R (U (~~~ crcF (~~~ 0#32) l)) w') : C_sum_CRC s w R := by
  apply S_sum_CRC
  unfold F_sum_CRC
  exact sp_sum_More (c := 0#32) hs hl h
end Go.Proofs.YtpdegdnigcnjiaaGreatDoor

namespace Go.Proofs.YtpdegdnigcnjiaaGreatDoor
open Go
set_option linter.unusedVariables false
set_option linter.unusedSimpArgs false

theorem sp_towpathref03_More {c : BitVec 32} {s : Slc} {w : World} {R : Int → World → Prop} {l : List UInt8} (hs : SrcAt w s 1 (l.map bV)) (hl : s.len ≤ 4611686018427387904)
    (h : R (U (~~~ crcF (~~~ c) l)) w) : C_towpathref03_More (U c) s w R := by
  apply S_towpathref03_More
  unfold F_towpathref03_More
  have hlen := hs.len_eq
  refine ⟨fun n i w' => w' = w ∧ 0 ≤ i ∧ i ≤ s.len ∧ ∃ d, n = U d ∧ crcF d (l.drop i.toNat) = crcF (~~~ c) l, fun n i w' => s.len - i.toNat, ⟨rfl, by omega, by omega, ~~~c, U_not c, by simp⟩, ?_⟩
  rintro _ i _ ⟨rfl, h0, h1, d, rfl, hb⟩
  unfold F_towpathref03_More_L0
  refine ⟨fun hi => ?_, fun hi => ?_⟩
  · have hi := of_decide_eq_true hi
    obtain ⟨ha, x, hx, hc⟩ := hs.get h0 hi
    rw [drop_get hx, crcF] at hb
    have hxl := x.toNat_lt
    refine ⟨ha, h0, hi, (x.toNat : Int), hc, fun c1 k w' => w' = _ ∧ 0 ≤ k ∧ k ≤ 8 ∧ ∃ e, c1 = U e ∧ stepN (8 - k.toNat) e = stepN 8 (d ^^^ BitVec.ofNat 32 x.toNat), fun c1 k w' => 8 - k.toNat, ⟨rfl, by omega, by omega, d ^^^ BitVec.ofNat 32 x.toNat, ?_, rfl⟩, ?_⟩
    · rw [u32_in _ (by omega) (by omega)]
      rw [show ((x.toNat : Nat) : Int) = U (BitVec.ofNat 32 x.toNat) from by
        unfold U; rw [BitVec.toNat_ofNat, Nat.mod_eq_of_lt (by omega)], U_xor]
    · rintro _ k _ ⟨rfl, k0, k1, e, rfl, he⟩
      unfold F_towpathref03_More_L1
      have hwi := wrap_next h0 hi hl
      refine ⟨fun hk => ?_, fun hk => ?_⟩
      · have hk := of_decide_eq_true hk
        have hw : IntKind.i64.wrap (k + 1) = k + 1 := i64_in _ (by omega) (by omega)
        rw [stepN_succ (n := 0) k0 hk] at he
        refine ⟨fun ho => ?_, fun ho => ?_⟩
        · unfold F_towpathref03_More_k2
          exact ⟨⟨rfl, by omega, by omega, step e, step_odd ho, by rw [hw]; exact he⟩, by simp only [hw]; omega⟩
        · unfold F_towpathref03_More_k2
          exact ⟨⟨rfl, by omega, by omega, step e, step_even ho, by rw [hw]; exact he⟩, by simp only [hw]; omega⟩
      · have hk := of_decide_eq_false hk
        rw [show 8 - k.toNat = 0 from by omega] at he
        have he : e = _ := he
        refine ⟨⟨rfl, by omega, by omega, e, rfl, ?_⟩, by simp only [hwi]; omega⟩
        rw [hwi, toNat_next h0, he]; exact hb
  · have hi := of_decide_eq_false hi
    rw [drop_end (by omega), crcF] at hb
    rw [← hb] at h
    rw [U_not]; exact h

theorem sp_towpathref03_CRC {s : Slc} {w : World} {R : Int → World → Prop} {l : List UInt8} (hs : SrcAt w s 1 (l.map bV)) (hl : s.len ≤ 4611686018427387904)
    (h : R (U (~~~ crcF (~~~ 0#32) l)) w) : C_towpathref03_CRC s w R := by
  apply S_towpathref03_CRC
  unfold F_towpathref03_CRC
  exact sp_towpathref03_More (c := 0#32) hs hl h
end Go.Proofs.YtpdegdnigcnjiaaGreatDoor

namespace Go.Proofs.YtpdegdnigcnjiaaGreatDoor
open Go
set_option linter.unusedVariables false
set_option linter.unusedSimpArgs false

def crcN (l : List UInt8) : Nat := (~~~ crcF (~~~ 0#32) l).toNat
theorem crcN_lt (l : List UInt8) : crcN l < 256 ^ 4 := by have := (~~~ crcF (~~~ 0#32) l).isLt; exact this
def encR (t : Tx) : List UInt8 := varF (encT t.1 t.2).length ++ (encT t.1 t.2 ++ fixB 4 (crcN (encT t.1 t.2)))
def encL (ts : List Tx) : List UInt8 := ts.flatMap encR
end Go.Proofs.YtpdegdnigcnjiaaGreatDoor

namespace Go.Proofs.YtpdegdnigcnjiaaGreatDoor
open Go
set_option linter.unusedVariables false
set_option linter.unusedSimpArgs false

def recR (l : List UInt8) : (Tx × List UInt8) ⊕ Int :=
  if (textR 65536 ⟨l, 0⟩).1.code ≠ 0 then .inr (textR 65536 ⟨l, 0⟩).1.code
  else if (fixR 4 (textR 65536 ⟨l, 0⟩).1).1.code ≠ 0 then .inr (fixR 4 (textR 65536 ⟨l, 0⟩).1).1.code
  else if (fixR 4 (textR 65536 ⟨l, 0⟩).1).2 ≠ crcN (textR 65536 ⟨l, 0⟩).2 then .inr 4
  else match decT (textR 65536 ⟨l, 0⟩).2 with
    | .inr e => .inr e
    | .inl (n, ws) => .inl (((n : Int), ws), (fixR 4 (textR 65536 ⟨l, 0⟩).1).1.rest)

theorem fixB_leV : ∀ (l : List UInt8), fixB l.length (leV l) = l
  | [] => rfl
  | c :: r => by
    have hb := c.toNat_lt
    rw [List.length_cons, fixB, leV, show (c.toNat + 256 * leV r) / 256 = leV r from by omega, fixB_leV r]
    congr 1
    rw [show (c.toNat + 256 * leV r) % 256 = c.toNat from by omega]
    simp
theorem fix4_cases (l : List UInt8) : (l.length < 4 ∧ fixR 4 ⟨l, 0⟩ = (⟨l, 5⟩, 0)) ∨ ∃ c r, fixR 4 ⟨l, 0⟩ = (⟨r, 0⟩, c) ∧ l = fixB 4 c ++ r ∧ c < 4294967296 := by
  unfold fixR
  rw [if_neg (by simp), if_neg (by omega)]
  by_cases h : l.length < 4
  · rw [if_pos (by simp only; omega)]; exact .inl ⟨h, rfl⟩
  · rw [if_neg (by simp only; omega)]
    refine .inr ⟨_, _, rfl, ?_⟩
    have e : (l.take 4).length = 4 := by rw [List.length_take]; omega
    have := fixB_leV (l.take 4)
    rw [e] at this
    have hlt := leV_lt (l.take 4)
    rw [e] at hlt
    refine ⟨?_, hlt⟩
    show l = fixB 4 (leV (l.take 4)) ++ l.drop 4
    rw [this, List.take_append_drop]

theorem encR_pos (t : Tx) : 0 < (encR t).length := by
  unfold encR
  rw [List.length_append]
  have := List.length_pos_iff.2 (varF_ne (encT t.1 t.2).length)
  omega
theorem recR_one {l r : List UInt8} {t : Tx} (h : recR l = .inl (t, r)) : okT t.1 t.2 ∧ l = encR t ++ r := by
  unfold recR at h
  rcases textR_cases (show (0 : Int) ≤ 65536 by decide) l with ⟨c, hc, he⟩ | ⟨x, r1, he, hl, hk⟩
  · simp only [he] at h; rw [if_pos hc] at h; cases h
  simp only [he] at h
  rw [if_neg (by simp)] at h
  rcases fix4_cases r1 with ⟨_, he2⟩ | ⟨c, r2, he2, hl2, _⟩
  · simp only [he2] at h; rw [if_pos (by decide)] at h; cases h
  simp only [he2] at h
  rw [if_neg (by simp)] at h
  by_cases hc : c = crcN x
  · rw [if_neg (by simpa using hc)] at h
    split at h
    · cases h
    · rename_i n ws hd
      simp only [Sum.inl.injEq, Prod.mk.injEq] at h
      obtain ⟨rfl, rfl⟩ := h
      obtain ⟨g, e⟩ := decT_one hd
      refine ⟨g, ?_⟩
      rw [hl, hl2, hc]
      unfold encR
      simp only
      rw [← e]
      simp only [List.append_assoc]
  · rw [if_pos hc] at h; cases h
theorem recR_lt {l r : List UInt8} {t : Tx} (h : recR l = .inl (t, r)) : r.length < l.length := by
  obtain ⟨_, e⟩ := recR_one h
  have := encR_pos t
  rw [e, List.length_append]; omega

/-- What is read of bytes as a log, from the i-th record on: the records, the bytes behind them, and why the next one is none. -/
inductive Rd : Nat → List UInt8 → List Tx → List UInt8 → Int → Prop
  | nil (i : Nat) : Rd i [] [] [] 0
  | bad {i : Nat} {l : List UInt8} {e : Int} : l ≠ [] → recR l = .inr e → e ≠ 0 → Rd i l [] l e
  | turn {i : Nat} {l r : List UInt8} {t : Tx} : l ≠ [] → recR l = .inl (t, r) → t.1 ≠ (i : Int) → Rd i l [] l 6
  | step {i : Nat} {l r rem : List UInt8} {t : Tx} {ts : List Tx} {e : Int} : l ≠ [] → recR l = .inl (t, r) → t.1 = (i : Int) → Rd (i + 1) r ts rem e → Rd i l (t :: ts) rem e

theorem rd_sound {i : Nat} {l rem : List UInt8} {ts : List Tx} {e : Int} (h : Rd i l ts rem e) : chkL i ts = 0 ∧ l = encL ts ++ rem ∧ (e = 0 ↔ rem = []) := by
  induction h with
  | nil => exact ⟨rfl, rfl, by simp⟩
  | bad h1 h2 h3 => exact ⟨rfl, rfl, by simp [h1, h3]⟩
  | turn h1 h2 h3 => exact ⟨rfl, rfl, by simp [h1]⟩
  | step h1 h2 h3 h4 ih =>
    obtain ⟨a, b, c⟩ := ih
    obtain ⟨d, f⟩ := recR_one h2
    refine ⟨by rw [chkL, if_pos d, if_pos h3]; exact a, ?_, c⟩
    rw [f, b]; unfold encL; rw [List.flatMap_cons, List.append_assoc]
end Go.Proofs.YtpdegdnigcnjiaaGreatDoor

namespace Go.Proofs.YtpdegdnigcnjiaaGreatDoor
open Go
set_option linter.unusedVariables false
set_option linter.unusedSimpArgs false

/-- A log of one's own. -/
def LogO (sl : Slc) (ts : List Tx) (sls : List Slc) (cs : List Chunk) : Prop := ∀ {w0 : Base} {w : World} {fr : List Chunk}, St w0 (cs ++ fr) w → LAt w sl ts sls
def InR (t : Tx) (s : Slc) (c : List Chunk) : Prop := RowC 3 s (t.2.flatMap wV) c
abbrev rowT (ts : List Tx) (sls : List Slc) : List Value := (ts.zip sls).flatMap fun q => txW q.1.1 q.2
theorem rowT_len {ts : List Tx} {sls : List Slc} (h : sls.length = ts.length) : (rowT ts sls).length = ts.length * 2 := by
  rw [flatMap_len (sz := 2) (fun _ => rfl), List.length_zip, h, Nat.min_self]
structure BldO (ts : List Tx) (p : Nat) (sl : Slc) (sls : List Slc) (tb cs : List Chunk) : Prop where
  row : RowC 2 sl (((ts.take p).zip sls).flatMap fun q => txW q.1.1 q.2) tb
  len : sls.length = p
  ple : p ≤ ts.length
  ps : ∃ cs', cs'.Perm cs ∧ Parts InR (ts.take p) sls cs'
  cp : ∀ s ∈ sls, s.len ≤ s.cap ∧ s.len * 40 ≤ 140737488351232
theorem BldO.wr {ts : List Tx} {p : Nat} {sl : Slc} {sls : List Slc} {tb cs : List Chunk} (o : BldO ts p sl sls tb cs) {w0 : Base} {w : World} {fr : List Chunk} (st : St w0 (cs ++ fr) w) (i : Nat) (t : Tx) (s : Slc) (h1 : ts[i]? = some t) (h2 : sls[i]? = some s) : SrcAt w s 3 (t.2.flatMap wV) := by
  obtain ⟨cs', pm, ps⟩ := o.ps
  have hl := o.len
  have hi := (List.getElem?_eq_some_iff.1 h2).1
  have h1' : (ts.take p)[i]? = some t := by rw [List.getElem?_take_of_lt (by omega)]; exact h1
  obtain ⟨a, c, b, rfl, h⟩ := ps.at_ h1' h2
  have st' : St w0 ((a ++ (c ++ b)) ++ fr) w := st.perm (pm.symm.append_right fr)
  have h : RowC 3 s (t.2.flatMap wV) c := h
  exact h.src (l := a ++ (b ++ fr)) (st'.perm (perm_of_sum fun f_ => by simp <;> omega))
theorem BldO.start (ts : List Tx) : BldO ts 0 ⟨none, 0, 0⟩ [] [] [] := ⟨RowC.nil, rfl, Nat.zero_le _, ⟨[], List.Perm.refl _, by simpa using Parts.nil⟩, fun s h => by simp at h⟩
theorem BldO.add {ts : List Tx} {p : Nat} {sl sl' : Slc} {sls : List Slc} {tb tb' cs rb : List Chunk} {t : Tx} {s : Slc} (o : BldO ts p sl sls tb cs) (ht : ts[p]? = some t) (r : RowC 3 s (t.2.flatMap wV) rb) (hs : s.len * 40 ≤ 140737488351232)
    (row : RowC 2 sl' (((ts.take p).zip sls).flatMap (fun q => txW q.1.1 q.2) ++ txW t.1 s) tb') : BldO ts (p + 1) sl' (sls ++ [s]) tb' (rb ++ cs) := by
  have hpl := (List.getElem?_eq_some_iff.1 ht).1
  have hl := o.len
  refine ⟨?_, by simp [hl], hpl, ?_, fun s' h => ?_⟩
  · have e1 : (ts.take (p + 1)).zip (sls ++ [s]) = (ts.take p).zip sls ++ [(t, s)] := by
      rw [List.take_add_one, ht, List.zip_append (by rw [List.length_take]; omega)]; rfl
    rw [e1, List.flatMap_append]
    exact row
  · obtain ⟨cs', pm, ps⟩ := o.ps
    refine ⟨cs' ++ rb, List.perm_append_comm.trans (pm.append_left rb), ?_⟩
    rw [List.take_add_one, ht]
    exact ps.snoc r
  · rcases List.mem_append.1 h with h | h
    · exact o.cp s' h
    · have : s' = s := by simpa using h
      subst this; exact ⟨r.cap_le, hs⟩
theorem BldO.done {ts : List Tx} {sl : Slc} {sls : List Slc} {tb cs : List Chunk} (o : BldO ts ts.length sl sls tb cs) : LogO sl ts sls (tb ++ cs) := by
  intro w0 w fr st
  have row := o.row
  rw [List.take_length] at row
  have st1 : St w0 (tb ++ (cs ++ fr)) w := st.perm (perm_of_sum fun f_ => by simp <;> omega)
  have st2 : St w0 (cs ++ (tb ++ fr)) w := st.perm (perm_of_sum fun f_ => by simp <;> omega)
  exact ⟨o.len.symm, row.src st1, fun i t s h1 h2 => o.wr st2 i t s h1 h2, o.cp⟩

theorem BldO.parts {ts : List Tx} {sl : Slc} {sls : List Slc} {tb cs : List Chunk} (o : BldO ts ts.length sl sls tb cs) : RowC 2 sl (rowT ts sls) tb ∧ ∃ cs', cs'.Perm cs ∧ Parts InR ts sls cs' := by
  have r := o.row
  have p := o.ps
  rw [List.take_length] at r p
  exact ⟨r, p⟩
end Go.Proofs.YtpdegdnigcnjiaaGreatDoor

namespace Go.Proofs.YtpdegdnigcnjiaaGreatDoor
open Go
set_option linter.unusedVariables false
set_option linter.unusedSimpArgs false

theorem ofString_row {w0 : Base} {w w2 : World} {fr : List Chunk} {T : TypeId} {s : ByteArray} {sl : Slc} (st : St w0 fr w) (h : OfString T s w sl w2) :
    ∃ rb, RowC 1 sl (s.data.toList.map bV) rb ∧ sl.len = s.size ∧ St w0 (rb ++ fr) w2 := by
  obtain ⟨cap, w1, hc, rfl, hw1, hw2⟩ := h
  have hsz : s.data.toList.length = s.size := by simp
  have st1 : St w0 fr w.drew := st.keep (Qt.ext ⟨1, rfl⟩)
  have st2 : St w0 ((w.heap.size, strCells s ++ List.replicate (cap - s.size) (Value.int .u8 0)) :: fr) w1 := st1.alloc rfl hw1
  have hl : (strCells s ++ List.replicate (cap - s.size) (Value.int .u8 0)).length = cap := by
    rw [List.length_append, List.length_replicate]
    show (s.data.toList.map bV).length + _ = _
    rw [List.length_map, hsz]; omega
  have st3 := st2.freeze (w' := w2) (by rw [hl]; exact hw2)
  refine ⟨[(w.heap.size, strCells s ++ List.replicate (cap - s.size) (Value.int .u8 0))], .inr ⟨w.heap.size, [], List.replicate (cap - s.size) (Value.int .u8 0), [], rfl, ?_, ?_, ?_, hc⟩, rfl, st3⟩
  · simp; rfl
  · rw [List.length_map, hsz]; simp
  · rw [List.length_replicate]; simp [hsz]; try omega
end Go.Proofs.YtpdegdnigcnjiaaGreatDoor

namespace Go.Proofs.YtpdegdnigcnjiaaGreatDoor
open Go
set_option linter.unusedVariables false
set_option linter.unusedSimpArgs false

section
variable {B : Base} {w : World} {fr : List Chunk}
set_option maxHeartbeats 1000000 in
theorem sp_records_1 {yv : Value} {tb1 tb2 b3 : Nat} {b_ : Slc} {xs : List UInt8} {R : World → Prop} (K : List UInt8 → List Chunk → Prop) (X0 : List Chunk) (hX0 : K xs X0) (hl : b_.len = xs.length) (hlen : xs.length ≤ 140737488351232)
    (hb : ∀ l w', St B (l ++ ((tb1, [Value.slice b_.ptr b_.len b_.cap]) :: (tb2, [Value.pointer (some ⟨b3, 0, none⟩)]) :: (b3, [iV 0]) :: fr)) w' → SrcAt w' b_ 1 (xs.map bV))
    (st : St B (X0 ++ ((tb1, [Value.slice b_.ptr b_.len b_.cap]) :: (tb2, [Value.pointer (some ⟨b3, 0, none⟩)]) :: (b3, [iV 0]) :: fr)) w)
    (step : ∀ rest rest' t s rb X d w', K rest X → recR rest = .inl (t, rest') → rest ≠ [] → RowC 3 s (t.2.flatMap wV) rb → s.len = t.2.length →
      St B (rb ++ (X ++ (d ++ ((tb1, [Value.slice b_.ptr b_.len b_.cap]) :: (tb2, [Value.pointer (some ⟨b3, 0, none⟩)]) :: (b3, [iV 0]) :: fr)))) w' →
      CallsY (P := Tryz.prog) yv #[iV ((xs.length - rest'.length : Nat) : Int), Value.agg #[iV t.1, Value.slice s.ptr s.len s.cap]] w' (fun e w'' => ∃ b, e = .returned (.bool b) ∧
        (b = true → ∃ X', K rest' X' ∧ St B (X' ++ (d ++ ((tb1, [Value.slice b_.ptr b_.len b_.cap]) :: (tb2, [Value.pointer (some ⟨b3, 0, none⟩)]) :: (b3, [iV 0]) :: fr))) w'') ∧ (b = false → R w'')))
    (bad : ∀ rest e X d w', rest ≠ [] → K rest X → recR rest = .inr e → e ≠ 0 → St B ((b3, [iV e]) :: (X ++ (d ++ fr))) w' → R w')
    (fin : ∀ X d w', K [] X → St B ((b3, [iV 0]) :: (X ++ (d ++ fr))) w' → R w') : C_logfile_records_1 yv (some ⟨tb1, 0, none⟩) (some ⟨tb2, 0, none⟩) w R := by
  apply S_logfile_records_1
  unfold F_logfile_records_1
  refine ⟨rfl, b_, st.drop.cell 0 rfl rfl, sp_NewReader st (hb X0 w st) (by omega) fun rd bsR w1 oR st1 => ⟨rfl, b_, st1.drop.drop.cell 0 rfl rfl, ?_⟩⟩
  refine ⟨fun left w' => ∃ (rest : List UInt8) (X bsR : List Chunk), left = (rest.length : Int) ∧ rest.length ≤ xs.length ∧ K rest X ∧ RdO rd ⟨rest, 0⟩ bsR ∧ St B (bsR ++ (X ++ ((tb1, [Value.slice b_.ptr b_.len b_.cap]) :: (tb2, [Value.pointer (some ⟨b3, 0, none⟩)]) :: (b3, [iV 0]) :: fr))) w', fun left _ => left.toNat,
    ⟨xs, X0, bsR, by omega, Nat.le_refl _, hX0, oR, st1⟩, ?_⟩
  clear oR st1 st hX0
  rintro left w2 ⟨rest, X, bsR, rfl, hrl, hK, oR, st2⟩
  unfold F_logfile_records_1_L0
  refine ⟨fun hi => ?_, fun hi => ?_⟩
  rotate_left
  · have hi := of_decide_eq_false hi
    have : rest = [] := List.eq_nil_of_length_eq_zero (by omega)
    subst this
    exact fin X (bsR ++ [(tb1, [Value.slice b_.ptr b_.len b_.cap]), (tb2, [Value.pointer (some ⟨b3, 0, none⟩)])]) w2 hK (st2.perm (perm_of_sum fun f_ => by simp <;> omega))
  have hi := of_decide_eq_true hi
  have hne : rest ≠ [] := fun h => by subst h; simp at hi
  -- a record that is none
  have fail : ∀ {e : Int} {s : Slc} {v25 : Int} {s0 : RS} {bsR d : List Chunk} {w7 : World}, recR rest = .inr e → e ≠ 0 → RdO rd s0 bsR → s0.end_ = e →
      St B (bsR ++ (d ++ (X ++ ((tb1, [Value.slice b_.ptr b_.len b_.cap]) :: (tb2, [Value.pointer (some ⟨b3, 0, none⟩)]) :: (b3, [iV 0]) :: fr)))) w7 → ∀ again, F_logfile_records_1_k1 yv (some ⟨tb1, 0, none⟩) (some ⟨tb2, 0, none⟩) R rd again s v25 true w7 := by
    intro e s v25 s0 bsR d w7 hr he oR hend st again
    unfold F_logfile_records_1_k1
    refine ⟨fun _ => fun w8 hw8 => ?_, fun h => (by cases h)⟩
    have st8 := st.drew hw8
    refine ⟨rfl, some ⟨b3, 0, none⟩, st8.drop.drop.drop.cell 1 rfl rfl, e, sp_Reader_End st8 oR ⟨hend, rfl⟩, rfl, ?_⟩
    have st9 : St B ((b3, [iV 0]) :: (X ++ ((bsR ++ (d ++ [(tb1, [Value.slice b_.ptr b_.len b_.cap]), (tb2, [Value.pointer (some ⟨b3, 0, none⟩)])])) ++ fr))) w8 := st8.perm (perm_of_sum fun f_ => by simp <;> omega)
    refine ⟨st9.writable 0 rfl (by show 0 + 1 ≤ 1; omega), fun w10 hw10 => ?_⟩
    exact bad rest e X _ w10 hne hK hr he (st9.put0 (o := 0) hw10)
  refine sp_Reader_Text st2 oR (by omega) (by omega) (by show rest.length ≤ _; omega) fun bsR w3 oR st3 s w4 hs => ?_
  obtain ⟨sb, rs, hsl, st4⟩ := ofString_row st3 hs
  rw [mkS_toList] at rs
  have st4 : St B (bsR ++ (sb ++ (X ++ ((tb1, [Value.slice b_.ptr b_.len b_.cap]) :: (tb2, [Value.pointer (some ⟨b3, 0, none⟩)]) :: (b3, [iV 0]) :: fr)))) w4 := st4.perm (perm_of_sum fun f_ => by simp <;> omega)
  have hrec : recR rest = _ := rfl
  conv at hrec => rhs; unfold recR
  refine sp_Reader_Left st4 oR ?_
  refine sp_Reader_Fixed st4 oR fun bsR w6 oR st6 => ?_
  rcases textR_cases (show (0 : Int) ≤ 65536 by decide) rest with ⟨c, hc, he⟩ | ⟨x, r1, he, hr, hxl⟩
  · -- the text is none
    simp only [he] at oR hrec rs ⊢
    rw [if_pos hc] at hrec
    have hf : fixR 4 ⟨rest, c⟩ = (⟨rest, c⟩, 0) := by unfold fixR; rw [if_pos hc]
    rw [hf] at oR ⊢
    refine ⟨fun _ => fail hrec hc oR ?_ st6 _, fun h => by simp at h⟩
    unfold RS.end_; rw [if_neg (fun hh => hc hh.1)]
  simp only [he] at oR hrec rs hsl ⊢
  rw [if_neg (by simp)] at hrec
  rw [mkS_size] at hsl
  have hlt : r1.length < rest.length := by
    have := List.length_pos_iff.2 (varF_ne x.length)
    rw [hr, List.length_append, List.length_append]; omega
  refine ⟨fun h => absurd (show (r1.length : Int) = (rest.length : Int) by simpa using h) (by omega), fun _ => ?_⟩
  refine sp_Reader_Left st6 oR ?_
  rcases fix4_cases r1 with ⟨_, he2⟩ | ⟨c, r2, he2, hr2, hc4⟩
  · simp only [he2] at oR hrec ⊢
    rw [if_pos (by decide)] at hrec
    have ed : (((r1.length : Nat) : Int) == ((r1.length : Nat) : Int)) = true := by simp
    rw [ed]
    refine fail hrec (by decide) oR ?_ st6 _
    unfold RS.end_; rw [if_neg (fun hh => absurd hh.1 (by show ¬ (5 : Int) = 0; decide))]
  simp only [he2] at oR hrec ⊢
  rw [if_neg (by simp)] at hrec
  have hlt2 : r2.length < r1.length := by rw [hr2, List.length_append, fixB_len]; omega
  have ed : (((r2.length : Nat) : Int) == ((r1.length : Nat) : Int)) = false := by
    have : ((r2.length : Nat) : Int) ≠ ((r1.length : Nat) : Int) := by omega
    simpa using this
  rw [ed]
  unfold F_logfile_records_1_k1
  refine ⟨fun h => (by cases h), fun _ => ?_⟩
  have st6b : St B (sb ++ (bsR ++ (X ++ ((tb1, [Value.slice b_.ptr b_.len b_.cap]) :: (tb2, [Value.pointer (some ⟨b3, 0, none⟩)]) :: (b3, [iV 0]) :: fr)))) w6 := st6.perm (perm_of_sum fun f_ => by simp <;> omega)
  refine sp_sum_CRC (rs.src st6b) (by omega) fun w11 e11 => ?_
  have st11 := st6b.keep e11
  -- an answer that is no record
  have fail2 : ∀ {e : Int} {d : List Chunk} {w' : World}, recR rest = .inr e → e ≠ 0 → St B (d ++ (X ++ ((tb1, [Value.slice b_.ptr b_.len b_.cap]) :: (tb2, [Value.pointer (some ⟨b3, 0, none⟩)]) :: (b3, [iV 0]) :: fr))) w' →
      IsAt (some ⟨tb2, 0, none⟩) ∧ ∃ v44 : Option Addr, w'.cell? ⟨tb2, 0, none⟩ = some (Value.pointer v44) ∧ IsAt v44 ∧ Writable w' (pblk v44) (poff v44) 1 ∧ ∀ w12, w12 = World.puts (pblk v44) (poff v44) [Value.int .i64 e] w' → R w12 := by
    intro e d w' hr he st
    have st9 : St B ((b3, [iV 0]) :: (X ++ ((d ++ [(tb1, [Value.slice b_.ptr b_.len b_.cap]), (tb2, [Value.pointer (some ⟨b3, 0, none⟩)])]) ++ fr))) w' := st.perm (perm_of_sum fun f_ => by simp <;> omega)
    refine ⟨rfl, some ⟨b3, 0, none⟩, st.drop.drop.cell 1 rfl rfl, rfl, st9.writable 0 rfl (by show 0 + 1 ≤ 1; omega), fun w12 hw12 => ?_⟩
    exact bad rest e X _ w12 hne hK hr he (st9.put0 (o := 0) hw12)
  have wu : IntKind.u32.wrap ((c : Nat) : Int) = (c : Int) := by rw [wrap_u32]; omega
  rw [wu]
  refine ⟨fun h => ?_, fun h => ?_⟩
  · have h : ((c : Nat) : Int) ≠ ((crcN x : Nat) : Int) := bne_iff_ne.1 h
    have h : c ≠ crcN x := fun e => h (by rw [e])
    rw [if_pos h] at hrec
    exact fail2 (d := sb ++ bsR) hrec (by decide) (st11.perm (perm_of_sum fun f_ => by simp <;> omega))
  have h : c = crcN x := by
    have : ((c : Nat) : Int) = ((crcN x : Nat) : Int) := bne_eq_false_iff_eq.1 h
    omega
  rw [if_neg (fun hh => hh h)] at hrec
  refine sp_Decode st11 (rs.src st11) (by omega) (fun e hd hne2 w13 st13 b w14 hb14 hw14 => ?_) (fun n ws hd s' rb w13 ro st13 b w14 hb14 hw14 => ?_)
  · have st14 := st13.alloc (cs := txW 0 ⟨none, 0, 0⟩) hb14 hw14
    rw [hd] at hrec
    refine ⟨st14.writable 0 rfl (by decide), fun w15 hw15 => ⟨fun _ => ?_, fun h => absurd (show e = 0 by simpa using h) hne2⟩⟩
    have st15 : St B ((b, txW 0 ⟨none, 0, 0⟩) :: (sb ++ (bsR ++ (X ++ ((tb1, [Value.slice b_.ptr b_.len b_.cap]) :: (tb2, [Value.pointer (some ⟨b3, 0, none⟩)]) :: (b3, [iV 0]) :: fr))))) w15 := st14.put0 hw15
    exact fail2 (d := (b, txW 0 ⟨none, 0, 0⟩) :: (sb ++ bsR)) hrec hne2 (st15.perm (perm_of_sum fun f_ => by simp <;> omega))
  rw [hd] at hrec
  simp only at hrec
  have st14 := st13.alloc (cs := txW 0 ⟨none, 0, 0⟩) hb14 hw14
  refine ⟨st14.writable 0 rfl (by decide), fun w15 hw15 => ⟨fun h => by simp at h, fun _ => fun w17 hw17 => ?_⟩⟩
  have st15 : St B ((b, txW (n : Int) s') :: (rb ++ (sb ++ (bsR ++ (X ++ ((tb1, [Value.slice b_.ptr b_.len b_.cap]) :: (tb2, [Value.pointer (some ⟨b3, 0, none⟩)]) :: (b3, [iV 0]) :: fr)))))) w15 := st14.put0 hw15
  have st17 := st15.drew hw17
  have hs'l : s'.len = ws.length := wr_len (ro.src st17.drop1)
  have st17r : St B (bsR ++ (rb ++ (X ++ ((tb1, [Value.slice b_.ptr b_.len b_.cap]) :: (tb2, [Value.pointer (some ⟨b3, 0, none⟩)]) :: (b3, [iV 0]) :: fr)))) w17 := st17.weak ((b, txW (n : Int) s') :: sb) (perm_of_sum fun f_ => by simp <;> omega)
  refine ⟨rfl, b_, st17r.drop.drop.drop.cell 0 rfl rfl, (r2.length : Int), sp_Reader_Left st17r oR ⟨rfl, rfl⟩, ⟨(n : Int), s'⟩, ⟨st17.cell 0 rfl rfl, st17.cell 0 rfl rfl, trivial⟩, ?_⟩
  have wl : IntKind.i64.wrap (((b_.len : Nat) : Int) - ((r2.length : Nat) : Int)) = ((xs.length - r2.length : Nat) : Int) := by rw [i64_in _ (by omega) (by omega)]; omega
  rw [wl]
  have stS : St B (rb ++ (X ++ (bsR ++ ((tb1, [Value.slice b_.ptr b_.len b_.cap]) :: (tb2, [Value.pointer (some ⟨b3, 0, none⟩)]) :: (b3, [iV 0]) :: fr)))) w17 := st17r.perm (perm_of_sum fun f_ => by simp <;> omega)
  refine CallsY.mono (step rest r2 ((n : Int), ws) s' rb X bsR w17 hK hrec hne ro hs'l stS) ?_
  rintro e w19 ⟨bb, rfl, h1, h2⟩
  refine ⟨bb, rfl, fun h => h2 (by simpa using h), fun h => ?_⟩
  obtain ⟨X', hK', st19⟩ := h1 (by simpa using h)
  have st19 : St B (bsR ++ (X' ++ ((tb1, [Value.slice b_.ptr b_.len b_.cap]) :: (tb2, [Value.pointer (some ⟨b3, 0, none⟩)]) :: (b3, [iV 0]) :: fr))) w19 := st19.perm (perm_of_sum fun f_ => by simp <;> omega)
  refine sp_Reader_Left st19 oR ?_
  exact ⟨⟨r2, X', bsR, rfl, by omega, hK', oR, st19⟩, by simp only [Int.toNat_natCast]; omega⟩
end
end Go.Proofs.YtpdegdnigcnjiaaGreatDoor

namespace Go.Proofs.YtpdegdnigcnjiaaGreatDoor
open Go
set_option linter.unusedVariables false
set_option linter.unusedSimpArgs false

theorem BldO.wide {ts : List Tx} {sl : Slc} {sls : List Slc} {tb cs : List Chunk} (o : BldO ts ts.length sl sls tb cs) (t : Tx) : BldO (ts ++ [t]) ts.length sl sls tb cs := by
  have hl := o.len
  refine ⟨?_, o.len, by simp, ?_, o.cp⟩
  · have r := o.row
    rw [List.take_length] at r
    rw [List.take_append_of_le_length (Nat.le_refl _), List.take_length]
    exact r
  · have r := o.ps
    rw [List.take_length] at r
    rw [List.take_append_of_le_length (Nat.le_refl _), List.take_length]
    exact r
theorem BldO.snoc {ts : List Tx} {sl sl' : Slc} {sls : List Slc} {tb tb' cs rb : List Chunk} {t : Tx} {s : Slc} (o : BldO ts ts.length sl sls tb cs) (r : RowC 3 s (t.2.flatMap wV) rb) (hs : s.len * 40 ≤ 140737488351232)
    (row : RowC 2 sl' (((ts.take ts.length).zip sls).flatMap (fun q => txW q.1.1 q.2) ++ txW t.1 s) tb') : BldO (ts ++ [t]) (ts ++ [t]).length sl' (sls ++ [s]) tb' (rb ++ cs) := by
  have e : (ts ++ [t]).length = ts.length + 1 := by simp
  rw [e]
  refine (o.wide t).add (by rw [List.getElem?_append_right (Nat.le_refl _)]; simp) r hs ?_
  rw [List.take_append_of_le_length (Nat.le_refl _)]
  exact row

section
variable {w0 : Base} {w : World} {fr : List Chunk}
set_option maxHeartbeats 1000000 in
theorem sp_lf_ReadB {b_ : Slc} {xs : List UInt8} {R : Slc → Int → Int → World → Prop} (st : St w0 fr w) (hs : ∀ B l w', B.w = w0.w → St B (l ++ fr) w' → SrcAt w' b_ 1 (xs.map bV)) (hl : b_.len ≤ 140737488351232)
    (k : ∀ ts rem e sl sls tb cs w', Rd 1 xs ts rem e → BldO ts ts.length sl sls tb cs → St w0 ((tb ++ cs) ++ fr) w' → R sl ((xs.length - rem.length : Nat) : Int) e w') : C_logfile_Read b_ w R := by
  apply S_logfile_Read
  unfold F_logfile_Read
  have hxl := (hs w0 [] w rfl st).len_eq
  intro b1 w1 hb1 hw1 b2 w2 hb2 hw2 b3 w3 hb3 hw3
  have st3 : St w0 ((b3, [iV 0]) :: (b2, [iV 0]) :: (b1, [slV ⟨none, 0, 0⟩]) :: fr) w3 := ((st.alloc (cs := [slV ⟨none, 0, 0⟩]) hb1 hw1).alloc (cs := [iV 0]) hb2 hw2).alloc (cs := [iV 0]) hb3 hw3
  apply S_logfile_records
  unfold F_logfile_records
  intro t1 w4 ht1 hw4 t2 w5 ht2 hw5
  have st5 : St w0 ((t2, [Value.pointer (some ⟨b3, 0, none⟩)]) :: (t1, [Value.slice b_.ptr b_.len b_.cap]) :: (b3, [iV 0]) :: (b2, [iV 0]) :: (b1, [slV ⟨none, 0, 0⟩]) :: fr) w5 := (st3.alloc (cs := [Value.slice b_.ptr b_.len b_.cap]) ht1 hw4).alloc (cs := [Value.pointer (some ⟨b3, 0, none⟩)]) ht2 hw5
  intro rec D w6 hD hw6 hB
  have hsz : (w5.alloc (.deferred (some []))).heap.size = D + 1 := by rw [hD]; exact World.size_alloc ..
  have st6 := (st5.newObj hD (w' := w5.alloc (.deferred (some []))) rfl (fun _ _ _ h => by cases h)).newObj (b := D + 1) (o := .loop (rec .ready none)) hsz.symm hw6 (fun _ _ _ h => by cases h)
  let Bs : LoopState → Option Code → Base := fun sa pe => ⟨w0.w, (D + 1, .loop (rec sa pe)) :: (D, .deferred (some [])) :: w0.mp⟩
  let Z : LoopState → Option Code → World → Prop := fun sa pe W => ∃ ts rem e own sls tb cs d, Rd 1 xs ts rem e ∧ BldO ts ts.length own sls tb cs ∧ St (Bs sa pe) ((b3, [iV e]) :: (b1, [slV own]) :: (b2, [iV ((xs.length - rem.length : Nat) : Int)]) :: (tb ++ (cs ++ (d ++ fr)))) W
  let K : List UInt8 → List Chunk → Prop := fun rest X => ∃ ts own sls tb cs, (∀ ts' rem e, Rd (ts.length + 1) rest ts' rem e → Rd 1 xs (ts ++ ts') rem e) ∧ BldO ts ts.length own sls tb cs ∧ own.len = ts.length ∧ ts.length ≤ 65536 ∧ X = (b1, [slV own]) :: (b2, [iV ((xs.length - rest.length : Nat) : Int)]) :: (tb ++ cs)
  refine CallsV.mk (all := #[yieldV (D + 1), Value.pointer (some ⟨t1, 0, none⟩), Value.pointer (some ⟨t2, 0, none⟩)]) (by kernel_rfl) rfl ?_
  have hfin : ∀ w', (Z .ready none w' ∨ Z .done (some .ret) w') → ∃ st_ pe_, w'.heap[D + 1]? = some (.loop (rec st_ pe_)) ∧ st_ ≠ .busy ∧ ∀ w23, w23 = w'.putObj (D + 1) (.loop (rec .exhausted pe_)) → (((pe_ = none) ∧ (F_logfile_Read_A2 R b1 b2 b3 D w23)) ∨
      (pe_ = some .ret ∧ (w23.heap[D]? = some (.deferred (some [])) ∧ (∀ w29, w29 = w23.putObj D (.deferred none) → (∃ (res3 : Slc), CellsAt w29 b1 0 [Value.slice res3.ptr res3.len res3.cap] ∧ (∃ (res4 : Int), CellsAt w29 b2 0 [Value.int .i64 res4] ∧ (∃ (res5 : Int), CellsAt w29 b3 0 [Value.int .i64 res5] ∧ (R res3 res4 res5 w29)))))))) := by
    have last : ∀ {pe : Option Code} {ts : List Tx} {rem : List UInt8} {e : Int} {own : Slc} {sls : List Slc} {tb cs d : List Chunk} {w23 : World}, Rd 1 xs ts rem e → BldO ts ts.length own sls tb cs →
        St (Bs .exhausted pe) ((b3, [iV e]) :: (b1, [slV own]) :: (b2, [iV ((xs.length - rem.length : Nat) : Int)]) :: (tb ++ (cs ++ (d ++ fr)))) w23 →
        (w23.heap[D]? = some (.deferred (some [])) ∧ (∀ w29, w29 = w23.putObj D (.deferred none) → (∃ (res3 : Slc), CellsAt w29 b1 0 [Value.slice res3.ptr res3.len res3.cap] ∧ (∃ (res4 : Int), CellsAt w29 b2 0 [Value.int .i64 res4] ∧ (∃ (res5 : Int), CellsAt w29 b3 0 [Value.int .i64 res5] ∧ (R res3 res4 res5 w29)))))) := by
      intro pe ts rem e own sls tb cs d w23 hr o stz
      refine ⟨stz.objAt 1 rfl, fun w29 hw29 => ?_⟩
      have st29 := St.turn (a := [(D + 1, .loop (rec .exhausted pe))]) (b := w0.mp) (W := w0.w) (o := .deferred (some [])) stz hw29 (o' := .deferred none) (fun _ _ _ h => by cases h)
      have st30 : St w0 ((b3, [iV e]) :: (b1, [slV own]) :: (b2, [iV ((xs.length - rem.length : Nat) : Int)]) :: (tb ++ (cs ++ (d ++ fr)))) w29 := St.forget (a := [(D + 1, .loop (rec .exhausted pe)), (D, .deferred none)]) (b := w0.mp) (W := w0.w) st29
      refine ⟨own, ⟨st30.cell 1 rfl rfl, trivial⟩, _, ⟨st30.cell 2 rfl rfl, trivial⟩, e, ⟨st30.cell 0 rfl rfl, trivial⟩, ?_⟩
      have st31 : St w0 ((tb ++ cs) ++ fr) w29 := st30.weak ((b3, [iV e]) :: (b1, [slV own]) :: (b2, [iV ((xs.length - rem.length : Nat) : Int)]) :: d) (perm_of_sum fun f_ => by simp <;> omega)
      exact k ts rem e own sls tb cs w29 hr o st31
    rintro w' (h | h)
    · obtain ⟨ts, rem, e, own, sls, tb, cs, d, hr, o, stz⟩ := h
      refine ⟨.ready, none, stz.objAt 0 rfl, by simp, fun w23 hw23 => .inl ⟨rfl, ?_⟩⟩
      have st23 := St.turn (a := []) stz hw23 (o' := .loop (rec .exhausted none)) (fun _ _ _ h => by cases h)
      unfold F_logfile_Read_A2
      intro w24 hw24
      have st24 : St (Bs .exhausted none) ((b1, [slV own]) :: (b2, [iV ((xs.length - rem.length : Nat) : Int)]) :: (b3, [iV e]) :: (tb ++ (cs ++ (d ++ fr)))) w24 := (st23.drew hw24).perm (perm_of_sum fun f_ => by simp <;> omega)
      refine ⟨own, st24.cell 0 rfl rfl, _, st24.cell 1 rfl rfl, e, st24.cell 2 rfl rfl, st24.writable 0 rfl (by show 0 + 1 ≤ 1; omega), fun w25 hw25 => ?_⟩
      have st25 : St (Bs .exhausted none) ((b1, [slV own]) :: (b2, [iV ((xs.length - rem.length : Nat) : Int)]) :: (b3, [iV e]) :: (tb ++ (cs ++ (d ++ fr)))) w25 := st24.put0 hw25
      have st25 : St (Bs .exhausted none) ((b2, [iV ((xs.length - rem.length : Nat) : Int)]) :: (b3, [iV e]) :: (b1, [slV own]) :: (tb ++ (cs ++ (d ++ fr)))) w25 := st25.perm (perm_of_sum fun f_ => by simp <;> omega)
      refine ⟨st25.cell 1 rfl rfl, st25.cell 0 rfl rfl, st25.writable 0 rfl (by show 0 + 1 ≤ 1; omega), fun w26 hw26 => ?_⟩
      have st26 : St (Bs .exhausted none) ((b2, [iV ((xs.length - rem.length : Nat) : Int)]) :: (b3, [iV e]) :: (b1, [slV own]) :: (tb ++ (cs ++ (d ++ fr)))) w26 := st25.put0 hw26
      have st26 : St (Bs .exhausted none) ((b3, [iV e]) :: (b1, [slV own]) :: (b2, [iV ((xs.length - rem.length : Nat) : Int)]) :: (tb ++ (cs ++ (d ++ fr)))) w26 := st26.perm (perm_of_sum fun f_ => by simp <;> omega)
      refine ⟨st26.cell 0 rfl rfl, st26.writable 0 rfl (by show 0 + 1 ≤ 1; omega), fun w27 hw27 => ?_⟩
      have st27 : St (Bs .exhausted none) ((b3, [iV e]) :: (b1, [slV own]) :: (b2, [iV ((xs.length - rem.length : Nat) : Int)]) :: (tb ++ (cs ++ (d ++ fr)))) w27 := st26.put0 hw27
      exact last hr o st27
    · obtain ⟨ts, rem, e, own, sls, tb, cs, d, hr, o, stz⟩ := h
      refine ⟨.done, some .ret, stz.objAt 0 rfl, by simp, fun w23 hw23 => .inr ⟨rfl, ?_⟩⟩
      have st23 := St.turn (a := []) stz hw23 (o' := .loop (rec .exhausted (some .ret))) (fun _ _ _ h => by cases h)
      exact last hr o st23
  have hsB : ∀ l w', St (Bs .ready none) (l ++ fr) w' → SrcAt w' b_ 1 (xs.map bV) := fun l w' st' => hs (Bs .ready none) l w' rfl st'
  refine Calls.mono (sp_records_1 (yv := yieldV (D + 1)) (tb1 := t1) (tb2 := t2) (b3 := b3) (b_ := b_) (xs := xs) (R := fun w' => Z .ready none w' ∨ Z .done (some .ret) w') (B := Bs .ready none) (fr := fr) K [(b1, [slV ⟨none, 0, 0⟩]), (b2, [iV 0])]
    ⟨[], ⟨none, 0, 0⟩, [], [], [], fun ts' rem e h => h, BldO.start [], rfl, by simp, by rw [Nat.sub_self]; rfl⟩ hxl (by omega) (fun l w' st' => ?_) (st6.perm (perm_of_sum fun f_ => by simp <;> omega)) ?_ ?_ ?_) ?_
  · exact hsB (l ++ [(t1, [Value.slice b_.ptr b_.len b_.cap]), (t2, [Value.pointer (some ⟨b3, 0, none⟩)]), (b3, [iV 0])]) w' (by rw [List.append_assoc]; exact st')
  · rintro rest rest' t s rb X d w' ⟨ts, own, sls, tb, cs, hrd, o, hol, hol2, rfl⟩ hrec hne rs hsl stJ
    have hlt := recR_lt hrec
    obtain ⟨hok, _⟩ := recR_one hrec
    refine CallsY.mono (hB ((xs.length - rest'.length : Nat) : Int) ⟨t.1, s⟩ w' (fun bb W => (bb = true → ∃ X', K rest' X' ∧ St (Bs .ready none) (X' ++ (d ++ ((t1, [Value.slice b_.ptr b_.len b_.cap]) :: (t2, [Value.pointer (some ⟨b3, 0, none⟩)]) :: (b3, [iV 0]) :: fr))) W) ∧ (bb = false → (Z .ready none W ∨ Z .done (some .ret) W)))
      (stJ.objAt 0 rfl) ?_) (fun e W h => h)
    unfold F_logfile_Read_S1
    intro b4 w8 hb4 hw8
    have st8 := stJ.alloc (cs := txW 0 ⟨none, 0, 0⟩) hb4 hw8
    refine ⟨st8.writable 0 rfl (by decide), fun w9 hw9 => ?_⟩
    have st9 : St (Bs .ready none) ((b4, txW t.1 s) :: (rb ++ (((b1, [slV own]) :: (b2, [iV ((xs.length - rest.length : Nat) : Int)]) :: (tb ++ cs)) ++ (d ++ ((t1, [Value.slice b_.ptr b_.len b_.cap]) :: (t2, [Value.pointer (some ⟨b3, 0, none⟩)]) :: (b3, [iV 0]) :: fr))))) w9 := st8.put0 hw9
    refine ⟨st9.objAt 0 rfl, fun w10 hw10 => ?_⟩
    have st10 := St.turn (a := []) st9 hw10 (o' := .loop (rec .busy none)) (fun _ _ _ h => by cases h)
    have st10 : St (Bs .busy none) ((b4, txW t.1 s) :: (b1, [slV own]) :: (b2, [iV ((xs.length - rest.length : Nat) : Int)]) :: (b3, [iV 0]) :: (tb ++ (rb ++ (cs ++ (d ++ ((t1, [Value.slice b_.ptr b_.len b_.cap]) :: (t2, [Value.pointer (some ⟨b3, 0, none⟩)]) :: fr)))))) w10 := st10.perm (perm_of_sum fun f_ => by simp <;> omega)
    unfold F_logfile_Read_B0
    have hn1 := hok.1
    have hn2 := hok.2.1
    have hoc := o.row.cap_le
    refine ⟨t.1, st10.cell 0 rfl rfl, own, st10.cell 1 rfl rfl, ?_, ?_⟩
    · intro hneq w11 hw11
      have hneq : t.1 ≠ IntKind.i64.wrap (((own.len : Nat) : Int) + 1) := bne_iff_ne.1 hneq
      have st11 : St (Bs .busy none) ((b1, [slV own]) :: (b2, [iV ((xs.length - rest.length : Nat) : Int)]) :: (b3, [iV 0]) :: ((b4, txW t.1 s) :: (tb ++ (rb ++ (cs ++ (d ++ ((t1, [Value.slice b_.ptr b_.len b_.cap]) :: (t2, [Value.pointer (some ⟨b3, 0, none⟩)]) :: fr))))))) w11 := (st10.drew hw11).perm (perm_of_sum fun f_ => by simp <;> omega)
      refine ⟨own, st11.cell 0 rfl rfl, _, st11.cell 1 rfl rfl, st11.writable 0 rfl (by show 0 + 1 ≤ 1; omega), fun w12 hw12 => ?_⟩
      have st12 : St (Bs .busy none) ((b1, [slV own]) :: (b2, [iV ((xs.length - rest.length : Nat) : Int)]) :: (b3, [iV 0]) :: ((b4, txW t.1 s) :: (tb ++ (rb ++ (cs ++ (d ++ ((t1, [Value.slice b_.ptr b_.len b_.cap]) :: (t2, [Value.pointer (some ⟨b3, 0, none⟩)]) :: fr))))))) w12 := st11.put0 hw12
      have st12 : St (Bs .busy none) ((b2, [iV ((xs.length - rest.length : Nat) : Int)]) :: (b3, [iV 0]) :: (b1, [slV own]) :: ((b4, txW t.1 s) :: (tb ++ (rb ++ (cs ++ (d ++ ((t1, [Value.slice b_.ptr b_.len b_.cap]) :: (t2, [Value.pointer (some ⟨b3, 0, none⟩)]) :: fr))))))) w12 := st12.perm (perm_of_sum fun f_ => by simp <;> omega)
      refine ⟨st12.cell 0 rfl rfl, st12.writable 0 rfl (by show 0 + 1 ≤ 1; omega), fun w13 hw13 => ?_⟩
      have st13 : St (Bs .busy none) ((b2, [iV ((xs.length - rest.length : Nat) : Int)]) :: (b3, [iV 0]) :: (b1, [slV own]) :: ((b4, txW t.1 s) :: (tb ++ (rb ++ (cs ++ (d ++ ((t1, [Value.slice b_.ptr b_.len b_.cap]) :: (t2, [Value.pointer (some ⟨b3, 0, none⟩)]) :: fr))))))) w13 := st12.put0 hw13
      have st13 : St (Bs .busy none) ((b3, [iV 0]) :: (b1, [slV own]) :: (b2, [iV ((xs.length - rest.length : Nat) : Int)]) :: ((b4, txW t.1 s) :: (tb ++ (rb ++ (cs ++ (d ++ ((t1, [Value.slice b_.ptr b_.len b_.cap]) :: (t2, [Value.pointer (some ⟨b3, 0, none⟩)]) :: fr))))))) w13 := st13.perm (perm_of_sum fun f_ => by simp <;> omega)
      refine ⟨st13.writable 0 rfl (by show 0 + 1 ≤ 1; omega), fun w14 hw14 => ?_⟩
      have st14 : St (Bs .busy none) ((b3, [iV 6]) :: (b1, [slV own]) :: (b2, [iV ((xs.length - rest.length : Nat) : Int)]) :: ((b4, txW t.1 s) :: (tb ++ (rb ++ (cs ++ (d ++ ((t1, [Value.slice b_.ptr b_.len b_.cap]) :: (t2, [Value.pointer (some ⟨b3, 0, none⟩)]) :: fr))))))) w14 := st13.put0 hw14
      refine ⟨st14.objAt 0 rfl, fun w15 hw15 => ⟨fun h => (by cases h), fun _ => .inr ?_⟩⟩
      have st15 := St.turn (a := []) st14 hw15 (o' := .loop (rec .done (some .ret))) (fun _ _ _ h => by cases h)
      have hrd' : Rd 1 xs (ts ++ []) rest 6 := hrd [] rest 6 (Rd.turn hne hrec (fun e => hneq (by
        have hcast : ((ts.length + 1 : Nat) : Int) = ((own.len : Nat) : Int) + 1 := by omega
        rw [i64_in _ (by omega) (by omega), ← hcast]; exact e)))
      rw [List.append_nil] at hrd'
      refine ⟨ts, rest, 6, own, sls, tb, cs, (b4, txW t.1 s) :: (rb ++ (d ++ [(t1, [Value.slice b_.ptr b_.len b_.cap]), (t2, [Value.pointer (some ⟨b3, 0, none⟩)])])), hrd', o, ?_⟩
      exact st15.perm (perm_of_sum fun f_ => by simp <;> omega)
    · intro heq
      have heq : t.1 = IntKind.i64.wrap (((own.len : Nat) : Int) + 1) := bne_eq_false_iff_eq.1 heq
      have heq : t.1 = ((ts.length + 1 : Nat) : Int) := by rw [heq, i64_in _ (by omega) (by omega)]; omega
      refine ⟨own, st10.cell 1 rfl rfl, ⟨t.1, s⟩, ⟨st10.cell 0 rfl rfl, st10.cell 0 rfl rfl, trivial⟩, fun b5 w15 hb5 hw15 => ?_⟩
      have st15 := st10.alloc (cs := txW t.1 s) hb5 hw15
      have st15b : St (Bs .busy none) (tb ++ ((b1, [slV own]) :: (b2, [iV ((xs.length - rest.length : Nat) : Int)]) :: (b3, [iV 0]) :: (rb ++ (cs ++ (d ++ ((t1, [Value.slice b_.ptr b_.len b_.cap]) :: (t2, [Value.pointer (some ⟨b3, 0, none⟩)]) :: fr)))))) w15 := st15.weak [(b5, txW t.1 s), (b4, txW t.1 s)] (perm_of_sum fun f_ => by simp <;> omega)
      refine ⟨txW t.1 s, srcAt_newN hb5 hw15 rfl, o.row.append st15b rfl rfl rfl (by omega) fun own' tb' w16 r16 st16 hl16 => ?_⟩
      have st16 : St (Bs .busy none) ((b1, [slV own]) :: (b2, [iV ((xs.length - rest.length : Nat) : Int)]) :: (tb' ++ ((b3, [iV 0]) :: (rb ++ (cs ++ (d ++ ((t1, [Value.slice b_.ptr b_.len b_.cap]) :: (t2, [Value.pointer (some ⟨b3, 0, none⟩)]) :: fr))))))) w16 := st16.perm (perm_of_sum fun f_ => by simp <;> omega)
      refine ⟨st16.writable 0 rfl (by show 0 + 1 ≤ 1; omega), fun w17 hw17 => ?_⟩
      have st17 : St (Bs .busy none) ((b1, [slV own']) :: (b2, [iV ((xs.length - rest.length : Nat) : Int)]) :: (tb' ++ ((b3, [iV 0]) :: (rb ++ (cs ++ (d ++ ((t1, [Value.slice b_.ptr b_.len b_.cap]) :: (t2, [Value.pointer (some ⟨b3, 0, none⟩)]) :: fr))))))) w17 := st16.put0 hw17
      have st17 : St (Bs .busy none) ((b2, [iV ((xs.length - rest.length : Nat) : Int)]) :: (b1, [slV own']) :: (tb' ++ ((b3, [iV 0]) :: (rb ++ (cs ++ (d ++ ((t1, [Value.slice b_.ptr b_.len b_.cap]) :: (t2, [Value.pointer (some ⟨b3, 0, none⟩)]) :: fr))))))) w17 := st17.perm (perm_of_sum fun f_ => by simp <;> omega)
      refine ⟨st17.writable 0 rfl (by show 0 + 1 ≤ 1; omega), fun w18 hw18 => ?_⟩
      have st18 : St (Bs .busy none) ((b2, [iV ((xs.length - rest'.length : Nat) : Int)]) :: (b1, [slV own']) :: (tb' ++ ((b3, [iV 0]) :: (rb ++ (cs ++ (d ++ ((t1, [Value.slice b_.ptr b_.len b_.cap]) :: (t2, [Value.pointer (some ⟨b3, 0, none⟩)]) :: fr))))))) w18 := st17.put0 hw18
      refine ⟨st18.objAt 0 rfl, fun w19 hw19 => ⟨fun _ => ?_, fun h => (by cases h)⟩⟩
      have st19 := St.turn (a := []) st18 hw19 (o' := .loop (rec .ready none)) (fun _ _ _ h => by cases h)
      have hws : t.2.length ≤ 32 := hok.2.2.1
      refine ⟨_, ⟨ts ++ [t], own', sls ++ [s], tb', rb ++ cs, fun ts' rem e h => ?_, o.snoc rs (by omega) r16, by simp; omega, by simp; omega, rfl⟩, st19.perm (perm_of_sum fun f_ => by simp <;> omega)⟩
      have e1 : (ts ++ [t]).length + 1 = ts.length + 1 + 1 := by simp
      rw [e1] at h
      have h2 : Rd (ts.length + 1) rest (t :: ts') rem e := Rd.step hne hrec heq h
      have := hrd _ _ _ h2
      rw [List.append_assoc]; exact this
  · rintro rest e X d w' hne ⟨ts, own, sls, tb, cs, hrd, o, hol, hol2, rfl⟩ hrec he stb
    have hrd' := hrd [] rest e (Rd.bad hne hrec he)
    rw [List.append_nil] at hrd'
    exact .inl ⟨ts, rest, e, own, sls, tb, cs, d, hrd', o, stb.perm (perm_of_sum fun f_ => by simp <;> omega)⟩
  · rintro X d w' ⟨ts, own, sls, tb, cs, hrd, o, hol, hol2, rfl⟩ stb
    have hrd' := hrd [] [] 0 (Rd.nil _)
    rw [List.append_nil] at hrd'
    exact .inl ⟨ts, [], 0, own, sls, tb, cs, d, hrd', o, stb.perm (perm_of_sum fun f_ => by simp <;> omega)⟩
  · rintro e w' ⟨rfl, h⟩
    exact ⟨⟨_, rfl⟩, hfin w' h⟩
end
end Go.Proofs.YtpdegdnigcnjiaaGreatDoor

namespace Go.Proofs.YtpdegdnigcnjiaaGreatDoor
open Go
set_option linter.unusedVariables false
set_option linter.unusedSimpArgs false

section
variable {w0 : Base} {w : World} {fr : List Chunk}
theorem sp_SameTxnsL {s1 s2 : Slc} {ts : List Tx} {l1 l2 : List Slc} {R : Bool → World → Prop} (h1 : LAt w s1 ts l1) (h2 : LAt w s2 ts l2) (hl : s1.len ≤ 4398046511104) (k : ∀ w', Ext w w' → R true w') : C_towpathlaw01_SameTxns s1 s2 w R := by
  apply S_towpathlaw01_SameTxns
  unfold F_towpathlaw01_SameTxns
  have e1 := h1.slen
  have e2 := h2.slen
  refine ⟨fun h => ?_, fun _ => ⟨fun i w' => ∃ p : Nat, i = (p : Int) ∧ p ≤ s1.len ∧ Ext w w', fun i _ => s1.len - i.toNat, ⟨0, rfl, by omega, Ext.refl _⟩, ?_⟩⟩
  · have h : ¬ ((s1.len : Nat) : Int) = ((s2.len : Nat) : Int) := by simpa using h
    omega
  rintro i w1 ⟨p, rfl, hp, e⟩
  unfold F_towpathlaw01_SameTxns_L0
  refine ⟨fun hi => ?_, fun hi => k w1 e⟩
  have hi := of_decide_eq_true hi
  obtain ⟨a1, t, x1, ht, hx1, hc1, hr1, g1, g2⟩ := (h1.ext e).get (p := p) (by omega)
  obtain ⟨a2, t', x2, ht', hx2, hc2, hr2, g3, g4⟩ := (h2.ext e).get (p := p) (by omega)
  rw [ht] at ht'
  obtain rfl := Option.some.inj ht'
  have wp : IntKind.i64.wrap ((p : Int) + 1) = ((p + 1 : Nat) : Int) := by rw [i64_in _ (by omega) (by omega)]; omega
  refine ⟨a1, by omega, hi, ⟨t.1, x1⟩, by rw [Int.toNat_natCast]; exact hc1, a2, by omega, by omega, ⟨t.1, x2⟩, by rw [Int.toNat_natCast]; exact hc2, true, fun w' e' => ?_, fun w3 e3 => ⟨fun h => by simp at h, fun _ => ?_⟩⟩
  · refine sp_SameTxn (a := ⟨t.1, x1⟩) (b := ⟨t.1, x2⟩) (e'.src hr1) (e'.src hr2) (by show x1.len ≤ _; omega) fun w'' e'' => ⟨?_, e''⟩
    exact decide_eq_true ⟨rfl, rfl⟩
  · rw [wp]
    exact ⟨⟨p + 1, rfl, by omega, e.trans e3⟩, by show _ - _ < _ - _; omega⟩
end

end Go.Proofs.YtpdegdnigcnjiaaGreatDoor

namespace Go.Proofs.YtpdegdnigcnjiaaGreatDoor
open Go
set_option linter.unusedVariables false
set_option linter.unusedSimpArgs false

abbrev RfR := T_towpathref02_Reader
abbrev rdV (r : RfR) : List Value := [Value.bool r.Gone, Value.slice r.B.ptr r.B.len r.B.cap, Value.int .i64 r.At, Value.int .i64 r.Code]
/-- The reader stands so in the bytes xs of B. -/
structure RV (B : Slc) (xs : List UInt8) (r : RfR) (s : RS) : Prop where
  gone : r.Gone = false
  row : r.B = B
  code : r.Code = s.code
  place : ∃ p : Nat, r.At = (p : Int) ∧ p ≤ xs.length ∧ s.rest = xs.drop p

section
variable {w0 : Base} {w : World} {B : Slc} {xs : List UInt8} {r : RfR} {s : RS}
theorem sp_ref_dead {R : Bool → World → Prop} (o : RV B xs r s) (k : ∀ w', Ext w w' → R (s.code != 0) w') : C_towpathref02_Reader_dead r w R := by
  apply S_towpathref02_Reader_dead
  intro b w1 hb hw
  have kb := Blk.new hb hw
  refine ⟨r.Gone, kb.cell rfl, fun h => (by rw [o.gone] at h; cases h), fun _ => ⟨r.Code, kb.cell rfl, ?_⟩⟩
  rw [o.code]
  exact k w1 (Ext.new hw)
/-- The answer is put at its place and read there. -/
theorem ref_end {α : Type} {b1 : Nat} {cs : List Value} {l : List Chunk} {R : RfR → World → Prop} {r' : RfR} (st : St w0 ((b1, cs) :: l) w) (hc : cs.length = 4) (k : ∀ w', St w0 l w' → R r' w') :
    Writable w b1 0 4 ∧ (∀ w4, w4 = World.puts b1 0 (rdV r') w → (∃ res : RfR, CellsAt w4 b1 0 (rdV res) ∧ R res w4)) := by
  refine ⟨st.writable 0 rfl (by omega), fun w4 hw4 => ⟨r', ?_, k w4 (st.put0 hw4).drop1⟩⟩
  have := (st.put0 hw4).get 0 rfl
  have e : putL 0 (rdV r') cs = rdV r' := by
    have := putL_append [] cs [] (rdV r') (by rw [hc]; rfl)
    simpa using this
  rw [e] at this
  exact this.all
theorem sp_ref_wrong {e : Int} {R : RfR → World → Prop} (k : ∀ w', Ext w w' → R { r with Code := e } w') : C_towpathref02_Reader_wrong r e w R := by
  apply S_towpathref02_Reader_wrong
  intro b w1 hb hw b1 w2 hb1 hw1
  have st := ((St.start w).alloc hb hw).alloc hb1 hw1
  refine ⟨st.writable 1 rfl (by simp), fun w3 hw3 => ?_⟩
  have st := st.put1 hw3
  refine ⟨{ r with Code := e }, (st.get 1 rfl).all, ?_⟩
  exact ref_end (α := Unit) st rfl fun w' st => k w' st.ext
theorem sp_ref_End {R : Int → World → Prop} (o : RV B xs r s) (hl : B.len = xs.length) (k : ∀ w', Ext w w' → R s.end_ w') : C_towpathref02_Reader_End r w R := by
  apply S_towpathref02_Reader_End
  intro b w1 hb hw
  have kb := Blk.new hb hw
  have k := k w1 (Ext.new hw)
  obtain ⟨p, hp, hpl, hr⟩ := o.place
  refine ⟨r.Gone, kb.cell rfl, fun h => (by rw [o.gone] at h; cases h), fun _ => ⟨r.Code, kb.cell rfl, fun h => ⟨r.Code, kb.cell rfl, ?_⟩, fun h => ⟨r.At, kb.cell rfl, r.B, kb.cell rfl, fun h2 => ?_, fun h2 => ?_⟩⟩⟩
  · have h : s.code ≠ 0 := by rw [o.code] at h; simpa using h
    unfold RS.end_ at k
    rw [if_neg (fun hh => h hh.1)] at k
    rw [o.code]; exact k
  · have h : s.code = 0 := by rw [o.code] at h; simpa using h
    have h2 := of_decide_eq_true h2
    rw [o.row, hp] at h2
    unfold RS.end_ at k
    rw [if_pos ⟨h, fun hh => by rw [hr] at hh; have := congrArg List.length hh; rw [List.length_drop] at this; simp at this; omega⟩] at k
    exact k
  · have h : s.code = 0 := by rw [o.code] at h; simpa using h
    have h2 := of_decide_eq_false h2
    rw [o.row, hp] at h2
    unfold RS.end_ at k
    rw [if_neg (fun hh => hh.2 (by rw [hr]; exact List.drop_eq_nil_of_le (by omega))), h] at k
    exact k

theorem sp_ref_Var {R : RfR → Int → World → Prop} (o : RV B xs r s) (hs : SrcAt w B 1 (xs.map bV)) (hl : B.len ≤ 140737488351232)
    (k : ∀ r' w', RV B xs r' (varR s).1 → Ext w w' → R r' ((varR s).2 : Int) w') : C_towpathref02_Reader_Var r w R := by
  apply S_towpathref02_Reader_Var
  intro b w1 hb hw b1 w2 hb1 hw1
  have st := ((St.start w).alloc hb hw).alloc hb1 hw1
  have hbl := hs.len_eq
  obtain ⟨p, hp, hpl, hr⟩ := id o.place
  refine ⟨r, (st.get 1 rfl).all, sp_ref_dead o fun w3 e3 => ⟨fun h => ⟨r, ((st.keep e3).get 1 rfl).all, ?_⟩, fun h => ?_⟩⟩
  · have h : s.code ≠ 0 := by simpa using h
    have hv : varR s = (s, 0) := by unfold varR; rw [if_pos h]
    rw [hv] at k
    exact ref_end (α := Unit) (R := fun r' w' => R r' 0 w') (st.keep e3) rfl fun w' st => k r w' o st.ext
  have h : s.code = 0 := by simpa using h
  have st := st.keep e3
  have hs0 : s = ⟨xs.drop p, 0⟩ := by rw [← hr, ← h]
  subst hs0
  refine ⟨fun n f i w' => ∃ (j m : Nat), i = (j : Int) ∧ f = ((128 ^ j : Nat) : Int) ∧ n = (m : Int) ∧ j ≤ 9 ∧ m < 128 ^ j ∧ p + j ≤ xs.length ∧ shA j m (xs.drop (p + j)) = shF (xs.drop p) ∧
      St ⟨w, []⟩ ((b1, [Value.bool false, Value.slice none 0 0, Value.int .i64 0, Value.int .i64 0]) :: [(b, rdV r)]) w', fun _ _ i _ => 10 - i.toNat,
    ⟨0, 0, rfl, rfl, rfl, by omega, by simp, by omega, rfl, st⟩, ?_⟩
  rintro n f i w5 ⟨j, m, rfl, rfl, rfl, hj, hm, hpj, hsh, st⟩
  unfold F_towpathref02_Reader_Var_L0
  have wpj : IntKind.i64.wrap ((p : Int) + (j : Int)) = ((p + j : Nat) : Int) := by rw [i64_in _ (by omega) (by omega)]; omega
  have cA : ∀ {w' : World}, St ⟨w, []⟩ ((b1, [Value.bool false, Value.slice none 0 0, Value.int .i64 0, Value.int .i64 0]) :: [(b, rdV r)]) w' → w'.cell? ⟨b, 2, none⟩ = some (Value.int .i64 (p : Int)) := fun st => by rw [← hp]; exact st.cell 1 rfl rfl
  have cB : ∀ {w' : World}, St ⟨w, []⟩ ((b1, [Value.bool false, Value.slice none 0 0, Value.int .i64 0, Value.int .i64 0]) :: [(b, rdV r)]) w' → w'.cell? ⟨b, 1, none⟩ = some (Value.slice B.ptr B.len B.cap) := fun st => by rw [← o.row]; exact st.cell 1 rfl rfl
  have bad : ∀ {e : Int} (he : e ≠ 0) (hsf : shF (xs.drop p) = (0, 0, e)), RV B xs { r with Code := e } (varR ⟨xs.drop p, 0⟩).1 ∧ (varR ⟨xs.drop p, 0⟩).2 = 0 := by
    intro e he hsf
    have hv : varR ⟨xs.drop p, 0⟩ = (⟨xs.drop p, e⟩, 0) := by unfold varR; simp [hsf, he]
    rw [hv]
    exact ⟨⟨o.gone, o.row, rfl, p, hp, hpl, rfl⟩, rfl⟩
  refine ⟨(p : Int), cA st, B, cB st, fun hge => ⟨r, (st.get 1 rfl).all, ?_⟩, fun hlt => ⟨B, cB st, (p : Int), cA st, ?_⟩⟩
  · rw [wpj] at hge
    have hge := of_decide_eq_true hge
    rw [drop_end (by omega), shA] at hsh
    obtain ⟨o', hv⟩ := bad (e := 5) (by decide) hsh.symm
    refine sp_ref_wrong fun w6 e6 => ref_end (α := Unit) (R := fun r' w' => R r' 0 w') (st.keep e6) rfl fun w' st => ?_
    have := k _ w' o' st.ext
    rw [hv] at this
    exact this
  rw [wpj] at hlt ⊢
  have hlt := of_decide_eq_false hlt
  obtain ⟨a, c, hc, hcell⟩ := (st.ext.src hs).get (i := ((p + j : Nat) : Int)) (by omega) (by omega)
  rw [Int.toNat_natCast] at hc
  have hb := c.toNat_lt
  rw [drop_get hc, shA] at hsh
  refine ⟨a, by omega, by omega, _, hcell, fun hbad => ⟨r, (st.get 1 rfl).all, ?_⟩, fun hbad => ?_⟩
  · rw [if_pos (by simp only [Bool.or_eq_true, Bool.and_eq_true, beq_iff_eq, decide_eq_true_eq] at hbad; omega)] at hsh
    obtain ⟨o', hv⟩ := bad (e := 4) (by decide) hsh.symm
    refine sp_ref_wrong fun w6 e6 => ref_end (α := Unit) (R := fun r' w' => R r' 0 w') (st.keep e6) rfl fun w' st => ?_
    have := k _ w' o' st.ext
    rw [hv] at this
    exact this
  have hne : ¬ ((j = 9 ∧ c.toNat > 1) ∨ (j > 0 ∧ c.toNat = 0)) := by
    simp only [Bool.or_eq_false_iff, Bool.and_eq_false_iff, beq_eq_false_iff_ne, decide_eq_false_iff_not] at hbad; omega
  rw [if_neg hne] at hsh
  have hx : c.toNat % 128 * 128 ^ j < 2 ^ 64 ∧ m + c.toNat % 128 * 128 ^ j < 2 ^ 64 := by
    by_cases h9 : j = 9
    · subst h9
      have h1 : c.toNat % 128 = c.toNat := Nat.mod_eq_of_lt (by omega)
      rw [h1]
      have h2 : c.toNat * 128 ^ 9 ≤ 1 * 128 ^ 9 := Nat.mul_le_mul_right _ (by omega)
      have h3 : (128 : Nat) ^ 9 = 9223372036854775808 := by decide
      omega
    · have h1 : c.toNat % 128 * 128 ^ j ≤ 127 * 128 ^ j := Nat.mul_le_mul_right _ (by omega)
      have h3 : (128 : Nat) ^ j ≤ 128 ^ 8 := Nat.pow_le_pow_right (by omega) (by omega)
      have h4 : (128 : Nat) ^ 8 = 72057594037927936 := by decide
      omega
  have wt : IntKind.u64.wrap (Int.tmod (c.toNat : Int) 128) = ((c.toNat % 128 : Nat) : Int) := by
    rw [show Int.tmod (c.toNat : Int) 128 = ((c.toNat % 128 : Nat) : Int) from rfl, u64_in _ (by omega) (by omega)]
  have wf : IntKind.u64.wrap (((128 ^ j : Nat) : Int) * ((c.toNat % 128 : Nat) : Int)) = ((c.toNat % 128 * 128 ^ j : Nat) : Int) := by
    rw [show ((128 ^ j : Nat) : Int) * ((c.toNat % 128 : Nat) : Int) = ((c.toNat % 128 * 128 ^ j : Nat) : Int) from by rw [Nat.mul_comm]; push_cast; rfl, u64_in _ (by omega) (by omega)]
  have wv : IntKind.u64.wrap ((m : Int) + ((c.toNat % 128 * 128 ^ j : Nat) : Int)) = ((m + c.toNat % 128 * 128 ^ j : Nat) : Int) := by
    rw [u64_in _ (by omega) (by omega)]; omega
  simp only [wt, wf, wv]
  refine ⟨fun hlt128 => ?_, fun hge128 => ?_⟩
  · have hlt128 := of_decide_eq_true hlt128
    rw [if_pos (by omega)] at hsh
    have wn : IntKind.i64.wrap (((p + j : Nat) : Int) + 1) = ((p + j + 1 : Nat) : Int) := by rw [i64_in _ (by omega) (by omega)]; omega
    refine ⟨(p : Int), cA st, st.writable 1 rfl (by simp), fun w10 hw10 => ?_⟩
    rw [wpj, wn] at hw10
    have st := st.put1 hw10
    refine ⟨{ r with At := ((p + j + 1 : Nat) : Int) }, (st.get 1 rfl).all, ?_⟩
    refine ref_end (α := Unit) (R := fun r' w' => R r' ((m + c.toNat % 128 * 128 ^ j : Nat) : Int) w') st rfl fun w' st => ?_
    have hv : varR ⟨xs.drop p, 0⟩ = (⟨xs.drop (p + j + 1), 0⟩, m + c.toNat % 128 * 128 ^ j) := by
      unfold varR; simp only [← hsh, List.drop_drop]; rfl
    rw [hv] at k
    exact k _ w' ⟨o.gone, o.row, o.code, p + j + 1, rfl, by omega, rfl⟩ st.ext
  · have hge128 := of_decide_eq_false hge128
    rw [if_neg (by omega)] at hsh
    have h9 : j ≠ 9 := fun h9 => by omega
    have w128 : IntKind.u64.wrap (128 * ((128 ^ j : Nat) : Int)) = ((128 ^ (j + 1) : Nat) : Int) := by
      have h3 : (128 : Nat) ^ (j + 1) ≤ 128 ^ 9 := Nat.pow_le_pow_right (by omega) (by omega)
      have h4 : (128 : Nat) ^ 9 = 9223372036854775808 := by decide
      rw [show 128 * ((128 ^ j : Nat) : Int) = ((128 ^ (j + 1) : Nat) : Int) from by rw [Nat.pow_succ, Nat.mul_comm]; push_cast; rfl, u64_in _ (by omega) (by omega)]
    have wj : IntKind.i64.wrap ((j : Int) + 1) = ((j + 1 : Nat) : Int) := by rw [i64_in _ (by omega) (by omega)]; omega
    rw [w128, wj]
    refine ⟨⟨j + 1, _, rfl, rfl, rfl, by omega, ?_, by omega, hsh, st⟩, by show 10 - ((j + 1 : Nat) : Int).toNat < 10 - ((j : Nat) : Int).toNat; rw [Int.toNat_natCast, Int.toNat_natCast]; omega⟩
    have h1 : c.toNat % 128 * 128 ^ j ≤ 127 * 128 ^ j := Nat.mul_le_mul_right _ (by omega)
    have h2 : 128 ^ j * 128 = 128 ^ (j + 1) := (Nat.pow_succ ..).symm
    omega

theorem St.sw {x y : Chunk} {l : List Chunk} (h : St w0 (x :: y :: l) w) : St w0 (y :: x :: l) w := h.perm (List.Perm.swap ..)
abbrev zR : List Value := [Value.bool false, Value.slice none 0 0, Value.int .i64 0, Value.int .i64 0]
theorem sp_ref_Text {most : Int} {R : RfR → ByteArray → World → Prop} (o : RV B xs r s) (hs : SrcAt w B 1 (xs.map bV)) (hl : B.len ≤ 140737488351232) (hcap : B.len ≤ B.cap) (hm0 : -9223372036854775808 ≤ most) (hm1 : most ≤ 9223372036854775807)
    (k : ∀ r' w', RV B xs r' (textR most s).1 → Ext w w' → R r' (mkS (textR most s).2) w') : C_towpathref02_Reader_Text r most w R := by
  apply S_towpathref02_Reader_Text
  intro b w1 hb hw b1 w2 hb1 hw1
  have st := ((St.start w).alloc hb hw).alloc hb1 hw1
  have hbl := hs.len_eq
  obtain ⟨p, hp, hpl, hr⟩ := id o.place
  refine ⟨r, (st.get 1 rfl).all, sp_ref_dead o fun w3 e3 => ⟨fun h => ⟨r, ((st.keep e3).get 1 rfl).all, ?_⟩, fun h => ?_⟩⟩
  · have h : s.code ≠ 0 := by simpa using h
    have hv : textR most s = (s, []) := by unfold textR; rw [if_pos h]
    rw [hv] at k
    exact ref_end (α := Unit) (R := fun r' w' => R r' ByteArray.empty w') (st.keep e3) rfl fun w' st => k r w' o st.ext
  have h : s.code = 0 := by simpa using h
  have st := st.keep e3
  have hs0 : s = ⟨xs.drop p, 0⟩ := by rw [← hr, ← h]
  subst hs0
  -- an error: the reader stays
  have bad : ∀ {e : Int} {l : List Chunk} {w4 : World}, textR most ⟨xs.drop p, 0⟩ = (⟨xs.drop p, e⟩, []) → St ⟨w, []⟩ ((b1, zR) :: l) w4 → C_towpathref02_Reader_wrong r e w4 (fun (v : RfR) w5 =>
      Writable w5 b1 0 4 ∧ (∀ w6, w6 = World.puts b1 0 (rdV v) w5 → (∃ (res1 : RfR), CellsAt w6 b1 0 (rdV res1) ∧ (R res1 ByteArray.empty w6)))) := by
    intro e l w4 hv st
    refine sp_ref_wrong fun w6 e6 => ref_end (α := Unit) (R := fun r' w' => R r' ByteArray.empty w') (st.keep e6) rfl fun w' st => ?_
    rw [hv] at k
    exact k _ w' ⟨o.gone, o.row, rfl, p, hp, hpl, rfl⟩ st.ext
  obtain ⟨hb1', hb2, hb3⟩ := shF_bd (xs.drop p)
  have hT : textR most ⟨xs.drop p, 0⟩ = _ := rfl
  conv at hT => rhs; unfold textR
  simp only at hT
  rw [if_neg (by simp)] at hT
  refine ⟨fun hm => ⟨r, (st.get 1 rfl).all, bad ?_ st⟩, fun hm => ⟨r, (st.get 1 rfl).all, sp_ref_Var o (st.ext.src hs) hl fun r1 w7 o1 e7 b2 w8 hb2' hw8 => ?_⟩⟩
  · have hm := of_decide_eq_true hm
    rw [if_pos hm] at hT; exact hT
  have hm := of_decide_eq_false hm
  rw [if_neg hm] at hT
  have st := (st.keep e7).alloc hb2' hw8
  refine ⟨st.writable 0 rfl (by simp), fun w9 hw9 => ?_⟩
  have st : St ⟨w, []⟩ ((b2, rdV r1) :: (b1, zR) :: [(b, rdV r)]) w9 := st.put0 hw9
  refine ⟨r1, (st.get 0 rfl).all, sp_ref_dead o1 fun w10 e10 => ?_⟩
  have st := st.keep e10
  obtain ⟨p1, hp1, hpl1, hr1⟩ := id o1.place
  by_cases he : (shF (xs.drop p)).2.2 = 0
  · have hv : varR ⟨xs.drop p, 0⟩ = (⟨(xs.drop p).drop (shF (xs.drop p)).2.1, 0⟩, (shF (xs.drop p)).1) := by unfold varR; simp [he]
    rw [if_neg (by omega)] at hT
    rw [hv] at hr1 ⊢
    have hlen1 := congrArg List.length hr1
    simp only [List.length_drop] at hlen1 hb2
    generalize hsz : (shF (xs.drop p)).2.1 = sz at *
    generalize hn : (shF (xs.drop p)).1 = n at *
    obtain rfl : p1 = p + sz := by omega
    have wm : IntKind.u64.wrap most = most := u64_in _ (by omega) (by omega)
    have wl : IntKind.u64.wrap (IntKind.i64.wrap (((B.len : Nat) : Int) - ((p + sz : Nat) : Int))) = (((xs.drop p).length - sz : Nat) : Int) := by
      rw [i64_in _ (by omega) (by omega), u64_in _ (by omega) (by omega), List.length_drop]; omega
    have cB : w10.cell? ⟨b, 1, none⟩ = some (Value.slice B.ptr B.len B.cap) := by rw [← o.row]; exact st.cell 2 rfl rfl
    have cA : w10.cell? ⟨b2, 2, none⟩ = some (Value.int .i64 ((p + sz : Nat) : Int)) := by rw [← hp1]; exact st.cell 0 rfl rfl
    refine ⟨fun hh => by simp at hh, fun _ => ⟨fun hgt => ⟨r, (st.get 2 rfl).all, bad ?_ st.sw⟩, fun hgt => ⟨B, cB, _, cA, fun hgt2 => ⟨r, (st.get 2 rfl).all, bad ?_ st.sw⟩, fun hgt2 => ⟨B, cB, _, cA, _, cA, ?_⟩⟩⟩⟩
    · rw [wm] at hgt
      have hgt := of_decide_eq_true hgt
      rw [if_pos hgt] at hT; exact hT
    · rw [wm] at hgt
      have hgt := of_decide_eq_false hgt
      rw [if_neg hgt] at hT
      rw [wl] at hgt2
      have hgt2 := of_decide_eq_true hgt2
      rw [if_pos (by omega)] at hT; exact hT
    · rw [wm] at hgt
      have hgt := of_decide_eq_false hgt
      rw [if_neg hgt] at hT
      rw [wl] at hgt2
      have hgt2 := of_decide_eq_false hgt2
      rw [if_neg (by omega)] at hT
      rw [List.length_drop] at hgt2
      have wn : IntKind.i64.wrap (((p + sz : Nat) : Int) + IntKind.i64.wrap (n : Int)) = ((p + sz + n : Nat) : Int) := by
        rw [i64_in (n : Int) (by omega) (by omega), i64_in _ (by omega) (by omega)]; omega
      simp only [wn]
      refine ⟨⟨by omega, by omega, by omega, by omega⟩, fun sc hsc => ?_⟩
      have hcut := (st.ext.src hs).cut (lo := ((p + sz : Nat) : Int)) (hi := ((p + sz + n : Nat) : Int)) (mx := ((B.cap : Nat) : Int)) (by omega) (by omega) (by omega) (by omega)
      rw [← hsc] at hcut
      simp only [Int.toNat_natCast, Nat.mul_one] at hcut
      rw [show p + sz + n - (p + sz) = n from by omega, ← List.map_drop, ← List.map_take] at hcut
      refine ⟨mkS ((xs.drop (p + sz)).take n), by rw [mkS_cells]; exact hcut, _, cA, st.writable 0 rfl (by simp), fun w17 hw17 => ?_⟩
      rw [wn] at hw17
      have st := st.put0 hw17
      refine ⟨{ r1 with At := ((p + sz + n : Nat) : Int) }, (st.get 0 rfl).all, ?_⟩
      refine ref_end (α := Unit) (R := fun r' w' => R r' (mkS ((xs.drop (p + sz)).take n)) w') st.sw rfl fun w' st => ?_
      have hT2 : textR most ⟨xs.drop p, 0⟩ = (⟨xs.drop (p + sz + n), 0⟩, (xs.drop (p + sz)).take n) := by
        rw [hT, List.drop_drop, List.drop_drop, Nat.add_assoc]
      rw [hT2] at k
      have ho1 := o1.code
      rw [hv] at ho1
      exact k _ w' ⟨o1.gone, o1.row, ho1, p + sz + n, rfl, by omega, rfl⟩ st.ext
  · have hv : varR ⟨xs.drop p, 0⟩ = (⟨xs.drop p, (shF (xs.drop p)).2.2⟩, 0) := by unfold varR; simp [he]
    rw [if_pos he] at hT
    have ho1 := o1.code
    rw [hv] at ho1 ⊢
    refine ⟨fun _ => ⟨r, (st.get 2 rfl).all, r1.Code, st.cell 0 rfl rfl, ?_⟩, fun hh => absurd (by simpa using hh) he⟩
    rw [ho1]
    exact bad hT st.sw

theorem sp_ref_Fixed {width : Int} {R : RfR → Int → World → Prop} (o : RV B xs r s) (hs : SrcAt w B 1 (xs.map bV)) (hl : B.len ≤ 140737488351232)
    (k : ∀ r' w', RV B xs r' (fixR width s).1 → Ext w w' → R r' ((fixR width s).2 : Int) w') : C_towpathref02_Reader_Fixed r width w R := by
  apply S_towpathref02_Reader_Fixed
  intro b w1 hb hw b1 w2 hb1 hw1
  have st := ((St.start w).alloc hb hw).alloc hb1 hw1
  have hbl := hs.len_eq
  obtain ⟨p, hp, hpl, hr⟩ := id o.place
  refine ⟨r, (st.get 1 rfl).all, sp_ref_dead o fun w3 e3 => ⟨fun h => ⟨r, ((st.keep e3).get 1 rfl).all, ?_⟩, fun h => ?_⟩⟩
  · have h : s.code ≠ 0 := by simpa using h
    have hv : fixR width s = (s, 0) := by unfold fixR; rw [if_pos h]
    rw [hv] at k
    exact ref_end (α := Unit) (R := fun r' w' => R r' 0 w') (st.keep e3) rfl fun w' st => k r w' o st.ext
  have h : s.code = 0 := by simpa using h
  have st : St ⟨w, []⟩ ((b1, zR) :: [(b, rdV r)]) w3 := st.keep e3
  have hs0 : s = ⟨xs.drop p, 0⟩ := by rw [← hr, ← h]
  subst hs0
  have bad : ∀ {e : Int} {l : List Chunk} {w4 : World}, fixR width ⟨xs.drop p, 0⟩ = (⟨xs.drop p, e⟩, 0) → St ⟨w, []⟩ ((b1, zR) :: l) w4 → C_towpathref02_Reader_wrong r e w4 (fun (v : RfR) w5 =>
      Writable w5 b1 0 4 ∧ (∀ w6, w6 = World.puts b1 0 (rdV v) w5 → (∃ (res1 : RfR), CellsAt w6 b1 0 (rdV res1) ∧ (R res1 0 w6)))) := by
    intro e l w4 hv st
    refine sp_ref_wrong fun w6 e6 => ref_end (α := Unit) (R := fun r' w' => R r' 0 w') (st.keep e6) rfl fun w' st => ?_
    rw [hv] at k
    exact k _ w' ⟨o.gone, o.row, rfl, p, hp, hpl, rfl⟩ st.ext
  have hT : fixR width ⟨xs.drop p, 0⟩ = _ := rfl
  conv at hT => rhs; unfold fixR
  simp only at hT
  rw [if_neg (by simp)] at hT
  have cB : ∀ {w' : World}, St ⟨w, []⟩ ((b1, zR) :: [(b, rdV r)]) w' → w'.cell? ⟨b, 1, none⟩ = some (Value.slice B.ptr B.len B.cap) := fun st => by rw [← o.row]; exact st.cell 1 rfl rfl
  have cA : ∀ {w' : World}, St ⟨w, []⟩ ((b1, zR) :: [(b, rdV r)]) w' → w'.cell? ⟨b, 2, none⟩ = some (Value.int .i64 (p : Int)) := fun st => by rw [← hp]; exact st.cell 1 rfl rfl
  refine ⟨fun hb => ⟨r, (st.get 1 rfl).all, bad ?_ st⟩, fun hb => ⟨B, cB st, (p : Int), cA st, fun hg => ⟨r, (st.get 1 rfl).all, bad ?_ st⟩, fun hg => ?_⟩⟩
  · simp only [Bool.or_eq_true, decide_eq_true_eq] at hb
    rw [if_pos hb] at hT; exact hT
  · simp only [Bool.or_eq_false_iff, decide_eq_false_iff_not] at hb
    rw [if_neg (by omega)] at hT
    rw [i64_in _ (by omega) (by omega)] at hg
    have hg := of_decide_eq_true hg
    rw [if_pos (by rw [List.length_drop]; omega)] at hT; exact hT
  simp only [Bool.or_eq_false_iff, decide_eq_false_iff_not] at hb
  rw [if_neg (by omega)] at hT
  rw [i64_in _ (by omega) (by omega)] at hg
  have hg := of_decide_eq_false hg
  rw [if_neg (by rw [List.length_drop]; omega)] at hT
  obtain ⟨W, rfl⟩ := toN (show 0 ≤ width by omega)
  rw [Int.toNat_natCast] at hT
  have w1' : IntKind.i64.wrap ((W : Int) - 1) = (W : Int) - 1 := i64_in _ (by omega) (by omega)
  rw [w1']
  refine ⟨fun n i w' => ∃ j : Nat, i = (j : Int) - 1 ∧ j ≤ W ∧ n = ((leV (((xs.drop p).take W).drop j) : Nat) : Int) ∧ St ⟨w, []⟩ ((b1, zR) :: [(b, rdV r)]) w', fun _ i _ => (i + 1).toNat,
    ⟨W, rfl, Nat.le_refl _, by rw [List.drop_of_length_le (by rw [List.length_take]; omega)]; rfl, st⟩, ?_⟩
  rintro n i w9 ⟨j, rfl, hj, rfl, st⟩
  unfold F_towpathref02_Reader_Fixed_L0
  refine ⟨fun hi => ?_, fun hi => ?_⟩
  · have hi := of_decide_eq_true hi
    obtain ⟨j, rfl⟩ := Nat.exists_eq_succ_of_ne_zero (show j ≠ 0 by omega)
    have hji : ((j.succ : Nat) : Int) - 1 = (j : Int) := by omega
    rw [hji]
    have wpj : IntKind.i64.wrap ((p : Int) + (j : Int)) = ((p + j : Nat) : Int) := by rw [i64_in _ (by omega) (by omega)]; omega
    obtain ⟨a, c, hc, hcell⟩ := (st.ext.src hs).get (i := ((p + j : Nat) : Int)) (by omega) (by omega)
    rw [Int.toNat_natCast] at hc
    have hb' := c.toNat_lt
    refine ⟨B, cB st, (p : Int), cA st, ?_⟩
    rw [wpj]
    refine ⟨a, by omega, by omega, _, hcell, ?_⟩
    have hd : ((xs.drop p).take W).drop j = c :: ((xs.drop p).take W).drop (j + 1) := drop_get (by rw [List.getElem?_take, if_pos (by omega), List.getElem?_drop]; exact hc)
    have hlt := leV_lt (((xs.drop p).take W).drop (j + 1))
    have hlen2 : (((xs.drop p).take W).drop (j + 1)).length ≤ 7 := by rw [List.length_drop, List.length_take]; omega
    have h56 : (256 : Nat) ^ (((xs.drop p).take W).drop (j + 1)).length ≤ 256 ^ 7 := Nat.pow_le_pow_right (by omega) hlen2
    have h567 : (256 : Nat) ^ 7 = 72057594037927936 := by decide
    have hv : IntKind.u64.wrap (IntKind.u64.wrap (256 * ((leV (((xs.drop p).take W).drop (j + 1)) : Nat) : Int)) + IntKind.u64.wrap (c.toNat : Int)) = ((leV (((xs.drop p).take W).drop j) : Nat) : Int) := by
      rw [u64_in (256 * _) (by omega) (by omega), u64_in (c.toNat : Int) (by omega) (by omega), u64_in _ (by omega) (by omega), hd, leV]
      omega
    have wj : IntKind.i64.wrap ((j : Int) - 1) = (j : Int) - 1 := i64_in _ (by omega) (by omega)
    rw [show j.succ = j + 1 from rfl, hv, wj]
    exact ⟨⟨j, rfl, by omega, rfl, st⟩, by show Int.toNat _ < Int.toNat _; omega⟩
  · have hi := of_decide_eq_false hi
    obtain rfl : j = 0 := by omega
    rw [List.drop_zero]
    have wpw : IntKind.i64.wrap ((p : Int) + (W : Int)) = ((p + W : Nat) : Int) := by rw [i64_in _ (by omega) (by omega)]; omega
    refine ⟨(p : Int), cA st, st.writable 1 rfl (by simp), fun w10 hw10 => ?_⟩
    rw [wpw] at hw10
    have st := st.put1 hw10
    refine ⟨{ r with At := ((p + W : Nat) : Int) }, (st.get 1 rfl).all, ?_⟩
    refine ref_end (α := Unit) (R := fun r' w' => R r' ((leV ((xs.drop p).take W) : Nat) : Int) w') st rfl fun w' st => ?_
    rw [hT] at k
    exact k _ w' ⟨o.gone, o.row, o.code, p + W, rfl, by omega, by rw [List.drop_drop]⟩ st.ext
end

end Go.Proofs.YtpdegdnigcnjiaaGreatDoor

namespace Go.Proofs.YtpdegdnigcnjiaaGreatDoor
open Go
set_option linter.unusedVariables false
set_option linter.unusedSimpArgs false

section
variable {w0 : Base} {w : World} {B : Slc} {xs l : List UInt8} {r : RfR} {s : RS}
theorem sp_ref_one {R : RfR → Wr → Int → World → Prop} (o : RV B xs r ⟨l, 0⟩) (hs : SrcAt w B 1 (xs.map bV)) (hl : B.len ≤ 140737488351232) (hcap : B.len ≤ B.cap)
    (kE : ∀ c, decW l = .inr c → c ≠ 0 → ∀ r' x' w', Ext w w' → R r' x' c w') (kO : ∀ x rest, decW l = .inl (x, rest) → ∀ r' w', RV B xs r' ⟨rest, 0⟩ → Ext w w' → R r' x 0 w') : C_towpathref05_one r w R := by
  apply S_towpathref05_one
  intro b w1 hb hw b1 w2 hb1 hw1 b2 w3 hb2 hw2
  have st : St ⟨w, []⟩ [(b2, wV ⟨ByteArray.empty, ByteArray.empty, false⟩), (b1, zR), (b, rdV r)] w3 := (((St.start w).alloc hb hw).alloc hb1 hw1).alloc hb2 hw2
  -- the two ways out
  have endB : ∀ {r' : RfR} {x : Wr} {e : Int} {w5 : World}, St ⟨w, []⟩ [(b2, wV ⟨ByteArray.empty, ByteArray.empty, false⟩), (b1, zR), (b, rdV r')] w5 → (∀ w', Ext w w' → R r' x e w') →
      (∃ (v : RfR), CellsAt w5 b 0 (rdV v) ∧ (Writable w5 b1 0 4 ∧ (∀ w9, w9 = World.puts b1 0 (rdV v) w5 → (Writable w9 b2 0 3 ∧ (∀ w10, w10 = World.puts b2 0 (wV x) w9 → (∃ (res2 : RfR), CellsAt w10 b1 0 (rdV res2) ∧ (∃ (res3 : Wr), CellsAt w10 b2 0 (wV res3) ∧ (R res2 res3 e w10)))))))) := by
    intro r' x e w5 st k
    refine ⟨r', (st.get 2 rfl).all, st.writable 1 rfl (by simp), fun w9 hw9 => ?_⟩
    have st : St ⟨w, []⟩ [(b2, wV ⟨ByteArray.empty, ByteArray.empty, false⟩), (b1, rdV r'), (b, rdV r')] w9 := st.put1 hw9
    refine ⟨st.writable 0 rfl (by simp [wV]), fun w10 hw10 => ?_⟩
    have st : St ⟨w, []⟩ [(b2, wV x), (b1, rdV r'), (b, rdV r')] w10 := st.put0 hw10
    exact ⟨r', (st.get 1 rfl).all, x, (st.get 0 rfl).all, k w10 st.ext⟩
  have endA : ∀ {r' : RfR} {x : Wr} {w5 : World}, St ⟨w, []⟩ [(b2, wV ⟨ByteArray.empty, ByteArray.empty, false⟩), (b1, zR), (b, rdV r')] w5 → (∀ w', Ext w w' → R r' x r'.Code w') →
      (∀ w6, (∃ k, w6 = w5.drewN k) → (∃ (v : RfR), CellsAt w6 b 0 (rdV v) ∧ (∃ (c : Int), w6.cell? ⟨b, 3, none⟩ = some (Value.int .i64 c) ∧ (Writable w6 b1 0 4 ∧ (∀ w7, w7 = World.puts b1 0 (rdV v) w6 → (w7.cell? ⟨b, 3, none⟩ = some (Value.int .i64 c) ∧
        (Writable w7 b2 0 3 ∧ (∀ w8, w8 = World.puts b2 0 (wV x) w7 → (w8.cell? ⟨b, 3, none⟩ = some (Value.int .i64 c) ∧ (∃ (res : RfR), CellsAt w8 b1 0 (rdV res) ∧ (∃ (res1 : Wr), CellsAt w8 b2 0 (wV res1) ∧ (R res res1 c w8)))))))))))) := by
    intro r' x w5 st k w6 e6
    have st := st.drew e6
    refine ⟨r', (st.get 2 rfl).all, r'.Code, st.cell 2 rfl rfl, st.writable 1 rfl (by simp), fun w7 hw7 => ?_⟩
    have st : St ⟨w, []⟩ [(b2, wV ⟨ByteArray.empty, ByteArray.empty, false⟩), (b1, rdV r'), (b, rdV r')] w7 := st.put1 hw7
    refine ⟨st.cell 2 rfl rfl, st.writable 0 rfl (by simp [wV]), fun w8 hw8 => ?_⟩
    have st : St ⟨w, []⟩ [(b2, wV x), (b1, rdV r'), (b, rdV r')] w8 := st.put0 hw8
    exact ⟨st.cell 2 rfl rfl, r', (st.get 1 rfl).all, x, (st.get 0 rfl).all, k w8 st.ext⟩
  have hd : decW l = _ := rfl
  conv at hd => rhs; unfold decW
  refine ⟨r, (st.get 2 rfl).all, sp_ref_Text o (st.ext.src hs) hl hcap (by omega) (by omega) fun r1 w4 o1 e4 => ⟨(st.keep e4).writable 2 rfl (by simp), fun w5 hw5 => ?_⟩⟩
  have st : St ⟨w, []⟩ [(b2, wV ⟨ByteArray.empty, ByteArray.empty, false⟩), (b1, zR), (b, rdV r1)] w5 := (st.keep e4).put 2 rfl hw5
  refine ⟨r1.Code, st.cell 2 rfl rfl, ?_⟩
  rcases textR_cases (show (0 : Int) ≤ 64 by decide) l with ⟨c, hc, he⟩ | ⟨key, l1, he, _, _⟩
  · rw [he] at hd o1 ⊢
    simp only at hd
    rw [if_pos hc] at hd
    have hcode : r1.Code = c := o1.code
    refine ⟨fun _ => endA (x := ⟨ByteArray.empty, ByteArray.empty, false⟩) st fun w' e' => ?_, fun h => absurd (by rw [hcode] at h; simpa using h) hc⟩
    rw [hcode]; exact kE c hd hc _ _ w' e'
  rw [he] at hd o1 ⊢
  simp only at hd
  rw [if_neg (by simp)] at hd
  have hcode : r1.Code = 0 := o1.code
  refine ⟨fun h => by rw [hcode] at h; simp at h, fun _ => ⟨fun hk => ?_, fun hk => ?_⟩⟩
  · have hk : key.length = 0 := by rw [mkS_size] at hk; have : (key.length : Int) = 0 := by simpa using hk
                                   omega
    rw [if_pos (List.eq_nil_of_length_eq_zero hk)] at hd
    exact endB (x := ⟨ByteArray.empty, ByteArray.empty, false⟩) st fun w' e' => kE 1 hd (by decide) _ _ w' e'
  have hk : ¬ key = [] := fun h => by rw [h] at hk; simp [mkS_size] at hk
  rw [if_neg hk] at hd
  unfold decW1 at hd
  refine ⟨r1, (st.get 2 rfl).all, sp_ref_Fixed o1 (st.ext.src hs) hl fun r2 w11 o2 e11 => ⟨(st.keep e11).writable 2 rfl (by simp), fun w12 hw12 => ?_⟩⟩
  have st : St ⟨w, []⟩ [(b2, wV ⟨ByteArray.empty, ByteArray.empty, false⟩), (b1, zR), (b, rdV r2)] w12 := (st.keep e11).put 2 rfl hw12
  refine ⟨r2.Code, st.cell 2 rfl rfl, ?_⟩
  rcases fixR_cases l1 with ⟨_, he⟩ | ⟨f, l2, he, _, _⟩
  · rw [he] at hd o2 ⊢
    simp only at hd
    rw [if_pos (by decide)] at hd
    have hcode : r2.Code = 5 := o2.code
    refine ⟨fun _ => endA (x := ⟨ByteArray.empty, ByteArray.empty, false⟩) st fun w' e' => ?_, fun h => by rw [hcode] at h; simp at h⟩
    rw [hcode]; exact kE 5 hd (by decide) _ _ w' e'
  rw [he] at hd o2 ⊢
  simp only at hd
  rw [if_neg (by simp)] at hd
  have hcode : r2.Code = 0 := o2.code
  refine ⟨fun h => by rw [hcode] at h; simp at h, fun _ => ⟨fun hf => ?_, fun hf => ⟨fun hf1 => ?_, fun hf1 => ?_⟩⟩⟩
  · have hf : f > 1 := by have := of_decide_eq_true hf; omega
    rw [if_pos hf] at hd
    exact endB (x := ⟨ByteArray.empty, ByteArray.empty, false⟩) st fun w' e' => kE 4 hd (by decide) _ _ w' e'
  · have hf : ¬ f > 1 := by have := of_decide_eq_false hf; omega
    have hf1' : (f : Int) = 1 := by simpa using hf1
    rw [if_neg hf, if_pos (by omega)] at hd
    exact endB (x := ⟨mkS key, ByteArray.empty, true⟩) st fun w' e' => kO _ _ hd r2 w' o2 e'
  · have hf : ¬ f > 1 := by have := of_decide_eq_false hf; omega
    have hf1' : ¬ (f : Int) = 1 := by simpa using hf1
    rw [if_neg hf, if_neg (by omega)] at hd
    unfold decW2 at hd
    refine ⟨r2, (st.get 2 rfl).all, sp_ref_Text o2 (st.ext.src hs) hl hcap (by omega) (by omega) fun r3 w20 o3 e20 => ⟨(st.keep e20).writable 2 rfl (by simp), fun w21 hw21 => ?_⟩⟩
    have st : St ⟨w, []⟩ [(b2, wV ⟨ByteArray.empty, ByteArray.empty, false⟩), (b1, zR), (b, rdV r3)] w21 := (st.keep e20).put 2 rfl hw21
    refine endA (x := ⟨mkS key, mkS (textR 1024 ⟨l2, 0⟩).2, false⟩) st fun w' e' => ?_
    rcases textR_cases (show (0 : Int) ≤ 1024 by decide) l2 with ⟨c, hc, he⟩ | ⟨v, l3, he, _, _⟩
    · rw [he] at hd o3 ⊢
      simp only at hd
      rw [if_pos hc] at hd
      have hcode : r3.Code = c := o3.code
      rw [hcode]; exact kE c hd hc _ _ w' e'
    · rw [he] at hd o3 ⊢
      simp only at hd
      rw [if_neg (by simp)] at hd
      have hcode : r3.Code = 0 := o3.code
      rw [hcode]; exact kO _ _ hd r3 w' o3 e'
end

set_option maxHeartbeats 2000000 in
theorem sp_ref_Decode {w0 : Base} {w : World} {fr : List Chunk} {b_ : Slc} {xs : List UInt8} {R : T_api_Txn → Int → World → Prop} (st : St w0 fr w) (hs : ∀ l' w', St w0 (l' ++ fr) w' → SrcAt w' b_ 1 (xs.map bV)) (hl : b_.len ≤ 140737488351232) (hcap : b_.len ≤ b_.cap)
    (kE : ∀ e, decT xs = .inr e → e ≠ 0 → ∀ w', St w0 fr w' → R ⟨0, ⟨none, 0, 0⟩⟩ e w')
    (kO : ∀ n ws, decT xs = .inl (n, ws) → ∀ s rb w', RowC 3 s (ws.flatMap wV) rb → St w0 (rb ++ fr) w' → R ⟨(n : Int), s⟩ 0 w') : C_towpathref05_Decode b_ w R := by
  apply S_towpathref05_Decode
  intro b1 w1 hb1 hw1 b2 w2 hb2 hw2
  have hxl := (hs [] w st).len_eq
  have st : St w0 ((b2, zR) :: (b1, nilT) :: fr) w2 := (st.alloc hb1 hw1).alloc hb2 hw2
  refine ⟨st.writable 0 rfl (by simp), fun w3 hw3 => ?_⟩
  have st : St w0 ((b2, rdV ⟨false, b_, 0, 0⟩) :: (b1, nilT) :: fr) w3 := st.put0 hw3
  have o0 : RV b_ xs ⟨false, b_, 0, 0⟩ ⟨xs, 0⟩ := ⟨rfl, rfl, rfl, 0, rfl, by omega, by simp⟩
  have failP : ∀ {e : Int} {l : List Chunk} {w' : World}, decT xs = .inr e → e ≠ 0 → St w0 ((b1, nilT) :: (l ++ fr)) w' →
      (Writable w' b1 0 2 ∧ (∀ w9, w9 = World.puts b1 0 [Value.int .i64 0, Value.slice none 0 0] w' → (∃ (res : T_api_Txn), CellsAt w9 b1 0 [Value.int .i64 res.Number, Value.slice res.Writes.ptr res.Writes.len res.Writes.cap] ∧ (R res e w9)))) := by
    intro e l w' hd he st
    refine ⟨st.writable 0 rfl (by simp), fun w9 hw9 => ⟨⟨0, ⟨none, 0, 0⟩⟩, ?_, ?_⟩⟩
    · exact ((st.put0 hw9 : St w0 ((b1, nilT) :: (l ++ fr)) w9).get 0 rfl).all
    · exact kE e hd he w9 (st.put0 hw9).drop1.drop
  have failC : ∀ {r' : RfR} {w5 : World}, decT xs = .inr r'.Code → r'.Code ≠ 0 → St w0 ((b2, rdV r') :: (b1, nilT) :: fr) w5 →
      (∀ w6, (∃ k, w6 = w5.drewN k) → (∃ (c : Int), w6.cell? ⟨b2, 3, none⟩ = some (Value.int .i64 c) ∧ (Writable w6 b1 0 2 ∧ (∀ w7, w7 = World.puts b1 0 [Value.int .i64 0, Value.slice none 0 0] w6 → (w7.cell? ⟨b2, 3, none⟩ = some (Value.int .i64 c) ∧
        (∃ (res : T_api_Txn), CellsAt w7 b1 0 [Value.int .i64 res.Number, Value.slice res.Writes.ptr res.Writes.len res.Writes.cap] ∧ (R res c w7))))))) := by
    intro r' w5 hd he st w6 e6
    have st := st.drew e6
    refine ⟨r'.Code, st.cell 0 rfl rfl, st.writable 1 rfl (by simp), fun w7 hw7 => ?_⟩
    have st : St w0 ((b2, rdV r') :: (b1, nilT) :: fr) w7 := st.put1 hw7
    exact ⟨st.cell 0 rfl rfl, ⟨0, ⟨none, 0, 0⟩⟩, (st.get 1 rfl).all, kE _ hd he w7 st.drop1.drop1⟩
  have hdT : decT xs = _ := rfl
  conv at hdT => rhs; unfold decT
  refine ⟨⟨false, b_, 0, 0⟩, (st.get 0 rfl).all, sp_ref_Var o0 (hs [_, _] w3 st) hl fun r1 w4 o1 e4 => ⟨(st.keep e4).writable 0 rfl (by simp), fun w5 hw5 => ?_⟩⟩
  have st : St w0 ((b2, rdV r1) :: (b1, nilT) :: fr) w5 := (st.keep e4).put0 hw5
  refine ⟨r1.Code, st.cell 0 rfl rfl, ?_⟩
  rcases varR_cases xs with ⟨c, hc, he⟩ | ⟨n, l1, he, _, hn⟩
  · rw [he] at hdT o1 ⊢
    simp only at hdT
    rw [if_pos hc] at hdT
    have hcode : r1.Code = c := o1.code
    exact ⟨fun _ => failC (by rw [hcode]; exact hdT) (by rw [hcode]; exact hc) st, fun h => absurd (by rw [hcode] at h; simpa using h) hc⟩
  rw [he] at hdT o1 ⊢
  simp only at hdT
  rw [if_neg (by simp)] at hdT
  have hcode : r1.Code = 0 := o1.code
  refine ⟨fun h => by rw [hcode] at h; simp at h, fun _ => ⟨fun hb => ?_, fun hb => ?_⟩⟩
  · simp only [Bool.or_eq_true, decide_eq_true_eq] at hb
    rw [if_pos (by omega)] at hdT
    exact failP (l := []) hdT (by decide) st.drop1
  simp only [Bool.or_eq_false_iff, decide_eq_false_iff_not] at hb
  rw [if_neg (by omega)] at hdT
  unfold decT1 at hdT
  refine ⟨r1, (st.get 0 rfl).all, sp_ref_Var o1 (hs [_, _] w5 st) hl fun r2 w9 o2 e9 => ⟨(st.keep e9).writable 0 rfl (by simp), fun w10 hw10 => ?_⟩⟩
  have st : St w0 ((b2, rdV r2) :: (b1, nilT) :: fr) w10 := (st.keep e9).put0 hw10
  refine ⟨r2.Code, st.cell 0 rfl rfl, ?_⟩
  rcases varR_cases l1 with ⟨c, hc, he⟩ | ⟨k, l2, he, _, hk⟩
  · rw [he] at hdT o2 ⊢
    simp only at hdT
    rw [if_pos hc] at hdT
    have hcode : r2.Code = c := o2.code
    exact ⟨fun _ => failC (by rw [hcode]; exact hdT) (by rw [hcode]; exact hc) st, fun h => absurd (by rw [hcode] at h; simpa using h) hc⟩
  rw [he] at hdT o2 ⊢
  simp only at hdT
  rw [if_neg (by simp)] at hdT
  have hcode : r2.Code = 0 := o2.code
  refine ⟨fun h => by rw [hcode] at h; simp at h, fun _ => ⟨fun hb => ?_, fun hb2 => ?_⟩⟩
  · have hb : k > 32 := by have := of_decide_eq_true hb; omega
    rw [if_pos hb] at hdT
    exact failP (l := []) hdT (by decide) st.drop1
  have hb2 : ¬ k > 32 := by have := of_decide_eq_false hb2; omega
  rw [if_neg hb2] at hdT
  intro b3 w14 hb3 hw14
  have st := st.alloc hb3 hw14
  refine ⟨st.writable 0 rfl (by simp), fun w15 hw15 => ?_⟩
  have wn : IntKind.i64.wrap (n : Int) = (n : Int) := i64_in _ (by omega) (by omega)
  have wk : IntKind.i64.wrap (k : Int) = (k : Int) := i64_in _ (by omega) (by omega)
  rw [wn] at hw15
  have st : St w0 ((b3, txV (n : Int) ⟨none, 0, 0⟩) :: (b2, rdV r2) :: (b1, nilT) :: ([] ++ fr)) w15 := st.put0 hw15
  refine ⟨fun i w' => ∃ (j : Nat) (ys : List Wr) (rest : List UInt8) (sl : Slc) (rb : List Chunk) (r' : RfR), i = (j : Int) ∧ j ≤ k ∧ ys.length = j ∧ decWs k l2 = (match decWs (k - j) rest with | .inr c => .inr c | .inl (zs, q) => .inl (ys ++ zs, q)) ∧
      RV b_ xs r' ⟨rest, 0⟩ ∧ RowC 3 sl (ys.flatMap wV) rb ∧ St w0 ((b3, txV (n : Int) sl) :: (b2, rdV r') :: (b1, nilT) :: (rb ++ fr)) w', fun i _ => k - i.toNat,
    ⟨0, [], l2, ⟨none, 0, 0⟩, [], r2, rfl, by omega, rfl, ?_, o2, RowC.nil, st⟩, ?_⟩
  · rw [Nat.sub_zero]
    cases decWs k l2 with
    | inr c => rfl
    | inl p => rfl
  rintro i w16 ⟨j, ys, rest, sl, rb, r', rfl, hj, hyl, hdw, o', ro, st⟩
  unfold F_towpathref05_Decode_L0
  rw [wk]
  refine ⟨fun hi => ?_, fun hi => ?_⟩
  · have hi : j < k := by have := of_decide_eq_true hi; omega
    obtain ⟨m, hm⟩ : ∃ m, k - j = m + 1 := ⟨k - j - 1, by omega⟩
    have hdW : decWs (k - j) rest = (match decW rest with | .inr c => .inr c | .inl (x, q) => match decWs m q with | .inr c => .inr c | .inl (zs, q') => .inl (x :: zs, q')) := by rw [hm]; rfl
    refine ⟨r', (st.get 1 rfl).all, sp_ref_one o' (hs ([_, _, _] ++ rb) w16 (by rw [List.append_assoc]; exact st)) hl hcap (fun c hd hc r'' x' w17 e17 => ?_) (fun x rest1 hd r'' w17 o'' e17 => ?_)⟩
    · intro b4 w18 hb4 hw18 b5 w19 hb5 hw19
      have st := ((st.keep e17).alloc hb4 hw18).alloc hb5 hw19
      refine ⟨st.writable 1 rfl (by simp), fun w20 hw20 => ?_⟩
      have st := st.put1 hw20
      refine ⟨st.writable 0 rfl (by simp), fun w21 hw21 => ⟨fun _ => ?_, fun h => absurd (by simpa using h) hc⟩⟩
      have st : St w0 ((b1, nilT) :: (rb ++ fr)) w21 := (st.put0 hw21).drop1.drop1.drop1.drop1
      refine failP (l := rb) ?_ hc st
      rw [hdW, hd] at hdw
      rw [hdT, hdw]
    · intro b4 w18 hb4 hw18 b5 w19 hb5 hw19
      have st := ((st.keep e17).alloc hb4 hw18).alloc hb5 hw19
      refine ⟨st.writable 1 rfl (by simp), fun w20 hw20 => ?_⟩
      have st := st.put1 hw20
      refine ⟨st.writable 0 rfl (by simp), fun w21 hw21 => ⟨fun h => by simp at h, fun _ => ?_⟩⟩
      have st : St w0 ((b5, wV x) :: (b4, rdV r'') :: (b3, txV (n : Int) sl) :: (b2, rdV r') :: (b1, nilT) :: (rb ++ fr)) w21 := st.put0 hw21
      refine ⟨r'', (st.get 1 rfl).all, st.writable 3 rfl (by simp), fun w23 hw23 => ?_⟩
      have st : St w0 ((b5, wV x) :: (b4, rdV r'') :: (b3, txV (n : Int) sl) :: (b2, rdV r'') :: (b1, nilT) :: (rb ++ fr)) w23 := st.put 3 rfl hw23
      refine ⟨sl, st.cell 2 rfl rfl, x, (st.get 0 rfl).all, fun b6 w24 hb6 hw24 => ⟨wV x, ⟨rfl, .inr ⟨rfl, (Blk.new hb6 hw24).all⟩⟩, ?_⟩⟩
      have st := (st.keep (Ext.new hw24)).drop1.drop1
      have hll := ro.len
      have hf : ∀ x : Wr, (wV x).length = 3 := fun _ => rfl
      rw [flatMap_len hf] at hll
      have hll2 : sl.len = j := by have := Nat.eq_of_mul_eq_mul_right (by decide) hll; omega
      refine ro.append (st.swap (a := [_, _, _])) rfl rfl rfl (by omega) fun s' rb' w25 ro' st hl' => ?_
      have st : St w0 ((b3, txV (n : Int) sl) :: (b2, rdV r'') :: (b1, nilT) :: (rb' ++ fr)) w25 := st.swap (b := [_, _, _])
      refine ⟨st.writable 0 rfl (by simp), fun w26 hw26 => ?_⟩
      have st : St w0 ((b3, txV (n : Int) s') :: (b2, rdV r'') :: (b1, nilT) :: (rb' ++ fr)) w26 := st.put0 hw26
      have wj : IntKind.i64.wrap ((j : Int) + 1) = ((j + 1 : Nat) : Int) := by rw [i64_in _ (by omega) (by omega)]; omega
      rw [wj]
      refine ⟨⟨j + 1, ys ++ [x], rest1, s', rb', r'', rfl, by omega, by simp [hyl], ?_, o'', by simpa using ro', st⟩, by show k - ((j + 1 : Nat) : Int).toNat < k - ((j : Nat) : Int).toNat; rw [Int.toNat_natCast, Int.toNat_natCast]; omega⟩
      rw [hdw, hdW, hd, show k - (j + 1) = m from by omega]
      simp only
      cases decWs m rest1 with
      | inr c => rfl
      | inl p => simp
  · have hi : j = k := by have := of_decide_eq_false hi; omega
    rw [show k - j = 0 from by omega, decWs] at hdw
    simp only [List.append_nil] at hdw
    rw [hdw] at hdT
    simp only at hdT
    refine ⟨r', (st.get 1 rfl).all, sp_ref_End o' (by exact hxl) fun w27 e27 => ?_⟩
    have st := st.keep e27
    by_cases hr : rest = []
    · have he2 : (⟨rest, 0⟩ : RS).end_ = 0 := by unfold RS.end_; rw [if_neg (fun hh => hh.2 hr)]
      rw [if_neg (fun h => h hr)] at hdT
      rw [he2]
      refine ⟨fun h => by simp at h, fun _ => ⟨⟨(n : Int), sl⟩, (st.get 0 rfl).all, st.writable 2 rfl (by simp), fun w29 hw29 => ?_⟩⟩
      have st : St w0 ((b3, txV (n : Int) sl) :: (b2, rdV r') :: (b1, txV (n : Int) sl) :: (rb ++ fr)) w29 := st.put 2 rfl hw29
      exact ⟨⟨(n : Int), sl⟩, (st.get 2 rfl).all, kO n ys hdT sl rb w29 ro st.drop1.drop1.drop1⟩
    · have he2 : (⟨rest, 0⟩ : RS).end_ = 4 := by unfold RS.end_; rw [if_pos ⟨rfl, hr⟩]
      rw [if_pos hr] at hdT
      rw [he2]
      exact ⟨fun _ => failP (l := rb) hdT (by decide) st.drop1.drop1, fun h => by simp at h⟩

end Go.Proofs.YtpdegdnigcnjiaaGreatDoor

namespace Go.Proofs.YtpdegdnigcnjiaaGreatDoor
open Go
set_option linter.unusedVariables false
set_option linter.unusedSimpArgs false

theorem rd_nil0 {i : Nat} {ys : List Tx} {rem : List UInt8} {e : Int} (h : Rd i [] ys rem e) : ys = [] ∧ rem = [] ∧ e = 0 := by
  generalize hL : ([] : List UInt8) = L at h
  cases h with
  | nil => exact ⟨rfl, rfl, rfl⟩
  | bad g1 g2 g3 => exact absurd hL.symm g1
  | turn g1 g2 g3 => exact absurd hL.symm g1
  | step g1 g2 g3 g4 => exact absurd hL.symm g1
theorem rd_fun {i : Nat} {l rem : List UInt8} {ts : List Tx} {e : Int} (h : Rd i l ts rem e) : ∀ {ts' : List Tx} {rem' : List UInt8} {e' : Int}, Rd i l ts' rem' e' → ts = ts' ∧ rem = rem' ∧ e = e' := by
  induction h with
  | nil i =>
    intro ts' rem' e' h'
    obtain ⟨a, b, c⟩ := rd_nil0 h'
    exact ⟨a.symm, b.symm, c.symm⟩
  | bad h1 h2 h3 =>
    intro ts' rem' e' h'
    cases h' with
    | nil => exact absurd rfl h1
    | bad g1 g2 g3 => rw [h2] at g2; cases g2; exact ⟨rfl, rfl, rfl⟩
    | turn g1 g2 g3 => rw [h2] at g2; cases g2
    | step g1 g2 g3 g4 => rw [h2] at g2; cases g2
  | turn h1 h2 h3 =>
    intro ts' rem' e' h'
    cases h' with
    | nil => exact absurd rfl h1
    | bad g1 g2 g3 => rw [h2] at g2; cases g2
    | turn g1 g2 g3 => exact ⟨rfl, rfl, rfl⟩
    | step g1 g2 g3 g4 => rw [h2] at g2; cases g2; exact absurd g3 h3
  | step h1 h2 h3 h4 ih =>
    intro ts' rem' e' h'
    cases h' with
    | nil => exact absurd rfl h1
    | bad g1 g2 g3 => rw [h2] at g2; cases g2
    | turn g1 g2 g3 => rw [h2] at g2; cases g2; exact absurd h3 g3
    | step g1 g2 g3 g4 =>
      rw [h2] at g2
      cases g2
      obtain ⟨a, b, c⟩ := ih g4
      exact ⟨by rw [a], b, c⟩

section
variable {w0 : Base} {w : World} {fr : List Chunk}
theorem sp_ref_Left {B : Slc} {xs : List UInt8} {r : RfR} {s : RS} {R : Int → World → Prop} (o : RV B xs r s) (hl : B.len = xs.length) (hb : B.len ≤ 140737488351232) (k : ∀ w', Ext w w' → R (s.rest.length : Int) w') : C_towpathref02_Reader_Left r w R := by
  apply S_towpathref02_Reader_Left
  intro b w1 hb1 hw
  have kb := Blk.new hb1 hw
  obtain ⟨p, hp, hpl, hr⟩ := o.place
  refine ⟨r.Gone, kb.cell rfl, fun h => (by rw [o.gone] at h; cases h), fun _ => ⟨r.B, kb.cell rfl, r.At, kb.cell rfl, ?_⟩⟩
  have : IntKind.i64.wrap (((r.B.len : Nat) : Int) - r.At) = (s.rest.length : Int) := by
    rw [o.row, hp, hr, List.length_drop, i64_in _ (by omega) (by omega)]; omega
  rw [this]
  exact k w1 (Ext.new hw)

set_option maxHeartbeats 1000000 in
theorem sp_ref06_Read {b_ : Slc} {xs : List UInt8} {R : Slc → Int → Int → World → Prop} (st : St w0 fr w) (hs : ∀ l w', St w0 (l ++ fr) w' → SrcAt w' b_ 1 (xs.map bV)) (hl : b_.len ≤ 140737488351232) (hcap : b_.len ≤ b_.cap)
    (k : ∀ ts rem e sl sls tb cs w', Rd 1 xs ts rem e → BldO ts ts.length sl sls tb cs → St w0 ((tb ++ cs) ++ fr) w' → R sl ((xs.length - rem.length : Nat) : Int) e w') : C_towpathref06_Read b_ w R := by
  apply S_towpathref06_Read
  unfold F_towpathref06_Read
  have hxl := (hs [] w st).len_eq
  intro b1 w1 hb1 hw1
  have st1 : St w0 ((b1, zR) :: fr) w1 := st.alloc hb1 hw1
  refine ⟨st1.writable 0 rfl (by decide), fun w2 hw2 => ?_⟩
  have st2 : St w0 ((b1, rdV ⟨false, b_, 0, 0⟩) :: fr) w2 := st1.put0 hw2
  have o0 : RV b_ xs ⟨false, b_, 0, 0⟩ ⟨xs, 0⟩ := ⟨rfl, rfl, rfl, 0, rfl, by omega, by simp⟩
  refine ⟨fun own good w' => ∃ ts rest sls tb cs d r', good = ((xs.length - rest.length : Nat) : Int) ∧ RV b_ xs r' ⟨rest, 0⟩ ∧ BldO ts ts.length own sls tb cs ∧ (∀ ts' rem e, Rd (ts.length + 1) rest ts' rem e → Rd 1 xs (ts ++ ts') rem e) ∧ own.len = ts.length ∧ ts.length ≤ 65536 ∧
      St w0 ((b1, rdV r') :: (tb ++ (cs ++ (d ++ fr)))) w', fun _ good _ => xs.length - good.toNat,
    ⟨[], xs, [], [], [], [], _, by rw [Nat.sub_self]; rfl, o0, BldO.start [], fun ts' rem e h => h, rfl, by simp, st2⟩, ?_⟩
  clear st st1 st2 hw1 hw2 hb1 o0
  rintro own good w3 ⟨ts, rest, sls, tb, cs, d, r, rfl, o, ob, hrd, hol, htl, st⟩
  unfold F_towpathref06_Read_L0
  obtain ⟨p0, hp0, hpl0, hr0⟩ := id o.place
  have hr0 : rest = xs.drop p0 := hr0
  have hrl : rest.length = xs.length - p0 := by rw [hr0, List.length_drop]
  have hsrc : ∀ {l : List Chunk} {w' : World}, St w0 (l ++ fr) w' → SrcAt w' b_ 1 (xs.map bV) := fun st' => hs _ _ st'
  -- how it ends
  have fin : ∀ {rem : List UInt8} {e : Int} {l : List Chunk} {w' : World}, Rd (ts.length + 1) rest [] rem e → St w0 (l ++ (tb ++ (cs ++ (d ++ fr)))) w' → rem = rest → R own ((xs.length - rest.length : Nat) : Int) e w' := by
    intro rem e l w' h st' hre
    have h1 := hrd [] rem e h
    rw [List.append_nil] at h1
    subst hre
    exact k ts _ e own sls tb cs w' h1 ob (st'.weak (l ++ d) (perm_of_sum fun f_ => by simp <;> omega))
  refine ⟨r, (st.get 0 rfl).all, sp_ref_Left o hxl hl fun w4 e4 => ⟨fun hpos => ?_, fun hpos => ?_⟩⟩
  rotate_left
  · have hpos := of_decide_eq_false hpos
    have hpos : ¬ ((rest.length : Nat) : Int) > 0 := hpos
    have hnil : rest = [] := List.eq_nil_of_length_eq_zero (by omega)
    refine fin (l := [(b1, rdV r)]) (rem := []) ?_ (st.keep e4) hnil.symm
    rw [hnil]; exact Rd.nil _
  have hpos := of_decide_eq_true hpos
  have hpos : ((rest.length : Nat) : Int) > 0 := hpos
  have hne : rest ≠ [] := fun h => by rw [h] at hpos; simp at hpos
  have st4 := st.keep e4
  have hrec : recR rest = _ := rfl
  conv at hrec => rhs; unfold recR
  refine ⟨r, (st4.get 0 rfl).all, sp_ref_Text o (hsrc (l := (b1, rdV r) :: (tb ++ (cs ++ d))) (st4.perm (perm_of_sum fun f_ => by simp <;> omega))) hl hcap (by omega) (by omega) fun r1 w5 o1 e5 b2 w6 hb2 hw6 => ?_⟩
  have st6 : St w0 ((b2, zR) :: (b1, rdV r) :: (tb ++ (cs ++ (d ++ fr)))) w6 := (st4.keep e5).alloc hb2 hw6
  refine ⟨st6.writable 0 rfl (by decide), fun w7 hw7 => ?_⟩
  have st7 : St w0 ((b2, rdV r1) :: (b1, rdV r) :: (tb ++ (cs ++ (d ++ fr)))) w7 := st6.put0 hw7
  refine ⟨r1.Code, st7.cell 0 rfl rfl, ?_⟩
  rcases textR_cases (show (0 : Int) ≤ 65536 by decide) rest with ⟨c, hc, he⟩ | ⟨x, l1, he, hel, hk⟩
  · rw [he] at hrec o1
    simp only at hrec
    rw [if_pos hc] at hrec
    have hcode : r1.Code = c := o1.code
    refine ⟨fun _ => ⟨r1.Code, st7.cell 0 rfl rfl, fun w8 e8 => ?_⟩, fun h => absurd (by rw [hcode] at h; simpa using h) hc⟩
    rw [hcode]
    exact fin (l := [(b2, rdV r1), (b1, rdV r)]) (Rd.bad hne hrec hc) (st7.keep e8) rfl
  rw [he] at hrec o1 ⊢
  simp only at hrec
  rw [if_neg (by simp)] at hrec
  have hcode : r1.Code = 0 := o1.code
  refine ⟨fun h => by rw [hcode] at h; simp at h, fun _ => ⟨r1, (st7.get 0 rfl).all, ?_⟩⟩
  refine sp_ref_Fixed o1 (hsrc (l := (b2, rdV r1) :: (b1, rdV r) :: (tb ++ (cs ++ d))) (st7.perm (perm_of_sum fun f_ => by simp <;> omega))) hl fun r2 w9 o2 e9 => ?_
  have st9 := st7.keep e9
  refine ⟨st9.writable 0 rfl (by show 0 + 4 ≤ 4; omega), fun w10 hw10 => ?_⟩
  have st10 : St w0 ((b2, rdV r2) :: (b1, rdV r) :: (tb ++ (cs ++ (d ++ fr)))) w10 := st9.put0 hw10
  refine ⟨r2.Code, st10.cell 0 rfl rfl, ?_⟩
  rcases fix4_cases l1 with ⟨_, he2⟩ | ⟨c, l2, he2, hel2, hclt⟩
  · rw [he2] at hrec o2
    simp only at hrec
    rw [if_pos (by decide)] at hrec
    have hcode : r2.Code = 5 := o2.code
    refine ⟨fun _ => ⟨r2.Code, st10.cell 0 rfl rfl, fun w8 e8 => ?_⟩, fun h => by rw [hcode] at h; simp at h⟩
    rw [hcode]
    exact fin (l := [(b2, rdV r2), (b1, rdV r)]) (Rd.bad hne hrec (by decide)) (st10.keep e8) rfl
  rw [he2] at hrec o2 ⊢
  simp only at hrec
  rw [if_neg (by simp)] at hrec
  have hcode : r2.Code = 0 := o2.code
  refine ⟨fun h => by rw [hcode] at h; simp at h, fun _ s1 w12 hos => ?_⟩
  obtain ⟨rb, ro, hsz, st12⟩ := ofString_row st10 hos
  rw [mkS_toList] at ro
  rw [mkS_size] at hsz
  have hsz : s1.len = x.length := hsz
  have ro : RowC 1 s1 (x.map bV) rb := ro
  refine sp_towpathref03_CRC (ro.src st12) (by omega) ?_
  have hcl := crcN_lt x
  have wu : IntKind.u64.wrap (U (~~~ crcF (~~~ 0#32) x)) = ((crcN x : Nat) : Int) := u64_in _ (by show (0 : Int) ≤ ((crcN _ : Nat) : Int); omega) (by show ((crcN _ : Nat) : Int) ≤ _; omega)
  rw [wu]
  by_cases hcx : c = crcN x
  rotate_left
  · rw [if_pos hcx] at hrec
    refine ⟨fun _ => fin (l := rb ++ [(b2, rdV r2), (b1, rdV r)]) (Rd.bad hne hrec (by decide)) (st12.perm (perm_of_sum fun f_ => by simp <;> omega)) rfl, fun h => ?_⟩
    have h : ((c : Nat) : Int) = ((crcN x : Nat) : Int) := bne_eq_false_iff_eq.1 h
    exact absurd (by omega) hcx
  rw [if_neg (by simpa using hcx)] at hrec
  refine ⟨fun h => by rw [hcx] at h; simp at h, fun _ => ?_⟩
  have hcap1 := ro.cap_le
  refine sp_ref_Decode st12 (fun l' w' st' => ro.src (l := l' ++ ((b2, rdV r2) :: (b1, rdV r) :: (tb ++ (cs ++ (d ++ fr))))) (st'.perm (perm_of_sum fun f_ => by simp <;> omega))) (by omega) hcap1 (fun e hd hee w13 st13 => ?_) (fun n ws hd s rb2 w13 r13 st13 => ?_)
  · rw [hd] at hrec
    simp only at hrec
    intro b3 w15 hb3 hw15
    have st15 : St w0 ((b3, txW 0 ⟨none, 0, 0⟩) :: (rb ++ ((b2, rdV r2) :: (b1, rdV r) :: (tb ++ (cs ++ (d ++ fr)))))) w15 := st13.alloc hb3 hw15
    refine ⟨st15.writable 0 rfl (by decide), fun w16 hw16 => ⟨fun _ => ?_, fun h => absurd (by simpa using h) hee⟩⟩
    have st16 : St w0 ((b3, txW 0 ⟨none, 0, 0⟩) :: (rb ++ ((b2, rdV r2) :: (b1, rdV r) :: (tb ++ (cs ++ (d ++ fr)))))) w16 := st15.put0 hw16
    exact fin (l := (b3, txW 0 ⟨none, 0, 0⟩) :: (rb ++ [(b2, rdV r2), (b1, rdV r)])) (Rd.bad hne hrec hee) (st16.perm (perm_of_sum fun f_ => by simp <;> omega)) rfl
  rw [hd] at hrec
  simp only at hrec
  have hlt := recR_lt hrec
  obtain ⟨hok, _⟩ := recR_one hrec
  intro b3 w15 hb3 hw15
  have st15 : St w0 ((b3, txW 0 ⟨none, 0, 0⟩) :: (rb2 ++ (rb ++ ((b2, rdV r2) :: (b1, rdV r) :: (tb ++ (cs ++ (d ++ fr))))))) w15 := st13.alloc hb3 hw15
  refine ⟨st15.writable 0 rfl (by decide), fun w16 hw16 => ⟨fun h => by simp at h, fun _ => ?_⟩⟩
  have st16 : St w0 ((b3, txW (n : Int) s) :: (rb2 ++ (rb ++ ((b2, rdV r2) :: (b1, rdV r) :: (tb ++ (cs ++ (d ++ fr))))))) w16 := st15.put0 hw16
  have wn : IntKind.i64.wrap (((own.len : Nat) : Int) + 1) = ((ts.length + 1 : Nat) : Int) := by rw [i64_in _ (by omega) (by omega)]; omega
  rw [wn]
  refine ⟨(n : Int), st16.cell 0 rfl rfl, fun h => ?_, fun h => ?_⟩
  · have h : (n : Int) ≠ ((ts.length + 1 : Nat) : Int) := bne_iff_ne.1 h
    exact fin (l := (b3, txW (n : Int) s) :: (rb2 ++ (rb ++ [(b2, rdV r2), (b1, rdV r)]))) (Rd.turn hne hrec h) (st16.perm (perm_of_sum fun f_ => by simp <;> omega)) rfl
  have h : (n : Int) = ((ts.length + 1 : Nat) : Int) := bne_eq_false_iff_eq.1 h
  refine ⟨⟨(n : Int), s⟩, ⟨st16.cell 0 rfl rfl, st16.cell 0 rfl rfl, trivial⟩, fun b4 w17 hb4 hw17 => ?_⟩
  have st17 := st16.alloc (cs := txW (n : Int) s) hb4 hw17
  have st17 : St w0 (tb ++ (rb2 ++ (cs ++ ((b2, rdV r2) :: (b1, rdV r) :: ((b3, txW (n : Int) s) :: (rb ++ d) ++ fr))))) w17 := st17.weak [(b4, txW (n : Int) s)] (perm_of_sum fun f_ => by simp <;> omega)
  have hn2 := hok.2.1
  have hn2 : (n : Int) ≤ 65536 := hn2
  have hws : ws.length ≤ 32 := hok.2.2.1
  have hsl : s.len = ws.length := by have := r13.len; rw [flatMap_len wV_len] at this; omega
  refine ⟨txW (n : Int) s, srcAt_newN hb4 hw17 rfl, ob.row.append st17 rfl rfl rfl (by omega) fun own' tb' w18 r18 st18 hl18 => ?_⟩
  have st18 : St w0 ((b1, rdV r) :: (b2, rdV r2) :: (tb' ++ (rb2 ++ (cs ++ ((b3, txW (n : Int) s) :: (rb ++ d) ++ fr))))) w18 := st18.perm (perm_of_sum fun f_ => by simp <;> omega)
  refine ⟨r2, (st18.get 1 rfl).all, st18.writable 0 rfl (by show 0 + 4 ≤ 4; omega), fun w19 hw19 => ?_⟩
  have st19 : St w0 ((b1, rdV r2) :: (b2, rdV r2) :: (tb' ++ (rb2 ++ (cs ++ ((b3, txW (n : Int) s) :: (rb ++ d) ++ fr))))) w19 := st18.put0 hw19
  obtain ⟨p2, hp2, hpl2, hr2⟩ := id o2.place
  have hr2 : l2 = xs.drop p2 := hr2
  have hr2l : l2.length = xs.length - p2 := by rw [hr2, List.length_drop]
  refine ⟨r2.At, st19.cell 0 rfl rfl, ⟨ts ++ [((n : Int), ws)], l2, sls ++ [s], tb', rb2 ++ cs, (b2, rdV r2) :: (b3, txW (n : Int) s) :: (rb ++ d), r2, ?_, o2, ob.snoc (t := ((n : Int), ws)) r13 (by omega) r18, fun ts' rem e h2 => ?_, by simp; omega, by simp; omega, st19.perm (perm_of_sum fun f_ => by simp <;> omega)⟩, ?_⟩
  · rw [hp2]; omega
  · have e1 : (ts ++ [((n : Int), ws)]).length + 1 = ts.length + 1 + 1 := by simp
    rw [e1] at h2
    have h3 : Rd (ts.length + 1) rest (((n : Int), ws) :: ts') rem e := Rd.step hne hrec h h2
    have := hrd _ _ _ h3
    rw [List.append_assoc]; exact this
  · show _ - r2.At.toNat < _ - _
    rw [hp2, Int.toNat_natCast, Int.toNat_natCast]; omega
end
end Go.Proofs.YtpdegdnigcnjiaaGreatDoor

namespace Go.Proofs.YtpdegdnigcnjiaaGreatDoor
open Go
set_option linter.unusedVariables false
set_option linter.unusedSimpArgs false

/-- A cell of one's own slice is written. -/
theorem RowC.set {s : Slc} {xs : List Value} {bs l : List Chunk} {w0 : Base} {w : World} {i : Nat} {v : Value} (h : RowC 1 s xs bs) (st : St w0 (bs ++ l) w) (hi : i < s.len) :
    IsAt s.ptr ∧ Writable w (pblk s.ptr) (poff s.ptr + i) 1 ∧ ∀ w', w' = World.puts (pblk s.ptr) (poff s.ptr + i) [v] w → ∃ bs', RowC 1 s (xs.set i v) bs' ∧ St w0 (bs' ++ l) w' := by
  rcases h with ⟨hp, hl, hcz, rfl, rfl⟩ | ⟨b, pre, rest, suf, hp, rfl, hx, hr, hle⟩
  · omega
  · rw [hp]
    have hx1 : xs.length = s.len := by omega
    refine ⟨rfl, st.writable 0 rfl (by show pre.length + i + 1 ≤ _; simp; omega), fun w' hw => ?_⟩
    have hn := st.put0 hw
    refine ⟨[(b, pre ++ (xs.set i v ++ (rest ++ suf)))], .inr ⟨b, pre, rest, suf, hp, rfl, by rw [List.length_set]; exact hx, by rw [List.length_set]; exact hr, hle⟩, ?_⟩
    have e : putL (poff (some ⟨b, pre.length, none⟩ : Option Addr) + i) [v] (pre ++ (xs ++ (rest ++ suf))) = pre ++ (xs.set i v ++ (rest ++ suf)) := by
      rw [putL_one]
      show (pre ++ (xs ++ (rest ++ suf))).set (pre.length + i) v = _
      rw [List.set_append_right _ _ (by omega), show pre.length + i - pre.length = i from by omega, List.set_append_left _ _ (by omega)]
    rw [e] at hn
    exact hn
end Go.Proofs.YtpdegdnigcnjiaaGreatDoor

